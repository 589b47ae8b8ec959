import PyProof.Rows.All
import HandS.ForMost
import HandS.Exc
import HandS.TryOnly
import HandS.ExcOwn
import HandS.TryMany
import HandS.Defaults
import KE.KDictKeyed
import KE.SortData
import KE.DataEq
import KE.DataIsa
import KE.KEqNest
import HandS.Lambda
import HandS.Wide
import HandS.TupMul
import HandS.TupAny
import HandS.Style
import HandS.TupLe
import HandS.Dict
import HandS.RaiseMore
import KE.KRevSl
import HandS.FStr
import HandS.Iter
import HandS.Zip
import HandS.DictComp
import HandS.ExcInit
import HandS.ExcField
import HandS.Ends
import HandS.HeadEnd
import HandS.EndTab
import HandS.HeadWalk
import HandS.HeadHook4
import HandS.Words
import HandS.Codes
import KE.IntTextText
import KE.KStateDown
import Lean
import HandS.Head0
import HandS.Head1
import HandS.Head2
import PySem.Challenge.RW_eitherrows_k02_whole_values_and_their_tu
set_option Elab.async false
set_option linter.all false
set_option maxRecDepth 100000
set_option maxHeartbeats 4000000
set_option autoImplicit false

namespace PM
open PySem PySem.Spec PyProof.Rows
open L2 hiding St
abbrev St := L2.St

/-! ## data -/
inductive D where
  | non | bl (b : Bool) | int (i : Int) | str (x : Str)
  | tup (ds : List D) | lst (ds : List D) | dic (kvs : List (D × D))
  | fn (i : Nat) | cls (i : Nat) | ty (n : String)

mutual
def D.key : D → Option NestedKey
  | .non => some .none
  | .bl b => some (.num (if b then 1 else 0))
  | .int i => some (.num i)
  | .str x => some (.text x)
  | .tup ds => (D.keys ds).map .tup
  | .lst _ => none
  | .dic _ => none
  | .fn _ => none
  | .cls _ => none
  | .ty _ => none
def D.keys : List D → Option (List NestedKey)
  | [] => some []
  | d :: ds => match D.key d, D.keys ds with
    | some k, some ks => some (k :: ks)
    | _, _ => none
end
def D.isTup : D → Bool
  | .tup _ => true
  | _ => false
def D.isLeaf : D → Bool
  | .int _ | .str _ => true
  | _ => false

mutual
def D.py : D → PyData
  | .non => .none
  | .bl b => .bool b
  | .int i => .int i
  | .str x => .str x
  | .tup ds => .tuple (D.pys ds)
  | .lst ds => .list (D.pys ds)
  | .dic kvs => .dict (D.pyKv kvs)
  | .fn _ => .none
  | .cls _ => .none
  | .ty _ => .none
def D.pys : List D → List PyData
  | [] => []
  | d :: ds => D.py d :: D.pys ds
def D.pyKv : List (D × D) → List (PyData × PyData)
  | [] => []
  | (a, b) :: r => (D.py a, D.py b) :: D.pyKv r
end
mutual
/-- plain data: no functions, classes -/
def D.isPy : D → Bool
  | .non | .bl _ | .int _ | .str _ => true
  | .tup ds => D.isPys ds
  | .lst ds => D.isPys ds
  | .dic kvs => D.isPyKv kvs
  | .fn _ | .cls _ | .ty _ => false
def D.isPys : List D → Bool
  | [] => true
  | d :: ds => D.isPy d && D.isPys ds
def D.isPyKv : List (D × D) → Bool
  | [] => true
  | (a, b) :: r => D.isPy a && (D.isPy b && D.isPyKv r)
end
theorem D.pys_map (ds : List D) : D.pys ds = ds.map D.py := by
  induction ds with
  | nil => rfl
  | cons d ds ih => rw [D.pys, ih]; rfl
theorem D.isPys_all (ds : List D) : D.isPys ds = ds.all D.isPy := by
  induction ds with
  | nil => rfl
  | cons d ds ih => rw [D.isPys, ih]; rfl

/-! ## the program's table -/
structure GT where
  P : Program
  w : World
  K : PySem.W.Frag
  fnA : Nat → Option Addr
  clsA : Nat → Option Addr
  tabs : List (Addr × Str)

/-- a list that nobody changes -/
def FLs (K : PySem.W.Frag) (H : Hp) (a : Addr) (xs : List V) : Prop :=
  ∃ o, H a = some (.frz o (.lst xs))
theorem FLs.sql {K : PySem.W.Frag} {H : Hp} {a : Addr} {xs : List V} (h : FLs K H a xs) : SqL K H a xs := let ⟨o, e⟩ := h; .inl (.inr ⟨o, e⟩)
/-- an object that is known as it is and that nobody changes -/
def KnO (K : PySem.W.Frag) (H : Hp) (a : Addr) (o : Obj) : Prop := (∃ u, H a = some (.frz o u)) ∨ K.lookup a = some o

/-- what stays for ever -/
def stays : HO → Bool
  | .tup _ => true
  | .frz _ _ => true
  | _ => false
def FP (H H' : Hp) : Prop := ∀ b o, H b = some o → stays o = true → H' b = some o
theorem FP.refl (H : Hp) : FP H H := fun _ _ e _ => e
theorem FP.trans {H H1 H2 : Hp} (a : FP H H1) (b : FP H1 H2) : FP H H2 := fun c o e s => b c o (a c o e s) s
theorem FP.sqt {K : PySem.W.Frag} {H H' : Hp} {a : Addr} {xs : List V} (p : FP H H') (h : SqT K H a xs) : SqT K H' a xs := by
  rcases h with (h | ⟨o, h⟩) | h
  · exact .inl (.inl (p _ _ h rfl))
  · exact .inl (.inr ⟨o, p _ _ h rfl⟩)
  · exact .inr h
theorem FP.fls {K : PySem.W.Frag} {H H' : Hp} {a : Addr} {xs : List V} (p : FP H H') (h : FLs K H a xs) : FLs K H' a xs := by
  obtain ⟨o, h⟩ := h
  exact ⟨o, p _ _ h rfl⟩
theorem FP.kno {K : PySem.W.Frag} {H H' : Hp} {a : Addr} {o : Obj} (p : FP H H') (h : KnO K H a o) : KnO K H' a o := by
  rcases h with ⟨u, h⟩ | h
  · exact .inl ⟨u, p _ _ h rfl⟩
  · exact .inr h

section
variable (G : GT) (H : Hp)
mutual
/-- v is the datum, of things that nobody changes -/
def Fz : D → V → Prop
  | .non, v => v = .non
  | .bl b, v => v = .bl b
  | .int i, v => v = .int i
  | .str x, v => v = .str x
  | .tup ds, v => ∃ a xs, v = .ref a ∧ SqT G.K H a xs ∧ FzL ds xs
  | .lst ds, v => ∃ a xs, v = .ref a ∧ FLs G.K H a xs ∧ FzL ds xs
  | .dic kvs, v => ∃ a o es ep, v = .ref a ∧ KnO G.K H a o ∧ (a == sysModules) = false ∧ o.ExactDict ∧ o.data = .dict es ep ∧ FzKV kvs es.toList ∧
      (kvs.map (fun p => p.1.key)).Nodup ∧ ((∀ p ∈ kvs, p.1.isLeaf = true) ∨ (∀ p ∈ kvs, p.1.isTup = true)) ∧ kvs.length ≤ sizeLine
  | .fn i, v => ∃ f, G.fnA i = some f ∧ v = .ref f
  | .cls i, v => ∃ f, G.clsA i = some f ∧ v = .ref f
  | .ty n, v => v = .ty n
def FzL : List D → List V → Prop
  | [], xs => xs = []
  | d :: ds, xs => ∃ x r, xs = x :: r ∧ Fz d x ∧ FzL ds r
def FzKV : List (D × D) → List DictEntry → Prop
  | [], es => es = []
  | (k, x) :: r, es => ∃ e s kv vv nk, es = e :: s ∧ k.key = some nk ∧ nk.depth ≤ 8 ∧ RelV kv e.key ∧ Fz k kv ∧ e.hash = nk.hash G.w ∧ RelV vv e.val ∧ Fz x vv ∧ FzKV r s
end
end

section
variable {G : GT} {H H' : Hp}
mutual
theorem Fz.mono (p : FP H H') : ∀ (d : D) (v : V), Fz G H d v → Fz G H' d v
  | .non, v, h => by simpa only [Fz] using h
  | .bl b, v, h => by simpa only [Fz] using h
  | .int i, v, h => by simpa only [Fz] using h
  | .str x, v, h => by simpa only [Fz] using h
  | .tup ds, v, h => by
    simp only [Fz] at h ⊢
    obtain ⟨a, xs, e, h1, h2⟩ := h
    exact ⟨a, xs, e, p.sqt h1, FzL.mono p ds xs h2⟩
  | .lst ds, v, h => by
    simp only [Fz] at h ⊢
    obtain ⟨a, xs, e, h1, h2⟩ := h
    exact ⟨a, xs, e, p.fls h1, FzL.mono p ds xs h2⟩
  | .dic kvs, v, h => by
    simp only [Fz] at h ⊢
    obtain ⟨a, o, es, ep, e, h1, h2, h3, h4, h5, h6⟩ := h
    exact ⟨a, o, es, ep, e, p.kno h1, h2, h3, h4, FzKV.mono p kvs _ h5, h6⟩
  | .fn i, v, h => by simpa only [Fz] using h
  | .cls i, v, h => by simpa only [Fz] using h
  | .ty n, v, h => by simpa only [Fz] using h
theorem FzL.mono (p : FP H H') : ∀ (ds : List D) (xs : List V), FzL G H ds xs → FzL G H' ds xs
  | [], xs, h => by simpa only [FzL] using h
  | d :: ds, xs, h => by
    simp only [FzL] at h ⊢
    obtain ⟨x, r, e, h1, h2⟩ := h
    exact ⟨x, r, e, Fz.mono p d x h1, FzL.mono p ds r h2⟩
theorem FzKV.mono (p : FP H H') : ∀ (kvs : List (D × D)) (es : List DictEntry), FzKV G H kvs es → FzKV G H' kvs es
  | [], es, h => by simpa only [FzKV] using h
  | (k, x) :: r, es, h => by
    simp only [FzKV] at h ⊢
    obtain ⟨e, s, kv, vv, nk, e1, h1, h2, h3, h4, h5, h6, h7, h8⟩ := h
    exact ⟨e, s, kv, vv, nk, e1, h1, h2, h3, Fz.mono p k kv h4, h5, h6, Fz.mono p x vv h7, FzKV.mono p r s h8⟩
end
theorem FzL.length : ∀ {ds : List D} {xs : List V}, FzL G H ds xs → xs.length = ds.length
  | [], xs, h => by simp only [FzL] at h; subst h; rfl
  | d :: ds, xs, h => by
    simp only [FzL] at h
    obtain ⟨x, r, e, _, h2⟩ := h
    subst e
    rw [List.length_cons, List.length_cons, FzL.length h2]
theorem FzL.append : ∀ {ds es : List D} {xs ys : List V}, FzL G H ds xs → FzL G H es ys → FzL G H (ds ++ es) (xs ++ ys)
  | [], _, xs, _, h, h' => by simp only [FzL] at h; subst h; exact h'
  | d :: ds, es, xs, ys, h, h' => by
    simp only [FzL] at h
    obtain ⟨x, r, e, h1, h2⟩ := h
    subst e
    simp only [List.cons_append, FzL]
    exact ⟨x, r ++ ys, rfl, h1, FzL.append h2 h'⟩
theorem FzL.get : ∀ {ds : List D} {xs : List V} {i : Nat} {d : D}, FzL G H ds xs → ds[i]? = some d → ∃ x, xs[i]? = some x ∧ Fz G H d x
  | [], _, _, _, _, e => by simp at e
  | d :: ds, xs, 0, d', h, e => by
    simp only [FzL] at h
    obtain ⟨x, r, e', h1, h2⟩ := h
    subst e'
    simp at e; subst e
    exact ⟨x, rfl, h1⟩
  | d :: ds, xs, i + 1, d', h, e => by
    simp only [FzL] at h
    obtain ⟨x, r, e', h1, h2⟩ := h
    subst e'
    obtain ⟨y, q1, q2⟩ := FzL.get (i := i) (d := d') h2 (by simpa using e)
    exact ⟨y, by simpa using q1, q2⟩
theorem FzL.get' : ∀ {ds : List D} {xs : List V} {i : Nat} {x : V}, FzL G H ds xs → xs[i]? = some x → ∃ d, ds[i]? = some d ∧ Fz G H d x
  | [], xs, i, x, h, e => by simp only [FzL] at h; subst h; simp at e
  | d :: ds, xs, 0, x', h, e => by
    simp only [FzL] at h
    obtain ⟨x, r, e', h1, h2⟩ := h
    subst e'
    simp at e; subst e
    exact ⟨d, rfl, h1⟩
  | d :: ds, xs, i + 1, x', h, e => by
    simp only [FzL] at h
    obtain ⟨x, r, e', h1, h2⟩ := h
    subst e'
    obtain ⟨y, q1, q2⟩ := FzL.get' (i := i) (x := x') h2 (by simpa using e)
    exact ⟨y, by simpa using q1, q2⟩
theorem FzL.take : ∀ {ds : List D} {xs : List V} (n : Nat), FzL G H ds xs → FzL G H (ds.take n) (xs.take n)
  | [], xs, n, h => by simp only [FzL] at h; subst h; simp [FzL]
  | d :: ds, xs, 0, h => by simp [FzL]
  | d :: ds, xs, n + 1, h => by
    simp only [FzL] at h
    obtain ⟨x, r, e, h1, h2⟩ := h
    subst e
    simp only [List.take_succ_cons, FzL]
    exact ⟨x, _, rfl, h1, FzL.take n h2⟩
theorem FzL.drop : ∀ {ds : List D} {xs : List V} (n : Nat), FzL G H ds xs → FzL G H (ds.drop n) (xs.drop n)
  | [], xs, n, h => by simp only [FzL] at h; subst h; simp [FzL]
  | d :: ds, xs, 0, h => by simpa using h
  | d :: ds, xs, n + 1, h => by
    simp only [FzL] at h
    obtain ⟨x, r, e, h1, h2⟩ := h
    subst e
    simp only [List.drop_succ_cons]
    exact FzL.drop n h2
theorem FzL.set : ∀ {ds : List D} {xs : List V} {d : D} {x : V} (i : Nat), FzL G H ds xs → Fz G H d x → FzL G H (ds.set i d) (xs.set i x)
  | [], xs, _, _, i, h, _ => by simp only [FzL] at h; subst h; simp [FzL]
  | d :: ds, xs, d', x', 0, h, hx => by
    simp only [FzL] at h
    obtain ⟨x, r, e, h1, h2⟩ := h
    subst e
    simp only [List.set_cons_zero, FzL]
    exact ⟨x', r, rfl, hx, h2⟩
  | d :: ds, xs, d', x', i + 1, h, hx => by
    simp only [FzL] at h
    obtain ⟨x, r, e, h1, h2⟩ := h
    subst e
    simp only [List.set_cons_succ, FzL]
    exact ⟨x, _, rfl, h1, FzL.set i h2 hx⟩
theorem FzL.reverse {ds : List D} {xs : List V} (h : FzL G H ds xs) : FzL G H ds.reverse xs.reverse := by
  induction ds generalizing xs with
  | nil => simp only [FzL] at h; subst h; simp [FzL]
  | cons d ds ih =>
    simp only [FzL] at h
    obtain ⟨x, r, e, h1, h2⟩ := h
    subst e
    rw [List.reverse_cons, List.reverse_cons]
    exact (ih h2).append (by simp only [FzL]; exact ⟨x, [], rfl, h1, rfl⟩)
theorem FzL.cons {d : D} {ds : List D} {x : V} {xs : List V} (h : Fz G H d x) (t : FzL G H ds xs) : FzL G H (d :: ds) (x :: xs) := by
  simp only [FzL]; exact ⟨x, xs, rfl, h, t⟩
theorem FzL.nil : FzL G H [] [] := by simp [FzL]
theorem FzL.one {d : D} {x : V} (h : Fz G H d x) : FzL G H [d] [x] := FzL.cons h .nil
end
end PM

namespace PM
open PySem PySem.Spec PyProof.Rows
open L2 hiding St

section
variable {P : Program} {w : World} {K : PySem.W.Frag} {H : Hp} {h : Heap} {a : Addr} {xs : List V}
theorem tupAt (ok : HOk P w H h) (kin : K.In h) (q : SqT K H a xs) : ∃ its : List Value, Vals xs its ∧ IsTup h a its.toArray ∧ xs.length ≤ sizeLine := by
  rcases q with q | ⟨o, its, n, hk, hc, hs, hz, r⟩
  · obtain ⟨z, its, r, p⟩ := q.ok ok
    exact ⟨its, r, p, z⟩
  · refine ⟨its.toList, r, ⟨o, kin a o hk, hc, n, by simpa using hs⟩, ?_⟩
    have e := r.length
    simp only [Array.length_toList] at e
    omega
theorem lstAt (ok : HOk P w H h) (kin : K.In h) (q : SqL K H a xs) : ∃ its : List Value, Vals xs its ∧ PlainL h a its.toArray ∧ xs.length ≤ sizeLine := by
  rcases q with q | ⟨o, its, n, hk, hc, hd, hs, hz, r⟩
  · obtain ⟨z, its, n, r, e⟩ := q.ok ok
    exact ⟨its, r, ⟨_, n, e, rfl, rfl, rfl⟩, z⟩
  · refine ⟨its.toList, r, ⟨o, n, kin a o hk, hc, hd, by simpa using hs⟩, ?_⟩
    have e := r.length
    simp only [Array.length_toList] at e
    omega
theorem KnO.at {o : Obj} (ok : HOk P w H h) (kin : K.In h) (q : KnO K H a o) : h.get? a = some o := by
  rcases q with ⟨u, q⟩ | q
  · exact (ok a _ q).1
  · exact kin a o q
end

section
variable {G : GT} {H : Hp} {h : Heap}
mutual
theorem Fz.reads (ok : HOk G.P G.w H h) (kin : G.K.In h) : ∀ (d : D) (v : V) (u : Value), d.isPy = true → Fz G H d v → RelV v u → ∃ as, Reads h u d.py as
  | .non, v, u, _, f, r => by simp only [Fz] at f; subst f; cases r; exact ⟨_, .none⟩
  | .bl b, v, u, _, f, r => by simp only [Fz] at f; subst f; cases r; exact ⟨_, .bool b⟩
  | .int i, v, u, _, f, r => by simp only [Fz] at f; subst f; obtain ⟨t, rfl⟩ := r; exact ⟨_, .int i t⟩
  | .str x, v, u, _, f, r => by simp only [Fz] at f; subst f; obtain ⟨t, rfl⟩ := r; exact ⟨_, .str x t⟩
  | .tup ds, v, u, p, f, r => by
    simp only [Fz] at f
    obtain ⟨a, xs, rfl, h1, h2⟩ := f
    cases r
    obtain ⟨its, rv, ⟨o, ho, hc, n, hd⟩, _⟩ := tupAt ok kin h1
    obtain ⟨as, q⟩ := FzL.reads ok kin ds xs its (by simpa only [D.isPy] using p) h2 rv
    exact ⟨as, .tuple ho hc hd q⟩
  | .lst ds, v, u, p, f, r => by
    simp only [Fz] at f
    obtain ⟨a, xs, rfl, h1, h2⟩ := f
    cases r
    obtain ⟨its, rv, ⟨o, n, ho, hc, _, hd⟩, _⟩ := lstAt ok kin h1.sql
    obtain ⟨as, q⟩ := FzL.reads ok kin ds xs its (by simpa only [D.isPy] using p) h2 rv
    exact ⟨_, .list ho hc hd q⟩
  | .dic kvs, v, u, p, f, r => by
    simp only [Fz] at f
    obtain ⟨a, o, es, ep, rfl, h1, h2, h3, h4, h5, _⟩ := f
    cases r
    obtain ⟨as, bs, q1, q2⟩ := FzKV.reads ok kin kvs es.toList (by simpa only [D.isPy] using p) h5
    have e1 : ∀ l : List (D × D), (D.pyKv l).map (·.1) = D.pys (l.map (·.1)) := fun l => by
      induction l with
      | nil => rfl
      | cons x l ih => obtain ⟨x1, x2⟩ := x; simp only [D.pyKv, List.map_cons, D.pys, ih]
    have e2 : ∀ l : List (D × D), (D.pyKv l).map (·.2) = D.pys (l.map (·.2)) := fun l => by
      induction l with
      | nil => rfl
      | cons x l ih => obtain ⟨x1, x2⟩ := x; simp only [D.pyKv, List.map_cons, D.pys, ih]
    exact ⟨_, .dict (h1.at ok kin) h3.1 h4 (by rw [e1]; exact q1) (by rw [e2]; exact q2)⟩
  | .fn i, v, u, p, f, r => by simp [D.isPy] at p
  | .cls i, v, u, p, f, r => by simp [D.isPy] at p
  | .ty n, v, u, p, f, r => by simp [D.isPy] at p
theorem FzL.reads (ok : HOk G.P G.w H h) (kin : G.K.In h) : ∀ (ds : List D) (xs : List V) (us : List Value), D.isPys ds = true → FzL G H ds xs → Vals xs us → ∃ as, ReadsAll h us (D.pys ds) as
  | [], xs, us, _, f, r => by simp only [FzL] at f; subst f; cases r; exact ⟨_, .nil⟩
  | d :: ds, xs, us, p, f, r => by
    simp only [FzL] at f
    obtain ⟨x, t, rfl, h1, h2⟩ := f
    simp only [D.isPys, Bool.and_eq_true] at p
    cases r with
    | cons r1 r2 =>
      obtain ⟨as, q1⟩ := Fz.reads ok kin d x _ p.1 h1 r1
      obtain ⟨bs, q2⟩ := FzL.reads ok kin ds t _ p.2 h2 r2
      exact ⟨_, .cons q1 q2⟩
theorem FzKV.reads (ok : HOk G.P G.w H h) (kin : G.K.In h) : ∀ (kvs : List (D × D)) (es : List DictEntry), D.isPyKv kvs = true → FzKV G H kvs es →
    ∃ as bs, ReadsAll h (es.map (·.key)) (D.pys (kvs.map (·.1))) as ∧ ReadsAll h (es.map (·.val)) (D.pys (kvs.map (·.2))) bs
  | [], es, _, f => by simp only [FzKV] at f; subst f; exact ⟨_, _, .nil, .nil⟩
  | (k, x) :: r, es, p, f => by
    simp only [FzKV] at f
    obtain ⟨e, s, kv, vv, nk, rfl, h1, h2, h3, h4, h5, h6, h7, h8⟩ := f
    simp only [D.isPyKv, Bool.and_eq_true] at p
    obtain ⟨a1, q1⟩ := Fz.reads ok kin k kv _ p.1 h4 h3
    obtain ⟨a2, q2⟩ := Fz.reads ok kin x vv _ p.2.1 h7 h6
    obtain ⟨a3, a4, q3, q4⟩ := FzKV.reads ok kin r s p.2.2 h8
    exact ⟨_, _, .cons q1 q3, .cons q2 q4⟩
end
end

/-! ## owned things -/
inductive OV where
  | frz (d : D)
  | lst (os : List OV)
  | dic (kvs : List (D × OV))
  | ins (c : Nat) (fs : List (Str × OV))

mutual
def OV.d : OV → D
  | .frz d => d
  | .lst os => .lst (OV.ds os)
  | .dic kvs => .dic (OV.dkv kvs)
  | .ins _ _ => .non
def OV.ds : List OV → List D
  | [] => []
  | o :: os => OV.d o :: OV.ds os
def OV.dkv : List (D × OV) → List (D × D)
  | [] => []
  | (k, o) :: r => (k, OV.d o) :: OV.dkv r
end

/-- an object as it is, which may be changed -/
def raw (a : Addr) (o : Obj) : HO := .ext fun h => h.get? a = some o
theorem raw_stays (a : Addr) (o : Obj) : stays (raw a o) = false := rfl
theorem raw_ok {P : Program} {w : World} {H : Hp} {h : Heap} {a : Addr} {o : Obj} (e : h.get? a = some o) : ObjOk P w H h a (raw a o) := ⟨e, ⟨o, e⟩, fun _ _ q k => k _ q⟩
theorem raw_at {P : Program} {w : World} {H : Hp} {h : Heap} {a : Addr} {o : Obj} (ok : HOk P w H h) (e : H a = some (raw a o)) : h.get? a = some o := (ok a _ e).1

section
variable (G : GT) (H : Hp)
mutual
/-- v is o; as: the addresses of what it owns -/
def Ov : OV → V → List Addr → Prop
  | .frz d, v, as => Fz G H d v ∧ as = []
  | .lst os, v, as => ∃ a xs bs, v = .ref a ∧ H a = some (.lst xs) ∧ OvL os xs bs ∧ as = a :: bs
  | .dic kvs, v, as => ∃ a o es ep bs, v = .ref a ∧ H a = some (raw a o) ∧ (a == sysModules) = false ∧ o.ExactDict ∧ o.data = .dict es ep ∧ OvKV kvs es.toList bs ∧
      (kvs.map (fun p => p.1.key)).Nodup ∧ ((∀ p ∈ kvs, p.1.isLeaf = true) ∨ (∀ p ∈ kvs, p.1.isTup = true)) ∧ kvs.length ≤ sizeLine ∧ as = a :: bs
  | .ins c fs, v, as => ∃ a C dx vs bs, v = .ref a ∧ G.clsA c = some C ∧ H a = some (.ins C dx vs) ∧ H dx = some (.own a) ∧ OvF fs vs bs ∧ as = a :: bs
def OvL : List OV → List V → List Addr → Prop
  | [], xs, as => xs = [] ∧ as = []
  | o :: os, xs, as => ∃ x r a1 a2, xs = x :: r ∧ Ov o x a1 ∧ OvL os r a2 ∧ as = a1 ++ a2
def OvKV : List (D × OV) → List DictEntry → List Addr → Prop
  | [], es, as => es = [] ∧ as = []
  | (k, x) :: r, es, as => ∃ e s kv vv nk a1 a2, es = e :: s ∧ k.key = some nk ∧ nk.depth ≤ 8 ∧ RelV kv e.key ∧ Fz G H k kv ∧ e.hash = nk.hash G.w ∧ RelV vv e.val ∧ Ov x vv a1 ∧ OvKV r s a2 ∧ as = a1 ++ a2
def OvF : List (Str × OV) → List (Str × V) → List Addr → Prop
  | [], vs, as => vs = [] ∧ as = []
  | (f, o) :: r, vs, as => ∃ x s a1 a2, vs = (f, x) :: s ∧ Ov o x a1 ∧ OvF r s a2 ∧ as = a1 ++ a2
end
end

/-- tables of code objects -/
def notTbl : HO → Bool
  | .tbl _ => false
  | _ => true
/-- all but what stands at O is kept (tables may grow) -/
def Keep (O : List Addr) (H H' : Hp) : Prop := ∀ b o, H b = some o → b ∉ O → notTbl o = true → H' b = some o
theorem Keep.refl {O : List Addr} {H : Hp} : Keep O H H := fun _ _ e _ _ => e
theorem Keep.trans {O O1 : List Addr} {H H1 H2 : Hp} (a : Keep O H H1) (b : Keep O1 H1 H2) (s : ∀ c ∈ O1, c ∈ O ∨ H c = none) : Keep O H H2 := fun c o e n t => b c o (a c o e n t) (fun z => (s c z).elim n fun q => by rw [q] at e; cases e) t
theorem Keep.mono {O O1 : List Addr} {H H1 : Hp} (a : Keep O H H1) (s : ∀ c ∈ O, c ∈ O1) : Keep O1 H H1 := fun c o e n t => a c o e (fun z => n (s c z)) t

section
variable {G : GT} {H H' : Hp} {O : List Addr}
/-- all of O may be changed -/
def MutO (H : Hp) (O : List Addr) : Prop := ∀ b ∈ O, ∃ o, H b = some o ∧ stays o = false ∧ Mut (some o)
theorem Keep.fp (k : Keep O H H') (m : MutO H O) : FP H H' := fun b o e s => k b o e (fun z => by
  obtain ⟨o', e', s', _⟩ := m b z
  rw [e] at e'; cases e'
  rw [s] at s'; cases s') (by cases o <;> first | rfl | cases s)
mutual
theorem Ov.mut : ∀ (o : OV) (v : V) (as : List Addr), Ov G H o v as → MutO H as
  | .frz d, v, as, h => by simp only [Ov] at h; obtain ⟨_, rfl⟩ := h; intro b hb; cases hb
  | .lst os, v, as, h => by
    simp only [Ov] at h
    obtain ⟨a, xs, bs, _, h1, h2, rfl⟩ := h
    intro b hb
    rcases List.mem_cons.mp hb with rfl | hb
    · exact ⟨_, h1, rfl, trivial⟩
    · exact OvL.mut os xs bs h2 b hb
  | .dic kvs, v, as, h => by
    simp only [Ov] at h
    obtain ⟨a, o, es, ep, bs, _, h1, _, _, _, h2, _, _, _, rfl⟩ := h
    intro b hb
    rcases List.mem_cons.mp hb with rfl | hb
    · exact ⟨_, h1, rfl, trivial⟩
    · exact OvKV.mut kvs _ bs h2 b hb
  | .ins c fs, v, as, h => by
    simp only [Ov] at h
    obtain ⟨a, C, dx, vs, bs, _, _, h1, _, h2, rfl⟩ := h
    intro b hb
    rcases List.mem_cons.mp hb with rfl | hb
    · exact ⟨_, h1, rfl, trivial⟩
    · exact OvF.mut fs vs bs h2 b hb
theorem OvL.mut : ∀ (os : List OV) (xs : List V) (as : List Addr), OvL G H os xs as → MutO H as
  | [], xs, as, h => by simp only [OvL] at h; obtain ⟨_, rfl⟩ := h; intro b hb; cases hb
  | o :: os, xs, as, h => by
    simp only [OvL] at h
    obtain ⟨x, r, a1, a2, _, h1, h2, rfl⟩ := h
    intro b hb
    exact (List.mem_append.mp hb).elim (Ov.mut o x a1 h1 b) (OvL.mut os r a2 h2 b)
theorem OvKV.mut : ∀ (kvs : List (D × OV)) (es : List DictEntry) (as : List Addr), OvKV G H kvs es as → MutO H as
  | [], es, as, h => by simp only [OvKV] at h; obtain ⟨_, rfl⟩ := h; intro b hb; cases hb
  | (k, o) :: r, es, as, h => by
    simp only [OvKV] at h
    obtain ⟨e, s, kv, vv, nk, a1, a2, _, _, _, _, _, _, _, h1, h2, rfl⟩ := h
    intro b hb
    exact (List.mem_append.mp hb).elim (Ov.mut o vv a1 h1 b) (OvKV.mut r s a2 h2 b)
theorem OvF.mut : ∀ (fs : List (Str × OV)) (vs : List (Str × V)) (as : List Addr), OvF G H fs vs as → MutO H as
  | [], vs, as, h => by simp only [OvF] at h; obtain ⟨_, rfl⟩ := h; intro b hb; cases hb
  | (f, o) :: r, vs, as, h => by
    simp only [OvF] at h
    obtain ⟨x, s, a1, a2, _, h1, h2, rfl⟩ := h
    intro b hb
    exact (List.mem_append.mp hb).elim (Ov.mut o x a1 h1 b) (OvF.mut r s a2 h2 b)
end
mutual
/-- it stays, where all that changes stands elsewhere -/
theorem Ov.keep (k : Keep O H H') (p : MutO H O) : ∀ (o : OV) (v : V) (as : List Addr), Ov G H o v as → (∀ b ∈ as, b ∉ O) → Ov G H' o v as
  | .frz d, v, as, h, n => by
    simp only [Ov] at h ⊢
    exact ⟨Fz.mono (k.fp p) d v h.1, h.2⟩
  | .lst os, v, as, h, n => by
    simp only [Ov] at h ⊢
    obtain ⟨a, xs, bs, e, h1, h2, rfl⟩ := h
    exact ⟨a, xs, bs, e, k _ _ h1 (n a (List.mem_cons_self ..)) rfl, OvL.keep k p os xs bs h2 fun b hb => n b (List.mem_cons_of_mem _ hb), rfl⟩
  | .dic kvs, v, as, h, n => by
    simp only [Ov] at h ⊢
    obtain ⟨a, o, es, ep, bs, e, h1, h2, h3, h4, h5, h6, h7, h8, rfl⟩ := h
    exact ⟨a, o, es, ep, bs, e, k _ _ h1 (n a (List.mem_cons_self ..)) rfl, h2, h3, h4, OvKV.keep k p kvs _ bs h5 (fun b hb => n b (List.mem_cons_of_mem _ hb)), h6, h7, h8, rfl⟩
  | .ins c fs, v, as, h, n => by
    simp only [Ov] at h ⊢
    obtain ⟨a, C, dx, vs, bs, e, h1, h2, h2', h3, rfl⟩ := h
    refine ⟨a, C, dx, vs, bs, e, h1, k _ _ h2 (n a (List.mem_cons_self ..)) rfl, k _ _ h2' (fun z => ?_) rfl, OvF.keep k p fs vs bs h3 fun b hb => n b (List.mem_cons_of_mem _ hb), rfl⟩
    obtain ⟨o', e', _, m⟩ := p dx z
    rw [h2'] at e'; cases e'
    exact m
theorem OvL.keep (k : Keep O H H') (p : MutO H O) : ∀ (os : List OV) (xs : List V) (as : List Addr), OvL G H os xs as → (∀ b ∈ as, b ∉ O) → OvL G H' os xs as
  | [], xs, as, h, n => by simpa only [OvL] using h
  | o :: os, xs, as, h, n => by
    simp only [OvL] at h ⊢
    obtain ⟨x, r, a1, a2, e, h1, h2, rfl⟩ := h
    exact ⟨x, r, a1, a2, e, Ov.keep k p o x a1 h1 fun b hb => n b (List.mem_append_left _ hb), OvL.keep k p os r a2 h2 fun b hb => n b (List.mem_append_right _ hb), rfl⟩
theorem OvKV.keep (k : Keep O H H') (p : MutO H O) : ∀ (kvs : List (D × OV)) (es : List DictEntry) (as : List Addr), OvKV G H kvs es as → (∀ b ∈ as, b ∉ O) → OvKV G H' kvs es as
  | [], es, as, h, n => by simpa only [OvKV] using h
  | (q, o) :: r, es, as, h, n => by
    simp only [OvKV] at h ⊢
    obtain ⟨e, s, kv, vv, nk, a1, a2, z1, z2, z3, z4, z5, z6, z7, h1, h2, rfl⟩ := h
    exact ⟨e, s, kv, vv, nk, a1, a2, z1, z2, z3, z4, Fz.mono (k.fp p) q kv z5, z6, z7, Ov.keep k p o vv a1 h1 fun b hb => n b (List.mem_append_left _ hb), OvKV.keep k p r s a2 h2 fun b hb => n b (List.mem_append_right _ hb), rfl⟩
theorem OvF.keep (k : Keep O H H') (p : MutO H O) : ∀ (fs : List (Str × OV)) (vs : List (Str × V)) (as : List Addr), OvF G H fs vs as → (∀ b ∈ as, b ∉ O) → OvF G H' fs vs as
  | [], vs, as, h, n => by simpa only [OvF] using h
  | (f, o) :: r, vs, as, h, n => by
    simp only [OvF] at h ⊢
    obtain ⟨x, s, a1, a2, e, h1, h2, rfl⟩ := h
    exact ⟨x, s, a1, a2, e, Ov.keep k p o x a1 h1 fun b hb => n b (List.mem_append_left _ hb), OvF.keep k p r s a2 h2 fun b hb => n b (List.mem_append_right _ hb), rfl⟩
end
end
end PM

namespace PM
open PySem PySem.Spec PyProof.Rows
open L2 hiding St

/-! ## freezing -/
mutual
/-- it can be frozen: no instance within -/
def OV.cool : OV → Bool
  | .frz _ => true
  | .lst os => OV.cools os
  | .dic kvs => OV.coolKV kvs
  | .ins _ _ => false
def OV.cools : List OV → Bool
  | [] => true
  | o :: os => OV.cool o && OV.cools os
def OV.coolKV : List (D × OV) → Bool
  | [] => true
  | (_, o) :: r => OV.cool o && OV.coolKV r
end

/-- no object comes -/
def Sub (H H' : Hp) : Prop := ∀ b, H b = none → H' b = none
theorem Sub.refl (H : Hp) : Sub H H := fun _ e => e
theorem Sub.trans {H H1 H2 : Hp} (a : Sub H H1) (b : Sub H1 H2) : Sub H H2 := fun c e => b c (a c e)

/-- the tables of code objects that are watched, each with the name of its lambdas -/
class TC where
  ts : List (Addr × Str)
variable [TC]
/-- .. stay such -/
def TabK (H H' : Hp) : Prop := ∀ p ∈ TC.ts, LamX.TabS H p.1 p.2 → LamX.TabS H' p.1 p.2
/-- what is tracked stays tracked, the tables stay such -/
structure Dom (H H' : Hp) : Prop where
  no : ∀ b, H' b = none → H b = none
  tab : TabK H H'
instance {H H' : Hp} : CoeFun (Dom H H') (fun _ => ∀ b, H' b = none → H b = none) := ⟨Dom.no⟩
theorem Dom.refl (H : Hp) : Dom H H := ⟨fun _ e => e, fun _ _ h => h⟩
theorem Dom.trans {H H1 H2 : Hp} (a : Dom H H1) (b : Dom H1 H2) : Dom H H2 := ⟨fun c e => a.no c (b.no c e), fun P q h => b.tab P q (a.tab P q h)⟩
theorem upd_no {H : Hp} {a : Addr} {o : HO} (b : Addr) (e : upd H a o b = none) : H b = none := by
  by_cases z : b = a
  · subst z; rw [upd_same] at e; cases e
  · rw [upd_ne z] at e; exact e
/-- no table, no code object -/
def noCode (a : Addr) (u : HO) : Prop := (∀ ps, u ≠ .tbl ps) ∧ ∀ q, u ≠ LamX.CodeO a q
theorem Dom.all {H H' : Hp} (n : ∀ b, H' b = none → H b = none) (k : ∀ b o, H b = some o → H' b = some o) : Dom H H' := ⟨n, fun _ _ h => h.ext k⟩
theorem Dom.new {H : Hp} {a : Addr} {o : HO} (n : H a = none) : Dom H (upd H a o) := .all upd_no fun b u e => by rw [upd_ne (fun z => by rw [z, n] at e; cases e)]; exact e
theorem Dom.upd {H : Hp} {a : Addr} {u o : HO} (e : H a = some u) (c : noCode a u) : Dom H (upd H a o) := ⟨upd_no, fun P q ⟨ps, h1, h2, h3⟩ => by
  have ne : P.1 ≠ a := fun z => by
    rw [z, e] at h1
    exact c.1 ps (Option.some.inj h1)
  refine ⟨ps, by rw [upd_ne ne]; exact h1, h2, fun pos cv hc => ?_⟩
  obtain ⟨d, e1, e2⟩ := h3 pos cv hc
  refine ⟨d, e1, ?_⟩
  rw [upd_ne (fun z => ?_)]
  · exact e2
  · subst z
    rw [e] at e2
    exact c.2 P.2 (Option.some.inj e2)⟩
theorem noCode_lst {a : Addr} {xs : List V} : noCode a (.lst xs) := ⟨fun _ z => (by cases z), fun _ z => by unfold LamX.CodeO at z; cases z⟩
theorem noCode_raw {a : Addr} {o : Obj} {es : Array DictEntry} {ep : Nat} (hd : o.data = .dict es ep) : noCode a (raw a o) := by
  refine ⟨fun _ z => (by unfold raw at z; cases z), fun q z => ?_⟩
  unfold raw LamX.CodeO at z
  injection z with z
  have hg : (⟨Array.replicate (a + 1) o, {}⟩ : Heap).get? a = some o := by
    unfold Heap.get?
    have : (Array.replicate (a + 1) o)[a]? = some o := by simp
    simp only [this]
    obtain ⟨c, d, da, sl⟩ := o
    simp only at hd
    subst hd
    rfl
  have h1 := congrFun z ⟨Array.replicate (a + 1) o, {}⟩
  have h2 : ∃ (oc : Obj) (vs : Array Value) (t : Tok), (⟨Array.replicate (a + 1) o, {}⟩ : Heap).get? a = some oc ∧ oc.data = .fields vs ∧ vs[1]? = some (.str q t) := by rw [← h1]; exact hg
  obtain ⟨oc, vs, t, e1, e2, _⟩ := h2
  rw [hg] at e1
  cases e1
  rw [hd] at e2
  cases e2
theorem keep_upd {H : Hp} {a : Addr} {o : HO} : Keep [a] H (upd H a o) := fun b u e n _ => by rw [upd_ne (by simpa using n)]; exact e
theorem mutO_one {H : Hp} {a : Addr} {o : HO} (e : H a = some o) (s : stays o = false) (m : Mut (some o)) : MutO H [a] := fun b hb => by
  have : b = a := by simpa using hb
  subst this; exact ⟨o, e, s, m⟩
theorem MutO.app {H : Hp} {O O' : List Addr} (a : MutO H O) (b : MutO H O') : MutO H (O ++ O') := fun c hc => (List.mem_append.mp hc).elim (a c) (b c)
theorem MutO.left {H : Hp} {O O' : List Addr} (a : MutO H (O ++ O')) : MutO H O := fun c hc => a c (List.mem_append_left _ hc)
theorem MutO.right {H : Hp} {O O' : List Addr} (a : MutO H (O ++ O')) : MutO H O' := fun c hc => a c (List.mem_append_right _ hc)

section
variable {X : Cx} {pins : List (Addr × Obj)} {σ : St} {s : Shared} {H : Hp} {a : Addr}
theorem frz_list {xs : List V} (I : Inv X pins σ H s) (e : H a = some (.lst xs)) : ∃ o, Inv X pins σ (upd H a (.frz o (.lst xs))) s := by
  obtain ⟨z, its, n, r, ho⟩ := I.hok a _ e
  refine ⟨_, I.write (t' := s.toks) (h' := s.heap) (o := .frz { cls := .type "list", data := .seq its.toArray n } (.lst xs)) (by rw [e]; trivial) (.inl rfl) (fun _ _ _ q => q) ⟨_, ho⟩ ?_⟩
  exact ⟨ho, z, its, n, r, ho⟩
theorem frz_raw {o : Obj} (I : Inv X pins σ H s) (e : H a = some (raw a o)) : Inv X pins σ (upd H a (.frz o (.own a))) s := by
  have ho := raw_at I.hok e
  exact I.write (t' := s.toks) (h' := s.heap) (o := .frz o (.own a)) (by rw [e]; trivial) (.inl rfl) (fun _ _ _ q => q) ⟨_, ho⟩ ⟨ho, o, ho⟩
theorem sub_upd {o u : HO} (e : H a = some o) : Sub H (upd H a u) := fun b n => by
  rw [upd_ne (fun z => by rw [z, e] at n; cases n)]; exact n
end

section
variable {G : GT} {X : Cx} {pins : List (Addr × Obj)} {σ : St} {s : Shared}
theorem nd_cons {a : Addr} {l : List Addr} (h : (a :: l).Nodup) : a ∉ l ∧ l.Nodup := List.nodup_cons.mp h
theorem nd_app {l m : List Addr} (h : (l ++ m).Nodup) : l.Nodup ∧ m.Nodup ∧ ∀ b ∈ l, b ∉ m := by
  rw [List.nodup_append] at h
  exact ⟨h.1, h.2.1, fun b hb hm => h.2.2 b hb b hm rfl⟩
theorem nd_mk {l m : List Addr} (h1 : l.Nodup) (h2 : m.Nodup) (h3 : ∀ b ∈ l, b ∉ m) : (l ++ m).Nodup := by
  rw [List.nodup_append]
  exact ⟨h1, h2, fun b hb c hc e => h3 b hb (e ▸ hc)⟩
mutual
theorem Ov.freeze : ∀ (o : OV) (v : V) (as : List Addr) (H : Hp), o.cool = true → Inv X pins σ H s → Ov G H o v as → as.Nodup →
    ∃ H', Inv X pins σ H' s ∧ Keep as H H' ∧ Sub H H' ∧ Dom H H' ∧ Fz G H' o.d v
  | .frz d, v, as, H, c, I, h, nd => by
    simp only [Ov] at h
    obtain ⟨h, rfl⟩ := h
    exact ⟨H, I, .refl, .refl H, .refl H, by simpa only [OV.d] using h⟩
  | .lst os, v, as, H, c, I, h, nd => by
    simp only [Ov] at h
    obtain ⟨a, xs, bs, rfl, h1, h2, rfl⟩ := h
    obtain ⟨n1, n2⟩ := nd_cons nd
    obtain ⟨o, I1⟩ := frz_list I h1
    have ne : ∀ b ∈ bs, b ∉ [a] := fun b hb z => n1 ((List.mem_singleton.mp z) ▸ hb)
    have h2' := OvL.keep (keep_upd (a := a) (o := .frz o (.lst xs))) (mutO_one h1 rfl trivial) os xs bs h2 ne
    obtain ⟨H', I2, k2, s2, d2, f2⟩ := OvL.freeze os xs bs _ (by simpa only [OV.cool] using c) I1 h2' n2
    have k1 : Keep (a :: bs) H (upd H a (.frz o (.lst xs))) := keep_upd.mono (fun c hc => List.mem_cons.mpr (.inl (List.mem_singleton.mp hc)))
    have k3 : Keep (a :: bs) (upd H a (.frz o (.lst xs))) H' := k2.mono fun c hc => List.mem_cons_of_mem _ hc
    refine ⟨H', I2, k1.trans k3 (fun c hc => .inl hc), (sub_upd h1).trans s2, (Dom.upd h1 noCode_lst).trans d2, ?_⟩
    simp only [OV.d, Fz]
    exact ⟨a, xs, rfl, ⟨o, k2 a _ upd_same n1 rfl⟩, f2⟩
  | .dic kvs, v, as, H, c, I, h, nd => by
    simp only [Ov] at h
    obtain ⟨a, o, es, ep, bs, rfl, h1, hs, hx, hd, h2, hn, hl, hz, rfl⟩ := h
    obtain ⟨n1, n2⟩ := nd_cons nd
    have I1 := frz_raw I h1
    have ne : ∀ b ∈ bs, b ∉ [a] := fun b hb z => n1 ((List.mem_singleton.mp z) ▸ hb)
    have h2' := OvKV.keep (keep_upd (a := a) (o := .frz o (.own a))) (mutO_one h1 rfl trivial) kvs _ bs h2 ne
    obtain ⟨H', I2, k2, s2, d2, f2⟩ := OvKV.freeze kvs _ bs _ (by simpa only [OV.cool] using c) I1 h2' n2
    have k1 : Keep (a :: bs) H (upd H a (.frz o (.own a))) := keep_upd.mono (fun c hc => List.mem_cons.mpr (.inl (List.mem_singleton.mp hc)))
    have k3 : Keep (a :: bs) (upd H a (.frz o (.own a))) H' := k2.mono fun c hc => List.mem_cons_of_mem _ hc
    refine ⟨H', I2, k1.trans k3 (fun c hc => .inl hc), (sub_upd h1).trans s2, (Dom.upd h1 (noCode_raw hd)).trans d2, ?_⟩
    have ek : ∀ kvs : List (D × OV), (OV.dkv kvs).map (fun p => p.1.key) = kvs.map (fun p => p.1.key) := fun kvs => by
      induction kvs with
      | nil => rfl
      | cons p r ih => obtain ⟨k, x⟩ := p; simp only [OV.dkv, List.map_cons, ih]
    have el : ∀ (kvs : List (D × OV)) (q : D → Bool), (∀ p ∈ kvs, q p.1 = true) → ∀ p ∈ OV.dkv kvs, q p.1 = true := fun kvs q => by
      induction kvs with
      | nil => intro _ p hp; simp [OV.dkv] at hp
      | cons p r ih =>
        obtain ⟨k, x⟩ := p
        intro h p hp
        simp only [OV.dkv, List.mem_cons] at hp
        rcases hp with rfl | hp
        · exact h (k, x) (List.mem_cons_self ..)
        · exact ih (fun p hp => h p (List.mem_cons_of_mem _ hp)) p hp
    have ez : ∀ kvs : List (D × OV), (OV.dkv kvs).length = kvs.length := fun kvs => by
      induction kvs with
      | nil => rfl
      | cons p r ih => obtain ⟨k, x⟩ := p; simp only [OV.dkv, List.length_cons, ih]
    simp only [OV.d, Fz]
    exact ⟨a, o, es, ep, rfl, .inl ⟨.own a, k2 a _ upd_same n1 rfl⟩, hs, hx, hd, f2, by rw [ek]; exact hn, hl.imp (el _ _) (el _ _), by rw [ez]; exact hz⟩
  | .ins _ _, v, as, H, c, I, h, nd => by simp [OV.cool] at c
theorem OvL.freeze : ∀ (os : List OV) (xs : List V) (as : List Addr) (H : Hp), OV.cools os = true → Inv X pins σ H s → OvL G H os xs as → as.Nodup →
    ∃ H', Inv X pins σ H' s ∧ Keep as H H' ∧ Sub H H' ∧ Dom H H' ∧ FzL G H' (OV.ds os) xs
  | [], xs, as, H, c, I, h, nd => by
    simp only [OvL] at h
    obtain ⟨rfl, rfl⟩ := h
    exact ⟨H, I, .refl, .refl H, .refl H, by simp [OV.ds, FzL]⟩
  | o :: os, xs, as, H, c, I, h, nd => by
    simp only [OvL] at h
    obtain ⟨x, r, a1, a2, rfl, h1, h2, rfl⟩ := h
    obtain ⟨n1, n2, n3⟩ := nd_app nd
    simp only [OV.cools, Bool.and_eq_true] at c
    obtain ⟨H1, I1, k1, s1, d1, f1⟩ := Ov.freeze o x a1 H c.1 I h1 n1
    have h2' := OvL.keep k1 (Ov.mut _ _ _ h1) os r a2 h2 fun b hb z => n3 b z hb
    obtain ⟨H2, I2, k2, s2, d2, f2⟩ := OvL.freeze os r a2 H1 c.2 I1 h2' n2
    have k1' : Keep (a1 ++ a2) H H1 := k1.mono fun c hc => List.mem_append_left _ hc
    have k2' : Keep (a1 ++ a2) H1 H2 := k2.mono fun c hc => List.mem_append_right _ hc
    refine ⟨H2, I2, k1'.trans k2' (fun c hc => .inl hc), s1.trans s2, d1.trans d2, ?_⟩
    simp only [OV.ds, FzL]
    exact ⟨x, r, rfl, Fz.mono (k2.fp (OvL.mut _ _ _ h2')) _ _ f1, f2⟩
theorem OvKV.freeze : ∀ (kvs : List (D × OV)) (es : List DictEntry) (as : List Addr) (H : Hp), OV.coolKV kvs = true → Inv X pins σ H s → OvKV G H kvs es as → as.Nodup →
    ∃ H', Inv X pins σ H' s ∧ Keep as H H' ∧ Sub H H' ∧ Dom H H' ∧ FzKV G H' (OV.dkv kvs) es
  | [], es, as, H, c, I, h, nd => by
    simp only [OvKV] at h
    obtain ⟨rfl, rfl⟩ := h
    exact ⟨H, I, .refl, .refl H, .refl H, by simp [OV.dkv, FzKV]⟩
  | (k, o) :: r, es, as, H, c, I, h, nd => by
    simp only [OvKV] at h
    obtain ⟨e, s', kv, vv, nk, a1, a2, rfl, z2, z3, z4, z5, z6, z7, h1, h2, rfl⟩ := h
    obtain ⟨n1, n2, n3⟩ := nd_app nd
    simp only [OV.coolKV, Bool.and_eq_true] at c
    obtain ⟨H1, I1, k1, s1, d1, f1⟩ := Ov.freeze o vv a1 H c.1 I h1 n1
    have p1 := k1.fp (Ov.mut _ _ _ h1)
    have h2' := OvKV.keep k1 (Ov.mut _ _ _ h1) r s' a2 h2 fun b hb z => n3 b z hb
    obtain ⟨H2, I2, k2, s2, d2, f2⟩ := OvKV.freeze r s' a2 H1 c.2 I1 h2' n2
    have p2 := k2.fp (OvKV.mut _ _ _ h2')
    have k1' : Keep (a1 ++ a2) H H1 := k1.mono fun c hc => List.mem_append_left _ hc
    have k2' : Keep (a1 ++ a2) H1 H2 := k2.mono fun c hc => List.mem_append_right _ hc
    refine ⟨H2, I2, k1'.trans k2' (fun c hc => .inl hc), s1.trans s2, d1.trans d2, ?_⟩
    simp only [OV.dkv, FzKV]
    exact ⟨e, s', kv, vv, nk, rfl, z2, z3, z4, Fz.mono (p1.trans p2) _ _ z5, z6, z7, Fz.mono p2 _ _ f1, f2⟩
end
end

/-! ## the names' values -/
inductive Sl where
  | no
  | ov (o : OV)
  | lent (o : OV)
abbrev En := List Sl
section
variable (G : GT) (H : Hp)
def SlIs : Sl → Option V → List Addr → Prop
  | .no, _, as => as = []
  | .ov o, sv, as => ∃ v, sv = some v ∧ Ov G H o v as
  | .lent o, sv, as => ∃ v, sv = some v ∧ Ov G H o v as
def EnvIs : En → St → List Addr → Prop
  | [], σ, O => σ = [] ∧ O = []
  | s :: en, σ, O => ∃ sv τ a b, σ = sv :: τ ∧ SlIs G H s sv a ∧ EnvIs en τ b ∧ O = a ++ b
end
section
variable {G : GT} {H H' : Hp}
theorem SlIs.mut {s : Sl} {sv : Option V} {as : List Addr} (h : SlIs G H s sv as) : MutO H as := by
  cases s with
  | no => simp only [SlIs] at h; subst h; intro b hb; cases hb
  | ov o => obtain ⟨v, _, h⟩ := h; exact Ov.mut _ _ _ h
  | lent o => obtain ⟨v, _, h⟩ := h; exact Ov.mut _ _ _ h
theorem EnvIs.mut : ∀ {en : En} {σ : St} {O : List Addr}, EnvIs G H en σ O → MutO H O
  | [], σ, O, h => by obtain ⟨_, rfl⟩ := h; intro b hb; cases hb
  | s :: en, σ, O, h => by
    obtain ⟨sv, τ, a, b, _, h1, h2, rfl⟩ := h
    exact h1.mut.app (EnvIs.mut h2)
theorem SlIs.keep {O : List Addr} (k : Keep O H H') (m : MutO H O) {s : Sl} {sv : Option V} {as : List Addr} (h : SlIs G H s sv as) (n : ∀ b ∈ as, b ∉ O) : SlIs G H' s sv as := by
  cases s with
  | no => exact h
  | ov o => obtain ⟨v, e, h⟩ := h; exact ⟨v, e, Ov.keep k m _ _ _ h n⟩
  | lent o => obtain ⟨v, e, h⟩ := h; exact ⟨v, e, Ov.keep k m _ _ _ h n⟩
theorem EnvIs.keep {O : List Addr} (k : Keep O H H') (m : MutO H O) : ∀ {en : En} {σ : St} {O1 : List Addr}, EnvIs G H en σ O1 → (∀ b ∈ O1, b ∉ O) → EnvIs G H' en σ O1
  | [], σ, O1, h, n => h
  | s :: en, σ, O1, h, n => by
    obtain ⟨sv, τ, a, b, e, h1, h2, rfl⟩ := h
    exact ⟨sv, τ, a, b, e, h1.keep k m (fun c hc => n c (List.mem_append_left _ hc)), EnvIs.keep k m h2 (fun c hc => n c (List.mem_append_right _ hc)), rfl⟩
theorem EnvIs.len : ∀ {en : En} {σ : St} {O : List Addr}, EnvIs G H en σ O → σ.length = en.length
  | [], σ, O, h => by obtain ⟨rfl, _⟩ := h; rfl
  | s :: en, σ, O, h => by
    obtain ⟨sv, τ, a, b, rfl, h1, h2, rfl⟩ := h
    rw [List.length_cons, List.length_cons, EnvIs.len h2]
/-- one slot apart -/
theorem EnvIs.split : ∀ {en : En} {σ : St} {O : List Addr} {i : Nat} {s : Sl}, EnvIs G H en σ O → en[i]? = some s →
    ∃ O1 a O2 sv, O = O1 ++ (a ++ O2) ∧ σ[i]? = some sv ∧ SlIs G H s sv a ∧
      ∀ (K : Hp) (s' : Sl) (sv' : Option V) (a' : List Addr), (∀ {t : Sl} {tv : Option V} {as : List Addr}, SlIs G H t tv as → (∀ b ∈ as, b ∈ O1 ++ O2) → SlIs G K t tv as) → SlIs G K s' sv' a' → EnvIs G K (en.set i s') (σ.set i sv') (O1 ++ (a' ++ O2))
  | [], _, _, _, _, _, e => by simp at e
  | s :: en, σ, O, 0, s0, h, e => by
    obtain ⟨sv, τ, a, b, rfl, h1, h2, rfl⟩ := h
    simp at e; subst e
    refine ⟨[], a, b, sv, rfl, rfl, h1, fun K s' sv' a' kp hn => ⟨sv', τ, a', b, rfl, hn, ?_, rfl⟩⟩
    have go : ∀ {en : En} {σ : St} {O : List Addr}, EnvIs G H en σ O → (∀ c ∈ O, c ∈ b) → EnvIs G K en σ O := by
      intro en
      induction en with
      | nil => intro σ O h _; exact h
      | cons t en ih =>
        intro σ O h m
        obtain ⟨sv, τ, a, c, rfl, h1, h2, rfl⟩ := h
        exact ⟨sv, τ, a, c, rfl, kp h1 (fun d hd => by simpa using m d (List.mem_append_left _ hd)), ih h2 (fun d hd => m d (List.mem_append_right _ hd)), rfl⟩
    exact go h2 fun _ hc => hc
  | s :: en, σ, O, i + 1, s0, h, e => by
    obtain ⟨sv, τ, a, b, rfl, h1, h2, rfl⟩ := h
    obtain ⟨O1, a0, O2, sv0, rfl, e2, h3, h4⟩ := EnvIs.split (i := i) h2 (by simpa using e)
    refine ⟨a ++ O1, a0, O2, sv0, by simp, by simpa using e2, h3, fun K s' sv' a' kp hn => ?_⟩
    refine ⟨sv, _, a, O1 ++ (a' ++ O2), rfl, kp h1 (fun d hd => by simp [hd]), h4 K s' sv' a' (fun h m => kp h fun d hd => ?_) hn, by simp⟩
    have := m d hd
    simp only [List.mem_append] at this ⊢
    rcases this with z | z
    · exact .inl (.inr z)
    · exact .inr z
theorem EnvIs.at {en : En} {σ : St} {O : List Addr} {i : Nat} {o : OV} (h : EnvIs G H en σ O) (e : en[i]? = some (.ov o)) : ∃ v as, σ[i]? = some (some v) ∧ Ov G H o v as ∧ ∀ b ∈ as, b ∈ O := by
  obtain ⟨O1, a, O2, sv, rfl, e2, ⟨v, rfl, h3⟩, _⟩ := h.split e
  exact ⟨v, a, e2, h3, fun b hb => by simp [hb]⟩
theorem set_self {α : Type} : ∀ {l : List α} {i : Nat} {x : α}, l[i]? = some x → l.set i x = l
  | [], _, _, e => by simp at e
  | y :: l, 0, x, e => by simp at e; subst e; rfl
  | y :: l, i + 1, x, e => by simp only [List.set_cons_succ]; rw [set_self (by simpa using e)]
end
end PM

namespace PM
open PySem PySem.Spec PyProof.Rows
open L2 hiding St
variable [TC]

/-! ## plain operations on data -/
mutual
def D.plain : D → Bool
  | .non | .bl _ | .int _ | .str _ => true
  | .tup ds => D.plains ds
  | .lst ds => D.plains ds
  | _ => false
def D.plains : List D → Bool
  | [] => true
  | d :: ds => D.plain d && D.plains ds
end
def D.eqv (a b : D) : Bool := PyData.eqv a.py b.py
def D.depth (a : D) : Nat := a.py.depth
def D.shal (a : D) : Bool := decide (a.depth ≤ 60)
def D.lt (a b : D) : Bool := PySem.W.dataLt a.py b.py
def D.alike (a b : D) : Bool := PySem.W.alike a.py b.py

def OV.flats : List OV → Option (List D)
  | [] => some []
  | .frz d :: r => (OV.flats r).map (d :: ·)
  | _ :: _ => none
def OV.flatKV : List (D × OV) → Option (List (D × D))
  | [] => some []
  | (k, .frz d) :: r => (OV.flatKV r).map ((k, d) :: ·)
  | _ :: _ => none
/-- a thing whose parts are frozen, as a datum -/
def OV.flat : OV → Option D
  | .frz d => some d
  | .lst os => (OV.flats os).map .lst
  | .dic kvs => (OV.flatKV kvs).map .dic
  | .ins _ _ => none

inductive BOp where | add | sub | mul | fdiv | mod | pow
  deriving DecidableEq
inductive COp where | eq | ne | lt | le | gt | ge | is | isnot | in_ | notin
  deriving DecidableEq

/-- x, if c -/
def gd {α : Type} (c : Prop) [Decidable c] (x : α) : Option α := if c then some x else none
theorem gd_some {α : Type} {c : Prop} [Decidable c] {x y : α} : gd c x = some y ↔ c ∧ x = y := by
  unfold gd
  by_cases h : c
  · rw [if_pos h]; exact ⟨fun e => ⟨h, Option.some.inj e⟩, fun e => by rw [e.2]⟩
  · rw [if_neg h]; exact ⟨fun e => by (cases e), fun e => absurd e.1 h⟩
theorem gd_pos {α : Type} {c : Prop} [Decidable c] {x : α} (h : c) : gd c x = some x := if_pos h
theorem gd_neg {α : Type} {c : Prop} [Decidable c] {x : α} (h : ¬ c) : gd c x = none := if_neg h
def BOp.op : BOp → Operator
  | .add => .Add | .sub => .Sub | .mul => .Mult | .fdiv => .FloorDiv | .mod => .Mod | .pow => .Pow
def COp.op : COp → CmpOp
  | .eq => .Eq | .ne => .NotEq | .lt => .Lt | .le => .LtE | .gt => .Gt | .ge => .GtE | .is => .Is | .isnot => .IsNot | .in_ => .In | .notin => .NotIn
def CMulB (i j : Int) : Bool := decide (i.natAbs.log2 + j.natAbs.log2 < 1000000)
def opBin : BOp → D → D → Option OV
  | .add, .int a, .int b => some (.frz (.int (a + b)))
  | .add, .str a, .str b => gd (a.length + b.length ≤ sizeLine) (.frz (.str (a ++ b)))
  | .add, .tup a, .tup b => gd (a.length + b.length ≤ sizeLine) (.frz (.tup (a ++ b)))
  | .add, .lst a, .lst b => gd (a.length + b.length ≤ sizeLine) (.lst ((a ++ b).map .frz))
  | .sub, .int a, .int b => some (.frz (.int (a - b)))
  | .mul, .int a, .int b => gd (CMulB a b) (.frz (.int (a * b)))
  | .mul, .tup a, .int k => gd (a ≠ [] ∧ 2 ≤ k ∧ k ≤ 1000 ∧ a.length ≤ 1000) (.frz (.tup (List.replicate k.toNat a).flatten))
  | .fdiv, .int a, .int b => gd (0 < b ∧ b.natAbs.log2 < 9000) (.frz (.int (a / b)))
  | .mod, .int a, .int b => gd (0 < b) (.frz (.int (a % b)))
  | .pow, .int a, .int b => gd (0 ≤ b ∧ b ≤ 1000000 ∧ a.natAbs < 2 ^ 64) (.frz (.int (a ^ b.toNat)))
  | _, _, _ => none

def eqOk (a b : D) : Bool := a.plain && b.plain && (a.shal || b.shal)
def keyEq (a b : D) : Bool := decide (a.key = b.key)
def strIn (a b : Str) : Option Bool := match a.cps.toList with
  | [c] => some (decide (c ∈ b.cps.toList))
  | _ => none
/-- whether it can be asked as a key among some -/
def askOk (ks : List D) (k : D) : Bool :=
  match k.key with
  | none => false
  | some nk => decide (nk.depth ≤ 8) && ((k.isLeaf && ks.all D.isLeaf) || (k.isTup && ks.all D.isTup))
def opIn (a : D) : D → Option Bool
  | .tup ds => gd (a.plain && D.plains ds && a.shal) (ds.any fun d => D.eqv d a)
  | .lst ds => gd (a.plain && D.plains ds && a.shal) (ds.any fun d => D.eqv d a)
  | .str y => match a with
    | .str x => strIn x y
    | _ => none
  | _ => none
def opIs (a : D) : D → Option Bool
  | .non => match a with
    | .non => some true
    | .fn _ => none
    | _ => some false
  | .bl c => match a with
    | .bl b => some (b == c)
    | _ => none
  | _ => none
def opLt (a b : D) : Option Bool := match a, b with
  | .int i, .int j => some (decide (i < j))
  | .str x, .str y => some (decide (x.cps.toList < y.cps.toList))
  | .tup _, .tup _ => gd (a.plain && b.plain && a.shal && b.shal && D.alike a b) (D.lt a b)
  | _, _ => none
def opCmp : COp → D → D → Option Bool
  | .eq, a, b => gd (eqOk a b) (D.eqv a b)
  | .ne, a, b => gd (eqOk a b) (!D.eqv a b)
  | .lt, a, b => opLt a b
  | .gt, .int i, .int j => some (decide (j < i))
  | .le, .int i, .int j => some (decide (i ≤ j))
  | .ge, .int i, .int j => some (decide (j ≤ i))
  | .is, a, b => opIs a b
  | .isnot, a, b => (opIs a b).map (!·)
  | .in_, a, .dic kvs => gd (askOk (kvs.map (·.1)) a) (kvs.any fun p => keyEq p.1 a)
  | .notin, a, .dic kvs => gd (askOk (kvs.map (·.1)) a) (!kvs.any fun p => keyEq p.1 a)
  | .in_, a, b => opIn a b
  | .notin, a, b => (opIn a b).map (!·)
  | _, _, _ => none

/-- looking up -/
def findK (kvs : List (D × D)) (k : D) : Option D := (kvs.find? fun p => keyEq p.1 k).map (·.2)
/-- putting -/
def putD (kvs : List (D × D)) (k d : D) : List (D × D) :=
  if kvs.any (fun p => keyEq p.1 k) then kvs.map (fun p => if keyEq p.1 k then (p.1, d) else p) else kvs ++ [(k, d)]
def oneS (c : Nat) : D := .str ⟨#[c]⟩
def D.items : D → Option (List D)
  | .tup ds => some ds
  | .lst ds => some ds
  | .str x => some (x.cps.toList.map oneS)
  | .dic kvs => some (kvs.map (·.1))
  | _ => none
def D.len : D → Option Nat
  | .tup ds => some ds.length
  | .lst ds => some ds.length
  | .str x => gd (x.length ≤ sizeLine) x.length
  | .dic kvs => some kvs.length
  | _ => none
def D.at (a i : D) : Option D := match a, i with
  | .tup ds, .int i => atI ds i
  | .lst ds, .int i => atI ds i
  | .str x, .int i => (gd (x.length ≤ sizeLine) ()).bind fun _ => (atI x.cps.toList i).map oneS
  | .dic kvs, k => (gd (askOk (kvs.map (·.1)) k) ()).bind fun _ => findK kvs k
  | _, _ => none
def D.bnd : D → Option (Option Int)
  | .non => some none
  | .int i => some (some i)
  | _ => none
def cutL {α : Type} (xs : List α) (lo hi : Option Int) : List α := (xs.drop (HT.sIx xs.length 0 lo)).take (HT.sIx xs.length xs.length hi - HT.sIx xs.length 0 lo)
def D.slc (a lo hi : D) : Option OV := match lo.bnd, hi.bnd with
  | some lo, some hi => match a with
    | .tup ds => some (.frz (.tup (cutL ds lo hi)))
    | .lst ds => some (.lst ((cutL ds lo hi).map .frz))
    | .str x => gd (x.length ≤ sizeLine) (.frz (.str (cutS x lo hi)))
    | _ => none
  | _, _ => none
def D.truth : D → Option Bool
  | .non => some false
  | .bl b => some b
  | .int i => some (i != 0)
  | .str x => gd (x.length ≤ sizeLine) (x.length != 0)
  | .lst ds => some (!ds.isEmpty)
  | .tup ds => some (!ds.isEmpty)
  | _ => none

def D.bls : List D → Option (List Bool)
  | [] => some []
  | .bl b :: r => (D.bls r).map (b :: ·)
  | _ :: _ => none
def D.ints : List D → Option (List Int)
  | [] => some []
  | .int b :: r => (D.ints r).map (b :: ·)
  | _ :: _ => none
def D.strs : List D → Option (List Str)
  | [] => some []
  | .str b :: r => (D.strs r).map (b :: ·)
  | _ :: _ => none
def sortOk (ds : List D) : Bool :=
  D.plains ds && ds.all D.shal && (ds.all fun a => ds.all fun b => D.alike a b) &&
    ((ds.all fun d => match d with | .tup (_ :: _) => true | _ => false) || (ds.all fun d => match d with | .non => false | .tup _ => false | _ => true))
/-- the items can be compared up to where they differ first -/
def uptoAll : List PyData → List PyData → Bool
  | x :: xs, y :: ys => PySem.W.alike x y && (!PyData.eqv x y || uptoAll xs ys)
  | _, _ => true
def upto2 (a b : D) : Bool := match a, b with
  | .tup xs, .tup ys => uptoAll (D.pys xs) (D.pys ys)
  | _, _ => false
def sortOk2 (ds : List D) : Bool :=
  D.plains ds && ds.all D.shal && (ds.all fun a => ds.all fun b => upto2 a b) && (ds.all fun d => match d with | .tup (_ :: _) => true | _ => false)
def D.sort (ds : List D) : List D := ds.mergeSort fun a b => !D.lt b a

/-- built-in functions of one argument -/
inductive Bif where | len | all | any | sorted | tuple | list | abs | int | str | repr | sum
  deriving DecidableEq
def isDic : D → Bool
  | .dic _ => true
  | _ => false
def opBif : Bif → D → Option OV
  | .len, d => d.len.map fun (n : Nat) => .frz (.int (n : Int))
  | .all, .lst ds => (D.bls ds).map fun bs => .frz (.bl (bs.all id))
  | .any, .lst ds => (D.bls ds).map fun bs => .frz (.bl (bs.any id))
  | .sum, .lst ds => (D.ints ds).map fun ns => .frz (.int ns.sum)
  | .sorted, .lst ds => gd ((sortOk ds || sortOk2 ds) && decide (ds.length ≤ sizeLine)) (.lst ((D.sort ds).map .frz))
  | .tuple, .lst ds => some (.frz (.tup ds))
  | .tuple, .tup ds => some (.frz (.tup ds))
  | .list, .lst ds => some (.lst (ds.map .frz))
  | .list, .tup ds => some (.lst (ds.map .frz))
  | .abs, .int i => some (.frz (.int (if i < 0 then -i else i)))
  | .int, .int i => some (.frz (.int i))
  | .int, .bl b => some (.frz (.int (if b then 1 else 0)))
  | .int, .str x => (gd (x.length ≤ 640) ()).bind fun _ => (PySem.intText? x).map fun n => .frz (.int n)
  | .str, .int i => gd (i.natAbs.log2 < 1920) (.frz (.str (toString i : String)))
  | .str, .str x => some (.frz (.str x))
  | .repr, d => gd (d.plain && d.py.showable && decide (d.py.shown.length + 40 ≤ sizeLine) && d.shal) (.frz (.str d.py.shown))
  | _, _ => none
/-- classes that are asked for -/
inductive Cl where | int | bool | str | tuple | list | dict
  deriving DecidableEq
def isIn : Cl → D → Bool
  | .int, .int _ => true
  | .int, .bl _ => true
  | .bool, .bl _ => true
  | .str, .str _ => true
  | .tuple, .tup _ => true
  | .list, .lst _ => true
  | .dict, .dic _ => true
  | _, _ => false
def isInst (c : Cl) (d : D) : Option Bool := gd (d.isPy = true) (isIn c d)
/-- methods that change nothing -/
inductive Met where | join | split | partition
  deriving DecidableEq
def opMet1 : Met → D → D → Option OV
  | .join, .str a, .lst ds => (D.strs ds).bind fun ys => gd ((ys.map (·.length)).sum + ys.length * a.length ≤ 16777216) (.frz (.str (Txt.join a ys)))
  | .join, .str a, .tup ds => (D.strs ds).bind fun ys => gd ((ys.map (·.length)).sum + ys.length * a.length ≤ 16777216) (.frz (.str (Txt.join a ys)))
  | .split, .str a, .str b => gd (b.length ≠ 0 ∧ a.length + 2 ≤ sizeLine) (.lst ((Txt.split a b).map fun x => .frz (.str x)))
  | _, _, _ => none

/-! ## the language -/
/-- what the def that hears a lambda hands on of an error -/
inductive HK0 where
  | pair (tag : Str) | self | one | const (o : OV)
/-- .. of a value -/
inductive OK0 where
  | pair (tag : Str) | self | const (o : OV)
def OK0.res (d : D) : OK0 → OV
  | .pair tag => .frz (.tup [.str tag, d])
  | .self => .frz d
  | .const o => o
def pick0 (c : Nat) : List (List Nat × HK0) → Option HK0
  | [] => none
  | (cs, h) :: r => if c ∈ cs then some h else pick0 c r
def HK0.res (p : D) : HK0 → OV
  | .pair tag => .frz (.tup [.str tag, p])
  | .self => .frz p
  | .one => .lst [.frz p]
  | .const o => o
inductive Tg where
  | nm (i : Nat)
  | tp (ts : List Tg)
mutual
inductive E where
  | lit (d : D) | var (i : Nat)
  | tup (es : Es) | lst (es : Es) | dict (kvs : Es)
  | bin (o : BOp) (a b : E) | cmp (o : COp) (a b : E) | chn (o p : COp) (a b c : E)
  | and (a b : E) | or (a b : E) | not (a : E) | ite (c : T) (a b : E)
  | sub (a i : E) | slc (a lo hi : E) | rev (a : E)
  | lc (elt : E) (t : Tg) (it : It) (cs : Ts) (own : List Nat)
  | dc (k v : E) (t : Tg) (it : It) (cs : Ts) (own : List Nat)
  | fmt (e : E)
  | call (f : Nat) (args : Es) (lend : List Bool) (perm : List Nat)
  | bif (b : Bif) (a : E)
  | isi (a : E) (c : Cl)
  | met1 (m : Met) (o a : E)
  | fst (es : Es)
  | heard (okk : OK0) (hs : List (List Nat × HK0)) (body : E)
inductive Es where
  | nil | cons (e : E) (r : Es) | star (e : E) (r : Es)
inductive Ts where
  | nil | cons (c : T) (r : Ts)
inductive T where
  | and (a b : T) | or (a b : T) | not (a : T) | val (e : E)
inductive It where
  | val (e : E) | enum (e : E) | zip (a b : E) | range (e : E) | range2 (a b : E) | items (e : E)
end
/-- a handler's return: (tag, e.f), e.f, [e.f], an expression without the name; i: the name -/
inductive HK where
  | pair (i : Nat) (tag : Str) | self (i : Nat) | one (i : Nat) | plain (e : E)
mutual
inductive S where
  | set (i : Nat) (e : E)
  | asg (t : Tg) (e : E)
  | par2 (i j : Nat) (a b : E)
  | setk (x : Nat) (k v : E)
  | expr (e : E)
  | ret (e : E) | retN
  | if_ (c : T) (a b : Ss)
  | for_ (t : Tg) (it : It) (body : Ss)
  | raise (c : Nat) (e : E)
  | try_ (body : Ss) (hs : Hs)
  | brk | cont | pass
inductive Ss where
  | nil | cons (s : S) (r : Ss)
/-- handlers: classes, what is returned -/
inductive Hs where
  | nil | cons (cs : List Nat) (h : HK) (r : Hs)
end
/-! ## running it -/
inductive Out (α : Type) where
  | ok (a : α) (en : En)
  | exc (c : Nat) (p : D) (en : En)
  | bad
def Out.bnd {α β : Type} : Out α → (α → En → Out β) → Out β
  | .ok a en, f => f a en
  | .exc c p en, _ => .exc c p en
  | .bad, _ => .bad
def Out.of {α : Type} (en : En) : Option α → Out α
  | some a => .ok a en
  | none => .bad
/-- no error -/
def Out.nx {α : Type} : Out α → Out α
  | .ok a en => .ok a en
  | _ => .bad
/-- what a def's call comes to; outs: what stands behind it in what was lent -/
inductive COut where
  | ok (o : OV) (outs : List (Option OV))
  | exc (c : Nat) (p : D) (outs : List (Option OV))
  | bad
abbrev Orc := Nat → List Sl → COut

inductive Opd where
  | val (o : OV)
  | slot (i : Nat)
/-- what an operand is, in the end -/
def Opd.rd (en : En) : Opd → Option D
  | .val o => o.flat
  | .slot i => match en[i]? with
    | some (.ov o) => o.flat
    | some (.lent o) => o.flat
    | _ => none
/-- the arguments' slots; what is lent is taken out of the names -/
def takeA : List Opd → En → Option (List Sl × En)
  | [], en => some ([], en)
  | .val o :: r, en => (takeA r en).map fun p => (.ov o :: p.1, p.2)
  | .slot i :: r, en => match en[i]? with
    | some (.ov (.frz d)) => (takeA r en).map fun p => (.ov (.frz d) :: p.1, p.2)
    | some (.ov o) => (takeA r (en.set i .no)).map fun p => (.lent o :: p.1, p.2)
    | some (.lent o) => (takeA r (en.set i .no)).map fun p => (.lent o :: p.1, p.2)
    | _ => none
/-- what was lent is back; en0: the names ahead of the call -/
def backA (en0 : En) : List Opd → List (Option OV) → En → Option En
  | [], [], en => some en
  | .val _ :: r, _ :: t, en => backA en0 r t en
  | .slot i :: r, some o :: t, en => match en0[i]? with
    | some (.ov _) => backA en0 r t (en.set i (.ov o))
    | some (.lent _) => backA en0 r t (en.set i (.lent o))
    | _ => none
  | .slot i :: r, none :: t, en => backA en0 r t en
  | _, _, _ => none
def permute {α : Type} (xs : List α) : List Nat → Option (List α)
  | [] => some []
  | i :: r => match xs[i]?, permute xs r with
    | some x, some t => some (x :: t)
    | _, _ => none
/-- a name read for good: what it owns is frozen -/
def rdVar (i : Nat) (en : En) : Out OV := match en[i]? with
  | some (.ov (.frz d)) => .ok (.frz d) en
  | some (.ov o) => if o.cool then .ok (.frz o.d) (en.set i (.ov (.frz o.d))) else .bad
  | _ => .bad
/-- a name stored, if nobody waits for what it holds -/
def putS (i : Nat) (o : OV) (en : En) : Option En := match en[i]? with
  | some (.ov _) => some (en.set i (.ov o))
  | some .no => some (en.set i (.ov o))
  | _ => none
mutual
def Tg.slots : Tg → List Nat
  | .nm i => [i]
  | .tp ts => Tg.slotsL ts
def Tg.slotsL : List Tg → List Nat
  | [] => []
  | t :: ts => Tg.slots t ++ Tg.slotsL ts
end
mutual
def bind1 : Tg → D → En → Option En
  | .nm i, d, en => putS i (.frz d) en
  | .tp ts, .tup ds, en => binds ts ds en
  | _, _, _ => none
def binds : List Tg → List D → En → Option En
  | [], [], en => some en
  | t :: ts, d :: ds, en => match bind1 t d en with
    | some en' => binds ts ds en'
    | none => none
  | _, _, _ => none
end
def wipeE (en : En) : List Nat → En
  | [] => en
  | i :: r => (wipeE en r).set i .no
/-- nothing is owned there -/
def Sl.cold : Sl → Bool
  | .no => true
  | .ov (.frz _) => true
  | _ => false
def okOwn (en : En) (own : List Nat) : Bool := own.all fun i => match en[i]? with
  | some s => s.cold
  | none => false
/-- the block's own names as they were -/
def undo (old en : En) : List Nat → En
  | [] => en
  | i :: r => (undo old en r).set i (old.getD i .no)

/-- a dict's entry put -/
def putKV (kvs : List (D × OV)) (k : D) (o : OV) : List (D × OV) :=
  if kvs.any (fun p => keyEq p.1 k) then kvs.map (fun p => if keyEq p.1 k then (p.1, o) else p) else kvs ++ [(k, o)]

/-- an operand: a name that owns its thing stays a name -/
def mkO (e : E) (r : En → Out OV) (en : En) : Out Opd := match e with
  | .var i => (match en[i]? with
    | some (.ov (.frz d)) => .ok (.val (.frz d)) en
    | some (.ov _) => .ok (.slot i) en
    | some (.lent _) => .ok (.slot i) en
    | _ => .bad)
  | _ => (r en).bnd fun o en => .ok (.val o) en
/-- an argument, perhaps lent -/
def mkA (e : E) (l : Bool) (r : En → Out OV) (en : En) : Out Opd := if l then mkO e r en else (r en).bnd fun o en => .ok (.val o) en
/-- a comprehension's turns -/
def lcGo (bnd : D → En → Option En) (cF : En → Out Bool) (eF : En → Out OV) (own : List Nat) : List D → List D → En → Out (List D)
  | [], acc, en => if okOwn en own = true then .ok acc en else .bad
  | d :: ds, acc, en => if okOwn en own = true then (match bnd d (wipeE en own) with
    | some en1 => (cF en1).bnd fun b en2 => if b then (eF en2).bnd fun o en3 => if o.cool && decide (acc.length < sizeLine) then lcGo bnd cF eF own ds (acc ++ [o.d]) en3 else .bad else lcGo bnd cF eF own ds acc en2
    | none => .bad) else .bad

/-- .. a dict comprehension's -/
def dcGo (bnd : D → En → Option En) (cF : En → Out Bool) (kF vF : En → Out OV) (own : List Nat) : List D → List (D × D) → En → Out (List (D × D))
  | [], acc, en => if okOwn en own = true then .ok acc en else .bad
  | d :: ds, acc, en => if okOwn en own = true then (match bnd d (wipeE en own) with
    | some en1 => (cF en1).bnd fun b en2 => if b then (kF en2).bnd fun k en3 => match k with
        | .frz k => (vF en3).bnd fun o en4 => if o.cool && askOk (acc.map (·.1)) k && decide (acc.length < sizeLine) then dcGo bnd cF kF vF own ds (putD acc k o.d) en4 else .bad
        | _ => .bad
      else dcGo bnd cF kF vF own ds acc en2
    | none => .bad) else .bad
section
variable (orc : Orc)
mutual
def evE : E → En → Out OV
  | .lit d, en => .ok (.frz d) en
  | .var i, en => rdVar i en
  | .tup es, en => (evL es en).bnd fun ds en => if ds.length ≤ sizeLine then .ok (.frz (.tup ds)) en else .bad
  | .lst es, en => (evL es en).bnd fun ds en => if ds.length ≤ sizeLine then .ok (.lst (ds.map .frz)) en else .bad
  | .dict kvs, en => (evKV kvs en).bnd fun ps en => if ps.length ≤ 15 then .ok (.dic ((ps.foldl (fun acc p => putD acc p.1 p.2) []).map fun p => (p.1, .frz p.2))) en else .bad
  | .fmt e, en => (mkO e (evE e) en).bnd fun x en => match x.rd en with
    | some (.str y) => if y.length ≤ sizeLine then .ok (.frz (.str y)) en else .bad
    | some (.int i) => if i.natAbs.log2 < 1920 then .ok (.frz (.str (toString i : String))) en else .bad
    | _ => .bad
  | .bin o a b, en => (mkO a (evE a) en).bnd fun x en => (mkO b (evE b) en).bnd fun y en => match x.rd en, y.rd en with
    | some x, some y => .of en (opBin o x y)
    | _, _ => .bad
  | .cmp o a b, en => (mkO a (evE a) en).bnd fun x en => (mkO b (evE b) en).bnd fun y en => match x.rd en, y.rd en with
    | some x, some y => .of en ((opCmp o x y).map fun b => .frz (.bl b))
    | _, _ => .bad
  | .chn o p a b c, en => (mkO a (evE a) en).bnd fun x en => (mkO b (evE b) en).bnd fun y en => match x.rd en, y with
    | some x, .val (.frz y) => match opCmp o x y with
      | some true => (mkO c (evE c) en).bnd fun z en => match z.rd en with
        | some z => .of en ((opCmp p y z).map fun b => .frz (.bl b))
        | none => .bad
      | some false => .ok (.frz (.bl false)) en
      | none => .bad
    | _, _ => .bad
  | .and a b, en => (evE a en).bnd fun x en => match x with
    | .frz (.bl true) => evE b en
    | .frz (.bl false) => .ok (.frz (.bl false)) en
    | _ => .bad
  | .or a b, en => (evE a en).bnd fun x en => match x with
    | .frz (.bl true) => .ok (.frz (.bl true)) en
    | .frz (.bl false) => evE b en
    | _ => .bad
  | .not a, en => (mkO a (evE a) en).bnd fun x en => match x.rd en with
    | some x => .of en (x.truth.map fun b => .frz (.bl (!b)))
    | none => .bad
  | .ite c a b, en => (evT c en).bnd fun t en => if t then evE a en else evE b en
  | .sub a i, en => (mkO a (evE a) en).bnd fun x en => (mkO i (evE i) en).bnd fun y en => match x.rd en, y.rd en with
    | some x, some y => .of en ((x.at y).map .frz)
    | _, _ => .bad
  | .slc a lo hi, en => (mkO a (evE a) en).bnd fun x en => (mkO lo (evE lo) en).bnd fun l en => (mkO hi (evE hi) en).bnd fun h en => match x.rd en, l.rd en, h.rd en with
    | some x, some l, some h => .of en (x.slc l h)
    | _, _, _ => .bad
  | .rev a, en => (mkO a (evE a) en).bnd fun x en => match x.rd en with
    | some (.lst ds) => .ok (.lst (ds.reverse.map .frz)) en
    | some (.tup ds) => .ok (.frz (.tup ds.reverse)) en
    | _ => .bad
  | .lc elt t it cs own, en => (evI it en).bnd fun ds en0 => if okOwn en0 own = true then
      (lcGo (bind1 t) (evCs cs) (evE elt) own ds [] en0).nx.bnd fun acc en => .ok (.lst (acc.map .frz)) (undo en0 (wipeE en own) own) else .bad
  | .dc k v t it cs own, en => (evI it en).bnd fun ds en0 => if okOwn en0 own = true then
      (dcGo (bind1 t) (evCs cs) (evE k) (evE v) own ds [] en0).nx.bnd fun acc en => .ok (.dic (acc.map fun p => (p.1, .frz p.2))) (undo en0 (wipeE en own) own) else .bad
  | .call f args lend perm, en => (evA args lend en).bnd fun as en => match permute as perm with
      | some ps => (match takeA ps en with
        | some (sl, en1) => (match orc f sl with
          | .ok o outs => (match backA en ps outs en1 with
            | some en' => .ok o en'
            | none => .bad)
          | .exc c p outs => (match backA en ps outs en1 with
            | some en' => .exc c p en'
            | none => .bad)
          | .bad => .bad)
        | none => .bad)
      | none => .bad
  | .bif b a, en => (mkO a (evE a) en).bnd fun x en => match x.rd en with
    | some x => .of en (opBif b x)
    | none => .bad
  | .isi a c, en => (mkO a (evE a) en).bnd fun x en => match x.rd en with
    | some x => .of en ((isInst c x).map fun b => .frz (.bl b))
    | none => .bad
  | .met1 m o a, en => (mkO o (evE o) en).bnd fun x en => match x with
    | .val (.frz (.str z)) => (mkO a (evE a) en).bnd fun y en => match y.rd en with
      | some y => .of en (opMet1 m (.str z) y)
      | none => .bad
    | _ => .bad
  | .fst es, en => (evJ es Str.empty en).bnd fun x en => .ok (.frz (.str x)) en
  | .heard okk hs L, en => (match evE L en with
    | .ok o en1 => if o.cool then .ok (okk.res o.d) en1 else .bad
    | .exc c p en1 => (match pick0 c hs with
      | some h => .ok (h.res p) en1
      | none => .bad)
    | .bad => .bad)
/-- a test -/
def evT : T → En → Out Bool
  | .and a b, en => (evT a en).bnd fun x en => if x then evT b en else .ok false en
  | .or a b, en => (evT a en).bnd fun x en => if x then .ok true en else evT b en
  | .not a, en => (evT a en).bnd fun x en => .ok (!x) en
  | .val e, en => (mkO e (evE e) en).bnd fun x en => match x.rd en with
    | some x => .of en x.truth
    | none => .bad
/-- items, each frozen -/
def evL : Es → En → Out (List D)
  | .nil, en => .ok [] en
  | .cons e r, en => (evE e en).bnd fun o en => if o.cool then (evL r en).bnd fun ds en => .ok (o.d :: ds) en else .bad
  | .star e r, en => (evE e en).bnd fun o en => if o.cool then (match o.d.items with
      | some xs => (evL r en).bnd fun ds en => .ok (xs ++ ds) en
      | none => .bad) else .bad
def evKV : Es → En → Out (List (D × D))
  | .nil, en => .ok [] en
  | .cons k (.cons v r), en => (evE k en).bnd fun ok en => match ok with
    | .frz k => (evE v en).bnd fun o en => if o.cool && k.isLeaf then (evKV r en).bnd fun ps en => .ok ((k, o.d) :: ps) en else .bad
    | _ => .bad
  | _, _ => .bad
/-- texts, one behind the other -/
def evJ : Es → Str → En → Out Str
  | .nil, acc, en => .ok acc en
  | .cons e r, acc, en => (evE e en).bnd fun o en => match o with
    | .frz (.str y) => if (acc ++ y).length ≤ sizeLine then evJ r (acc ++ y) en else .bad
    | _ => .bad
  | _, _, _ => .bad
def evA : Es → List Bool → En → Out (List Opd)
  | .nil, [], en => .ok [] en
  | .cons e r, l :: ls, en => (mkA e l (evE e) en).bnd fun a en => (evA r ls en).bnd fun as en => .ok (a :: as) en
  | _, _, _ => .bad
/-- what is walked -/
def evI : It → En → Out (List D)
  | .val e, en => (evE e en).bnd fun o en => if o.cool then .of en o.d.items else .bad
  | .enum e, en => (evE e en).bnd fun o en => if o.cool then (match o.d with
      | .lst ds => .ok (ds.zipIdx.map fun p => .tup [.int (p.2 : Int), p.1]) en
      | _ => .bad) else .bad
  | .zip a b, en => (evE a en).bnd fun x en => if x.cool then (evE b en).bnd fun y en => if y.cool then (match x.d, y.d with
      | .lst ds, .lst es => .ok ((ds.zip es).map fun p => .tup [p.1, p.2]) en
      | .tup ds, .tup es => .ok ((ds.zip es).map fun p => .tup [p.1, p.2]) en
      | _, _ => .bad) else .bad else .bad
  | .range e, en => (evE e en).bnd fun o en => match o with
    | .frz (.int n) => if n < 2 ^ 24 ∧ -(2 ^ 24) < n then .ok ((List.range n.toNat).map fun (i : Nat) => .int (i : Int)) en else .bad
    | _ => .bad
  | .range2 a b, en => (evE a en).bnd fun o en => (evE b en).bnd fun o' en => match o, o' with
    | .frz (.int m), .frz (.int n) => if n < 2 ^ 24 ∧ -(2 ^ 24) < n ∧ m < 2 ^ 24 ∧ -(2 ^ 24) < m then .ok ((List.range (n - m).toNat).map fun (i : Nat) => .int (m + (i : Int))) en else .bad
    | _, _ => .bad
  | .items e, en => (evE e en).bnd fun o en => if o.cool then (match o.d with
      | .dic kvs => .ok (kvs.map fun p => .tup [p.1, p.2]) en
      | _ => .bad) else .bad
/-- a comprehension's tests -/
def evCs : Ts → En → Out Bool
  | .nil, en => .ok true en
  | .cons c .nil, en => evT c en
  | _, _ => .bad
end
/-! ## statements -/
inductive Fl where
  | nx | ret (o : OV) | brk | ct
/-- a dict's entry, put in a name's dict -/
def setK (x : Nat) (k d : D) (en : En) : Option En := match en[x]? with
  | some (.ov (.dic kvs)) => (OV.flatKV kvs).bind fun ds => gd (askOk (ds.map (·.1)) k = true ∧ ds.length < sizeLine) (en.set x (.ov (.dic ((putD ds k d).map fun p => (p.1, .frz p.2)))))
  | some (.lent (.dic kvs)) => (OV.flatKV kvs).bind fun ds => gd (askOk (ds.map (·.1)) k = true ∧ ds.length < sizeLine) (en.set x (.lent (.dic ((putD ds k d).map fun p => (p.1, .frz p.2)))))
  | _ => none
def forGo (bnd : D → En → Option En) (body : En → Out Fl) : List D → En → Out Fl
  | [], en => .ok .nx en
  | d :: ds, en => match bnd d en with
    | some en1 => (body en1).bnd fun fl en2 => match fl with
      | .nx => forGo bnd body ds en2
      | .ct => forGo bnd body ds en2
      | .brk => .ok .nx en2
      | .ret o => .ok (.ret o) en2
    | none => .bad
/-- the handler -/
def pick (c : Nat) : Hs → Option HK
  | .nil => none
  | .cons cs h r => if c ∈ cs then some h else pick c r
def hkRes (p : D) (h : HK) (en : En) : Out Fl := match h with
  | .pair i tag => if okOwn en [i] = true then .ok (.ret (.frz (.tup [.str tag, p]))) (en.set i .no) else .bad
  | .self i => if okOwn en [i] = true then .ok (.ret (.frz p)) (en.set i .no) else .bad
  | .one i => if okOwn en [i] = true then .ok (.ret (.lst [.frz p])) (en.set i .no) else .bad
  | .plain e => (evE orc e en).nx.bnd fun o en => .ok (.ret o) en
mutual
def evS : S → En → Out Fl
  | .set i e, en => (evE orc e en).bnd fun o en => match putS i o en with
    | some en' => .ok .nx en'
    | none => .bad
  | .asg t e, en => (evE orc e en).bnd fun o en => if o.cool then (match bind1 t o.d en with
    | some en' => .ok .nx en'
    | none => .bad) else .bad
  | .par2 i j a b, en => (evE orc a en).bnd fun x en => if x.cool then (evE orc b en).bnd fun y en => if y.cool && i != j then (match putS i (.frz x.d) en with
    | some en' => (match putS j (.frz y.d) en' with
      | some en'' => .ok .nx en''
      | none => .bad)
    | none => .bad) else .bad else .bad
  | .setk x k v, en => (evE orc v en).bnd fun o en => if o.cool then (mkO (.var x) (evE orc (.var x)) en).bnd fun x' en => (match x' with
    | .slot x => (evE orc k en).bnd fun ok en => (match ok with
      | .frz k => (match setK x k o.d en with
        | some en' => .ok .nx en'
        | none => .bad)
      | _ => .bad)
    | _ => .bad) else .bad
  | .expr e, en => (evE orc e en).bnd fun _ en => .ok .nx en
  | .ret e, en => (evE orc e en).bnd fun o en => .ok (.ret o) en
  | .retN, en => .ok (.ret (.frz .non)) en
  | .if_ c a b, en => (evT orc c en).bnd fun t en => if t then evSs a en else evSs b en
  | .for_ t it body, en => (evI orc it en).bnd fun ds en => forGo (bind1 t) (evSs body) ds en
  | .raise c e, en => (evE orc e en).bnd fun o en => if o.cool then .exc c o.d en else .bad
  | .try_ body hs, en => (match evSs body en with
    | .ok fl en => .ok fl en
    | .exc c p en => (match pick c hs with
      | some h => hkRes orc p h en
      | none => .exc c p en)
    | .bad => .bad)
  | .brk, en => .ok .brk en
  | .cont, en => .ok .ct en
  | .pass, en => .ok .nx en
def evSs : Ss → En → Out Fl
  | .nil, en => .ok .nx en
  | .cons s r, en => (evS s en).bnd fun fl en => match fl with
    | .nx => evSs r en
    | .ret o => .ok (.ret o) en
    | .brk => .ok .brk en
    | .ct => .ok .ct en
end
/-- what was lent stands there -/
def outsOf : List Sl → En → Option (List (Option OV))
  | [], _ => some []
  | .lent _ :: r, .lent o :: en => (outsOf r en).map (some o :: ·)
  | .ov _ :: r, _ :: en => (outsOf r en).map (none :: ·)
  | _, _ => none
/-- a def: n parameters, m names in all -/
def callOf (n m : Nat) (body : Ss) (sl : List Sl) : COut :=
  if sl.length = n then (match evSs orc body (sl ++ List.replicate (m - n) .no) with
    | .ok (.ret o) en => (match outsOf sl en with
      | some outs => .ok o outs
      | none => .bad)
    | .ok .nx en => (match outsOf sl en with
      | some outs => .ok (.frz .non) outs
      | none => .bad)
    | .exc c p en => (match outsOf sl en with
      | some outs => .exc c p outs
      | none => .bad)
    | _ => .bad) else .bad
end
end PM

namespace PM
open PySem PySem.Spec PyProof.Rows
open L2 hiding St
variable [TC]
open PySem.SeqAt (in_tuple_data notIn_tuple_data in_list_data notIn_list_data eq_plain ne_plain)

structure Tb where
  fnA : Nat → Option Addr
  clsA : Nat → Option Addr
  tabs : List (Addr × Str)
abbrev Cxg (X : Cx) (T : Tb) : GT := ⟨X.prog, X.w, X.K, T.fnA, T.clsA, T.tabs⟩
theorem keep_new {H : Hp} {a : Addr} {o : HO} (n : H a = none) : Keep [] H (upd H a o) := fun b u e _ _ => by rw [upd_ne (fun z => by rw [z, n] at e; cases e)]; exact e
theorem mutO_nil {H : Hp} : MutO H [] := fun _ hb => by cases hb
theorem fp_new {H : Hp} {a : Addr} {o : HO} (n : H a = none) : FP H (upd H a o) := (keep_new n).fp mutO_nil

/-- v is the datum d, its parts frozen, itself perhaps not -/
def Opr (G : GT) (H : Hp) (d : D) (v : V) : Prop :=
  Fz G H d v ∨ (∃ ds a xs, d = .lst ds ∧ v = .ref a ∧ H a = some (.lst xs) ∧ FzL G H ds xs) ∨
    (∃ kvs a o es ep, d = .dic kvs ∧ v = .ref a ∧ H a = some (raw a o) ∧ (a == sysModules) = false ∧ o.ExactDict ∧ o.data = .dict es ep ∧ FzKV G H kvs es.toList ∧
      (kvs.map (fun p => p.1.key)).Nodup ∧ ((∀ p ∈ kvs, p.1.isLeaf = true) ∨ (∀ p ∈ kvs, p.1.isTup = true)) ∧ kvs.length ≤ sizeLine)
section
variable {G : GT} {H : Hp}
theorem ovL_flats : ∀ {os : List OV} {xs : List V} {as : List Addr} {ds : List D}, OvL G H os xs as → OV.flats os = some ds → FzL G H ds xs ∧ as = []
  | [], xs, as, ds, h, e => by
    simp only [OvL] at h
    simp only [OV.flats, Option.some.injEq] at e
    subst e
    exact ⟨by simp [FzL, h.1], h.2⟩
  | .frz d :: os, xs, as, ds, h, e => by
    simp only [OvL] at h
    obtain ⟨x, r, a1, a2, rfl, h1, h2, rfl⟩ := h
    simp only [OV.flats, Option.map_eq_some_iff] at e
    obtain ⟨t, e1, rfl⟩ := e
    obtain ⟨f, rfl⟩ := ovL_flats h2 e1
    simp only [Ov] at h1
    exact ⟨FzL.cons h1.1 f, by rw [h1.2]; rfl⟩
  | .lst _ :: os, xs, as, ds, h, e => by simp [OV.flats] at e
  | .dic _ :: os, xs, as, ds, h, e => by simp [OV.flats] at e
  | .ins _ _ :: os, xs, as, ds, h, e => by simp [OV.flats] at e
theorem ovKV_flats : ∀ {kvs : List (D × OV)} {es : List DictEntry} {as : List Addr} {ds : List (D × D)}, OvKV G H kvs es as → OV.flatKV kvs = some ds →
    FzKV G H ds es ∧ as = [] ∧ ds.map (fun p => p.1) = kvs.map (fun p => p.1)
  | [], es, as, ds, h, e => by
    simp only [OvKV] at h
    simp only [OV.flatKV, Option.some.injEq] at e
    subst e
    exact ⟨by simp [FzKV, h.1], h.2, rfl⟩
  | (k, .frz d) :: os, es, as, ds, h, e => by
    simp only [OvKV] at h
    obtain ⟨en, s, kv, vv, nk, a1, a2, rfl, z2, z3, z4, z5, z6, z7, h1, h2, rfl⟩ := h
    simp only [OV.flatKV, Option.map_eq_some_iff] at e
    obtain ⟨t, e1, rfl⟩ := e
    obtain ⟨f, rfl, e2⟩ := ovKV_flats h2 e1
    simp only [Ov] at h1
    refine ⟨?_, by rw [h1.2]; rfl, by rw [List.map_cons, List.map_cons, e2]⟩
    simp only [FzKV]
    exact ⟨en, s, kv, vv, nk, rfl, z2, z3, z4, z5, z6, z7, h1.1, f⟩
  | (_, .lst _) :: os, xs, as, ds, h, e => by simp [OV.flatKV] at e
  | (_, .dic _) :: os, xs, as, ds, h, e => by simp [OV.flatKV] at e
  | (_, .ins _ _) :: os, xs, as, ds, h, e => by simp [OV.flatKV] at e
theorem Ov.opr {o : OV} {v : V} {as : List Addr} {d : D} (h : Ov G H o v as) (e : o.flat = some d) : Opr G H d v := by
  cases o with
  | frz d' =>
    simp only [OV.flat, Option.some.injEq] at e
    subst e
    simp only [Ov] at h
    exact .inl h.1
  | lst os =>
    simp only [OV.flat, Option.map_eq_some_iff] at e
    obtain ⟨ds, e, rfl⟩ := e
    simp only [Ov] at h
    obtain ⟨a, xs, bs, rfl, h1, h2, rfl⟩ := h
    exact .inr (.inl ⟨ds, a, xs, rfl, rfl, h1, (ovL_flats h2 e).1⟩)
  | dic kvs =>
    simp only [OV.flat, Option.map_eq_some_iff] at e
    obtain ⟨ds, e, rfl⟩ := e
    simp only [Ov] at h
    obtain ⟨a, o, es, ep, bs, rfl, h1, h2, h3, h4, h5, h6, h7, h8, rfl⟩ := h
    obtain ⟨f, _, em⟩ := ovKV_flats h5 e
    have e1 : ∀ (q : D → Bool), (∀ p ∈ kvs, q p.1 = true) → ∀ p ∈ ds, q p.1 = true := fun q hq p hp => by
      have z : p.1 ∈ kvs.map (fun p => p.1) := by rw [← em]; exact List.mem_map.mpr ⟨p, hp, rfl⟩
      obtain ⟨p', hp', e'⟩ := List.mem_map.mp z
      rw [← e']; exact hq p' hp'
    refine .inr (.inr ⟨ds, a, o, es, ep, rfl, rfl, h1, h2, h3, h4, f, ?_, h7.imp (e1 _) (e1 _), ?_⟩)
    · have e2 : ds.map (fun p => p.1.key) = kvs.map (fun p => p.1.key) := by
        have := congrArg (List.map D.key) em
        simpa [List.map_map, Function.comp_def] using this
      rw [e2]; exact h6
    · have := congrArg List.length em
      rw [List.length_map, List.length_map] at this
      omega
  | ins _ _ => simp [OV.flat] at e
theorem Opr.lst {ds : List D} {v : V} (h : Opr G H (.lst ds) v) : ∃ a xs, v = .ref a ∧ (H a = some (.lst xs) ∨ ∃ o, H a = some (.frz o (.lst xs))) ∧ FzL G H ds xs := by
  rcases h with h | ⟨ds', a, xs, e, rfl, h1, h2⟩ | ⟨_, _, _, _, _, e, _⟩
  · simp only [Fz] at h
    obtain ⟨a, xs, rfl, h1, h2⟩ := h
    exact ⟨a, xs, rfl, .inr h1, h2⟩
  · cases e
    exact ⟨a, xs, rfl, .inl h1, h2⟩
  · cases e
theorem Opr.tup {ds : List D} {v : V} (h : Opr G H (.tup ds) v) : ∃ a xs, v = .ref a ∧ SqT G.K H a xs ∧ FzL G H ds xs := by
  rcases h with h | ⟨ds', a, xs, e, _⟩ | ⟨_, _, _, _, _, e, _⟩
  · simpa only [Fz] using h
  · cases e
  · cases e
theorem Opr.int {i : Int} {v : V} (h : Opr G H (.int i) v) : v = .int i := by
  rcases h with h | ⟨ds', a, xs, e, _⟩ | ⟨_, _, _, _, _, e, _⟩
  · simpa only [Fz] using h
  · cases e
  · cases e
theorem Opr.str {i : Str} {v : V} (h : Opr G H (.str i) v) : v = .str i := by
  rcases h with h | ⟨ds', a, xs, e, _⟩ | ⟨_, _, _, _, _, e, _⟩
  · simpa only [Fz] using h
  · cases e
  · cases e
theorem Opr.bl {i : Bool} {v : V} (h : Opr G H (.bl i) v) : v = .bl i := by
  rcases h with h | ⟨ds', a, xs, e, _⟩ | ⟨_, _, _, _, _, e, _⟩
  · simpa only [Fz] using h
  · cases e
  · cases e
theorem Opr.non {v : V} (h : Opr G H .non v) : v = .non := by
  rcases h with h | ⟨ds', a, xs, e, _⟩ | ⟨_, _, _, _, _, e, _⟩
  · simpa only [Fz] using h
  · cases e
  · cases e
/-- it reads as its data -/
theorem Opr.reads {h : Heap} (ok : HOk G.P G.w H h) (kin : G.K.In h) {d : D} {v : V} {u : Value} (p : d.isPy = true) (f : Opr G H d v) (r : RelV v u) : ∃ as, Reads h u d.py as := by
  rcases f with f | ⟨ds, a, xs, rfl, rfl, h1, h2⟩ | ⟨kvs, a, o, es, ep, rfl, rfl, h1, h2, h3, h4, h5, _⟩
  · exact Fz.reads ok kin d v u p f r
  · cases r
    obtain ⟨its, rv, ⟨o, n, ho, hc, _, hd⟩, _⟩ := lstAt (K := G.K) ok kin (SqL.of h1)
    obtain ⟨as, q⟩ := FzL.reads ok kin ds xs its (by simpa only [D.isPy] using p) h2 rv
    exact ⟨_, .list ho hc hd q⟩
  · cases r
    obtain ⟨as, bs, q1, q2⟩ := FzKV.reads ok kin kvs es.toList (by simpa only [D.isPy] using p) h5
    have e1 : ∀ l : List (D × D), (D.pyKv l).map (·.1) = D.pys (l.map (·.1)) := fun l => by
      induction l with
      | nil => rfl
      | cons x l ih => obtain ⟨x1, x2⟩ := x; simp only [D.pyKv, List.map_cons, D.pys, ih]
    have e2 : ∀ l : List (D × D), (D.pyKv l).map (·.2) = D.pys (l.map (·.2)) := fun l => by
      induction l with
      | nil => rfl
      | cons x l ih => obtain ⟨x1, x2⟩ := x; simp only [D.pyKv, List.map_cons, D.pys, ih]
    exact ⟨_, .dict (raw_at ok h1) h3.1 h4 (by rw [e1]; exact q1) (by rw [e2]; exact q2)⟩
end
mutual
theorem D.isPy_of_plain : ∀ d : D, d.plain = true → d.isPy = true
  | .non, _ => rfl
  | .bl _, _ => rfl
  | .int _, _ => rfl
  | .str _, _ => rfl
  | .tup ds, h => by simp only [D.isPy]; exact D.isPys_of_plains ds (by simpa only [D.plain] using h)
  | .lst ds, h => by simp only [D.isPy]; exact D.isPys_of_plains ds (by simpa only [D.plain] using h)
  | .dic _, h => by simp [D.plain] at h
  | .fn _, h => by simp [D.plain] at h
  | .cls _, h => by simp [D.plain] at h
  | .ty _, h => by simp [D.plain] at h
theorem D.isPys_of_plains : ∀ ds : List D, D.plains ds = true → D.isPys ds = true
  | [], _ => rfl
  | d :: ds, h => by
    simp only [D.plains, Bool.and_eq_true] at h
    simp only [D.isPys, D.isPy_of_plain d h.1, D.isPys_of_plains ds h.2, Bool.and_self]
end
mutual
theorem D.py_plain : ∀ d : D, d.plain = true → d.py.plain = true
  | .non, _ => rfl
  | .bl _, _ => rfl
  | .int _, _ => rfl
  | .str _, _ => rfl
  | .tup ds, h => by simp only [D.py, PyData.plain]; exact D.pys_plain ds (by simpa only [D.plain] using h)
  | .lst ds, h => by simp only [D.py, PyData.plain]; exact D.pys_plain ds (by simpa only [D.plain] using h)
  | .dic _, h => by simp [D.plain] at h
  | .fn _, h => by simp [D.plain] at h
  | .cls _, h => by simp [D.plain] at h
  | .ty _, h => by simp [D.plain] at h
theorem D.pys_plain : ∀ ds : List D, D.plains ds = true → PyData.plainAll (D.pys ds) = true
  | [], _ => rfl
  | d :: ds, h => by
    simp only [D.plains, Bool.and_eq_true] at h
    simp only [D.pys, PyData.plainAll, D.py_plain d h.1, D.pys_plain ds h.2, Bool.and_self]
end

/-! ## what an operation hands on -/
def NRq (G : GT) (H : Hp) (o : OV) (v : V) (H' : Hp) : Prop := Keep [] H H' ∧ Dom H H' ∧ ∃ as, Ov G H' o v as ∧ as.Nodup ∧ ∀ b ∈ as, H b = none
section
variable {G : GT} {H : Hp}
theorem nq_old {d : D} {v : V} (f : Fz G H d v) : NRq G H (.frz d) v H := ⟨.refl, .refl H, [], by simp only [Ov]; exact ⟨f, trivial⟩, .nil, fun b hb => by cases hb⟩
theorem nq_int {i : Int} : NRq G H (.frz (.int i)) (.int i) H := nq_old (by simp [Fz])
theorem nq_bl {i : Bool} : NRq G H (.frz (.bl i)) (.bl i) H := nq_old (by simp [Fz])
theorem nq_str {i : Str} : NRq G H (.frz (.str i)) (.str i) H := nq_old (by simp [Fz])
theorem nq_non : NRq G H (.frz .non) .non H := nq_old (by simp [Fz])
theorem nq_tup {p : Addr} {ds : List D} {xs : List V} (n : H p = none) (f : FzL G H ds xs) : NRq G H (.frz (.tup ds)) (.ref p) (upd H p (.tup xs)) :=
  ⟨keep_new n, Dom.new n, [], by simp only [Ov, Fz]; exact ⟨⟨p, xs, rfl, SqT.of upd_same, FzL.mono (fp_new n) _ _ f⟩, trivial⟩, .nil, fun b hb => by cases hb⟩
theorem ovL_frz : ∀ {ds : List D} {xs : List V}, FzL G H ds xs → OvL G H (ds.map .frz) xs []
  | [], xs, h => by simp only [FzL] at h; simp [OvL, h]
  | d :: ds, xs, h => by
    simp only [FzL] at h
    obtain ⟨x, r, rfl, h1, h2⟩ := h
    simp only [List.map_cons, OvL, Ov]
    exact ⟨x, r, [], [], rfl, ⟨h1, rfl⟩, ovL_frz h2, rfl⟩
theorem nq_lst {p : Addr} {ds : List D} {xs : List V} (n : H p = none) (f : FzL G H ds xs) : NRq G H (.lst (ds.map .frz)) (.ref p) (upd H p (.lst xs)) :=
  ⟨keep_new n, Dom.new n, [p], by simp only [Ov]; exact ⟨p, xs, [], rfl, upd_same, ovL_frz (FzL.mono (fp_new n) _ _ f), rfl⟩, by simp, fun b hb => by
    have : b = p := by simpa using hb
    subst this; exact n⟩
end
section
variable {X : Cx} {T : Tb} {pins : List (Addr × Obj)} {σ : L2.St} {H : Hp} {s : Shared}
theorem Inv.listD (I : Inv X pins σ H s) {ds : List D} {v : V} {u : Value} (h : Opr (Cxg X T) H (.lst ds) v) (r : RelV v u) :
    ∃ a its n xs, u = .ref a ∧ v = .ref a ∧ Vals xs its ∧ s.heap.get? a = some { cls := .type "list", data := .seq its.toArray n } ∧ FzL (Cxg X T) H ds xs ∧ xs.length ≤ sizeLine ∧ SqL X.K H a xs := by
  obtain ⟨a, xs, rfl, h1, h2⟩ := h.lst
  cases r
  have q : Rd H a (.lst xs) := h1
  obtain ⟨z, its, n, rv, e⟩ := q.ok I.hok
  exact ⟨a, its, n, xs, rfl, rfl, rv, e, h2, z, .inl q⟩
theorem nr_lst (I : Inv X pins σ H s) {its : List Value} {xs : List V} {ds : List D} {n : Nat} {t' : Nat} (rv : Vals xs its) (hz : xs.length ≤ sizeLine) (f : FzL (Cxg X T) H ds xs) :
    EP X pins σ (NRq (Cxg X T) H (.lst (ds.map .frz))) (.ref s.heap.objs.size) { s with heap := s.heap.push { cls := .type "list", data := .seq its.toArray n }, toks := t' } :=
  ⟨.ref _, _, I.laid (t' := t') (o := .lst xs) (fun b ob q => Heap.get?_push_of_some _ q) (Nat.le_refl _) ⟨hz, its, n, rv, Heap.get?_push_size _ rfl⟩, rfl, nq_lst (I.hok.fresh (Nat.le_refl _)) f⟩
/-- two lists together -/
theorem cat_ok (I : Inv X pins σ H s) {a b : List D} {v w : V} {u z : Value} (ha : Opr (Cxg X T) H (.lst a) v) (hb : Opr (Cxg X T) H (.lst b) w) (ra : RelV v u) (rb : RelV w z) (hz : a.length + b.length ≤ sizeLine) :
    wpAny (model X.prog X.w) X.A (binaryOp .Add u z) (EP X pins σ (NRq (Cxg X T) H (.lst ((a ++ b).map .frz)))) X.xe s := by
  obtain ⟨l, its, n, xs, rfl, rfl, r1, e1, f1, _⟩ := Inv.listD I ha ra
  obtain ⟨m, its2, n2, ys, rfl, rfl, r2, e2, f2, _⟩ := Inv.listD I hb rb
  have l1 := f1.length
  have l2 := f2.length
  have l3 := r1.length
  have l4 := r2.length
  refine PySem.P.add_list e1 e2 ?_ (by rw [List.size_toArray, List.size_toArray]; omega)
  have ea : its.toArray ++ its2.toArray = (its ++ its2).toArray := by simp
  rw [ea]
  exact nr_lst (t' := s.toks) I (r1.append r2) (by rw [List.length_append]; omega) (f1.append f2)
/-- a + b, and the like -/
theorem bin_ok (I : Inv X pins σ H s) {a b : D} {v w : V} {u z : Value} {op : BOp} {r : OV} (ha : Opr (Cxg X T) H a v) (hb : Opr (Cxg X T) H b w) (ra : RelV v u) (rb : RelV w z) (e : opBin op a b = some r) :
    wpAny (model X.prog X.w) X.A (binaryOp op.op u z) (EP X pins σ (NRq (Cxg X T) H r)) X.xe s := by
  unfold opBin at e
  split at e
  · cases e
    rw [ha.int] at ra; rw [hb.int] at rb
    exact op_add pins s σ H _ _ u z _ I ra rb ⟨_, _, rfl, rfl, nq_int⟩
  · obtain ⟨hc, rfl⟩ := gd_some.mp e
    rw [ha.str] at ra; rw [hb.str] at rb
    exact op_add_str pins s σ H _ _ u z _ I ra rb ⟨_, _, rfl, rfl, hc, nq_str⟩
  · obtain ⟨hc, rfl⟩ := gd_some.mp e
    rename_i a b
    obtain ⟨p, xs, rfl, h1, f1⟩ := ha.tup
    obtain ⟨q, ys, rfl, h2, f2⟩ := hb.tup
    have l1 := f1.length
    have l2 := f2.length
    refine op_catA pins s σ H _ _ u z _ I ra rb ⟨_, _, xs, ys, rfl, rfl, h1, h2, by omega, fun e => ?_, fun _ e => ?_, fun _ _ p np => nq_tup np (f1.append f2)⟩
    · subst e
      have e0 : a = [] := List.length_eq_zero_iff.mp l1.symm
      subst e0
      exact nq_old (by simp only [List.nil_append, Fz]; exact ⟨q, ys, rfl, h2, f2⟩)
    · subst e
      have e0 : b = [] := List.length_eq_zero_iff.mp l2.symm
      subst e0
      exact nq_old (by simp only [List.append_nil, Fz]; exact ⟨p, xs, rfl, h1, f1⟩)
  · obtain ⟨hc, rfl⟩ := gd_some.mp e
    exact cat_ok I ha hb ra rb hc
  · cases e
    rw [ha.int] at ra; rw [hb.int] at rb
    exact op_sub pins s σ H _ _ u z _ I ra rb ⟨_, _, rfl, rfl, nq_int⟩
  · obtain ⟨hc, rfl⟩ := gd_some.mp e
    rw [ha.int] at ra; rw [hb.int] at rb
    rename_i i j
    have hc' : CMulW i j := by unfold CMulB at hc; have h := of_decide_eq_true hc; exact h
    exact op_mulW pins s σ H _ _ u z _ I ra rb ⟨_, _, rfl, rfl, hc', nq_int⟩
  · obtain ⟨hc, rfl⟩ := gd_some.mp e
    rename_i a k
    obtain ⟨h0, h1, h2, h3⟩ := hc
    obtain ⟨p, xs, rfl, h4, f1⟩ := ha.tup
    rw [hb.int] at rb
    have l1 := f1.length
    have fr : ∀ n : Nat, FzL (Cxg X T) H (List.replicate n a).flatten (List.replicate n xs).flatten := fun n => by
      induction n with
      | zero => simp [FzL]
      | succ n ih => rw [List.replicate_succ, List.replicate_succ, List.flatten_cons, List.flatten_cons]; exact f1.append ih
    refine op_repT pins s σ H _ _ u z _ I ra rb ⟨_, _, xs, rfl, rfl, h4, fun z => ?_, h1, h2, by omega, fun p np => nq_tup np (fr _)⟩
    subst z
    exact h0 (List.length_eq_zero_iff.mp l1.symm)
  · obtain ⟨hc, rfl⟩ := gd_some.mp e
    rw [ha.int] at ra; rw [hb.int] at rb
    exact op_fdivW pins s σ H _ _ u z _ I ra rb ⟨_, _, rfl, rfl, hc, nq_int⟩
  · obtain ⟨hc, rfl⟩ := gd_some.mp e
    rw [ha.int] at ra; rw [hb.int] at rb
    exact op_mod pins s σ H _ _ u z _ I ra rb ⟨_, _, rfl, rfl, hc, nq_int⟩
  · obtain ⟨hc, rfl⟩ := gd_some.mp e
    rw [ha.int] at ra; rw [hb.int] at rb
    exact op_pow pins s σ H _ _ u z _ I ra rb ⟨_, _, rfl, rfl, hc, nq_int⟩
  · cases e

theorem shal_depth {d : D} (h : d.shal = true) : d.py.depth ≤ 60 := of_decide_eq_true h
theorem pysAny (ds : List D) (a : D) : (D.pys ds).any (fun y => PyData.eqv y a.py) = ds.any fun d => D.eqv d a := by
  induction ds with
  | nil => rfl
  | cons d ds ih => simp only [D.pys, List.any_cons, ih]; rfl
theorem min_left {a b : Nat} (h : a ≤ 60) : min a b ≤ 60 := Nat.le_trans (Nat.min_le_left _ _) h
theorem min_right {a b : Nat} (h : b ≤ 60) : min a b ≤ 60 := Nat.le_trans (Nat.min_le_right _ _) h
theorem ep_bool (I : Inv X pins σ H s) {b : Bool} : EP X pins σ (NRq (Cxg X T) H (.frz (.bl b))) (.bool b) s := ⟨.bl b, H, I, rfl, nq_bl⟩
theorem opIn_in {a b : D} {r : Bool} (I : Inv X pins σ H s) (hu : X.A.units + 100 < cLine) {v w : V} {u z : Value} (ha : Opr (Cxg X T) H a v) (hb : Opr (Cxg X T) H b w) (ra : RelV v u) (rb : RelV w z) (e : opIn a b = some r) :
    wpAny (model X.prog X.w) X.A (compareOp .In u z) (EP X pins σ (NRq (Cxg X T) H (.frz (.bl r)))) X.xe s ∧ wpAny (model X.prog X.w) X.A (compareOp .NotIn u z) (EP X pins σ (NRq (Cxg X T) H (.frz (.bl (!r))))) X.xe s := by
  unfold opIn at e
  split at e
  · obtain ⟨hc, rfl⟩ := gd_some.mp e
    simp only [Bool.and_eq_true] at hc
    obtain ⟨⟨h1, h2⟩, h3⟩ := hc
    obtain ⟨as, q1⟩ := ha.reads I.hok I.kIn (D.isPy_of_plain _ h1) ra
    obtain ⟨bs, q2⟩ := hb.reads I.hok I.kIn (by simp only [D.isPy]; exact D.isPys_of_plains _ h2) rb
    simp only [D.py] at q2
    rename_i ds
    have hd := min_right (a := PyData.depthAll (D.pys ds)) (shal_depth h3)
    exact ⟨in_tuple_data q2 q1 (D.pys_plain _ h2) (D.py_plain _ h1) (by omega) (by rw [pysAny]; exact ep_bool I), notIn_tuple_data q2 q1 (D.pys_plain _ h2) (D.py_plain _ h1) (by omega) (by rw [pysAny]; exact ep_bool I)⟩
  · obtain ⟨hc, rfl⟩ := gd_some.mp e
    simp only [Bool.and_eq_true] at hc
    obtain ⟨⟨h1, h2⟩, h3⟩ := hc
    obtain ⟨as, q1⟩ := ha.reads I.hok I.kIn (D.isPy_of_plain _ h1) ra
    obtain ⟨bs, q2⟩ := hb.reads I.hok I.kIn (by simp only [D.isPy]; exact D.isPys_of_plains _ h2) rb
    simp only [D.py] at q2
    rename_i ds
    have hd := min_right (a := PyData.depthAll (D.pys ds)) (shal_depth h3)
    exact ⟨in_list_data q2 q1 (D.pys_plain _ h2) (D.py_plain _ h1) (by omega) (by rw [pysAny]; exact ep_bool I), notIn_list_data q2 q1 (D.pys_plain _ h2) (D.py_plain _ h1) (by omega) (by rw [pysAny]; exact ep_bool I)⟩
  · split at e
    · rename_i y _ x
      unfold strIn at e
      split at e
      · rename_i c hc
        cases e
        have ex : x = ⟨#[c]⟩ := by
          cases x with
          | mk cps =>
            have : cps = #[c] := by
              apply Array.toList_inj.mp
              rw [hc]
            rw [this]
        subst ex
        rw [ha.str] at ra
        rw [hb.str] at rb
        exact ⟨op_in_sign pins s σ H _ _ u z _ I ra rb ⟨c, _, rfl, rfl, nq_bl⟩, op_notIn_sign pins s σ H _ _ u z _ I ra rb ⟨c, _, rfl, rfl, nq_bl⟩⟩
      · cases e
    · cases e
  · cases e
theorem opIs_is {a b : D} {r : Bool} (I : Inv X pins σ H s) {v w : V} {u z : Value} (ha : Opr (Cxg X T) H a v) (hb : Opr (Cxg X T) H b w) (ra : RelV v u) (rb : RelV w z) (e : opIs a b = some r) :
    wpAny (model X.prog X.w) X.A (compareOp .Is u z) (EP X pins σ (NRq (Cxg X T) H (.frz (.bl r)))) X.xe s ∧ wpAny (model X.prog X.w) X.A (compareOp .IsNot u z) (EP X pins σ (NRq (Cxg X T) H (.frz (.bl (!r))))) X.xe s := by
  unfold opIs at e
  split at e
  · rw [hb.non] at rb
    have go : ∀ r, r = decide (v = .non) → wpAny (model X.prog X.w) X.A (compareOp .Is u z) (EP X pins σ (NRq (Cxg X T) H (.frz (.bl r)))) X.xe s ∧ wpAny (model X.prog X.w) X.A (compareOp .IsNot u z) (EP X pins σ (NRq (Cxg X T) H (.frz (.bl (!r))))) X.xe s := fun r er => by
      subst er
      exact ⟨op_isN pins s σ H _ _ u z _ I ra rb ⟨rfl, nq_bl⟩, op_notN pins s σ H _ _ u z _ I ra rb ⟨rfl, nq_bl⟩⟩
    have nn : v ≠ .non → r = false → r = decide (v = .non) := fun h1 h2 => by rw [h2]; exact (decide_eq_false h1).symm
    split at e
    · cases e
      exact go _ (by rw [ha.non]; rfl)
    · cases e
    · rename_i h1 h2
      cases e
      refine go _ (nn (fun z => ?_) rfl)
      subst z
      rcases ha with ha | ⟨_, _, _, _, q, _⟩ | ⟨_, _, _, _, _, _, q, _⟩
      · cases a with
        | non => exact h1 rfl
        | bl b => simp [Fz] at ha
        | int b => simp [Fz] at ha
        | str b => simp [Fz] at ha
        | tup b => simp [Fz] at ha
        | lst b => simp [Fz] at ha
        | dic b => simp [Fz] at ha
        | fn i => exact h2 i rfl
        | cls i => simp [Fz] at ha
        | ty i => simp [Fz] at ha
      · cases q
      · cases q
  · split at e
    · cases e
      rw [ha.bl] at ra
      rw [hb.bl] at rb
      refine ⟨op_is_bl pins s σ H _ _ u z _ I ra rb ⟨_, _, rfl, rfl, ?_⟩, ?_⟩
      · rw [← Bool.beq_eq_decide_eq]; exact nq_bl
      · refine op_isnot_bl pins s σ H _ _ u z _ I ra rb ⟨_, _, rfl, rfl, ?_⟩
        rw [← Bool.beq_eq_decide_eq]; exact nq_bl
    · cases e
  · cases e
end
end PM

namespace PM
open PySem PySem.Spec PyProof.Rows
open L2 hiding St
variable [TC]

/-! ## keys -/
section
variable {G : GT} {H : Hp} {h : Heap}
mutual
theorem Fz.nested (ok : HOk G.P G.w H h) (kin : G.K.In h) : ∀ (d : D) (v : V) (u : Value) (nk : NestedKey), d.key = some nk → Fz G H d v → RelV v u → NestedIs h nk u
  | .non, v, u, nk, e, f, r => by simp only [D.key, Option.some.injEq] at e; subst e; simp only [Fz] at f; subst f; cases r; exact .none
  | .bl b, v, u, nk, e, f, r => by simp only [D.key, Option.some.injEq] at e; subst e; simp only [Fz] at f; subst f; cases r; exact .bool rfl
  | .int i, v, u, nk, e, f, r => by simp only [D.key, Option.some.injEq] at e; subst e; simp only [Fz] at f; subst f; obtain ⟨t, rfl⟩ := r; exact .int i t
  | .str x, v, u, nk, e, f, r => by simp only [D.key, Option.some.injEq] at e; subst e; simp only [Fz] at f; subst f; obtain ⟨t, rfl⟩ := r; exact .text x t
  | .tup ds, v, u, nk, e, f, r => by
    simp only [D.key, Option.map_eq_some_iff] at e
    obtain ⟨ks, e, rfl⟩ := e
    simp only [Fz] at f
    obtain ⟨a, xs, rfl, h1, h2⟩ := f
    cases r
    obtain ⟨its, rv, ⟨o, ho, hc, n, hd⟩, _⟩ := tupAt ok kin h1
    exact .tup ho hc hd (FzL.nested ok kin ds xs its ks e h2 rv)
  | .lst _, _, _, _, e, _, _ => by simp [D.key] at e
  | .dic _, _, _, _, e, _, _ => by simp [D.key] at e
  | .fn _, _, _, _, e, _, _ => by simp [D.key] at e
  | .cls _, _, _, _, e, _, _ => by simp [D.key] at e
  | .ty _, _, _, _, e, _, _ => by simp [D.key] at e
theorem FzL.nested (ok : HOk G.P G.w H h) (kin : G.K.In h) : ∀ (ds : List D) (xs : List V) (us : List Value) (ks : List NestedKey), D.keys ds = some ks → FzL G H ds xs → Vals xs us → NestedAll h ks us
  | [], xs, us, ks, e, f, r => by simp only [D.keys, Option.some.injEq] at e; subst e; simp only [FzL] at f; subst f; cases r; exact .nil
  | d :: ds, xs, us, ks, e, f, r => by
    simp only [FzL] at f
    obtain ⟨x, t, rfl, h1, h2⟩ := f
    cases r with
    | cons r1 r2 =>
      simp only [D.keys] at e
      split at e
      · rename_i k ks' e1 e2
        simp only [Option.some.injEq] at e
        subst e
        exact .cons (Fz.nested ok kin d x _ k e1 h1 r1) (FzL.nested ok kin ds t _ ks' e2 h2 r2)
      · cases e
end
end
/-- an int or a text, as a key -/
def keyS : D → Key
  | .int i => .inl i
  | .str x => .inr x
  | _ => .inl 0
theorem keyS_key {k : D} (h : k.isLeaf = true) : k.key = some (match keyS k with | .inl i => .num i | .inr x => .text x) := by
  cases k <;> first | rfl | (simp [D.isLeaf] at h)
theorem keyS_V {G : GT} {H : Hp} {k : D} {v : V} (h : k.isLeaf = true) (f : Fz G H k v) : v = kV (keyS k) := by
  cases k <;> first | (simp only [Fz] at f; exact f) | (simp [D.isLeaf] at h)
theorem keyS_fz {G : GT} {H : Hp} {k : D} (h : k.isLeaf = true) : Fz G H k (kV (keyS k)) := by
  cases k <;> first | (simp [Fz, keyS, kV]; done) | (simp [D.isLeaf] at h)
theorem keyS_inj {k k' : D} (h : k.isLeaf = true) (h' : k'.isLeaf = true) : keyS k = keyS k' ↔ k.key = k'.key := by
  rw [keyS_key h, keyS_key h']
  cases e : keyS k <;> cases e' : keyS k' <;> simp
theorem relV_kV {k : Key} {u : Value} (r : RelV (kV k) u) : keyIs k u = true := by
  cases k with
  | inl i => obtain ⟨t, rfl⟩ := r; exact keyIs_int i t
  | inr x => obtain ⟨t, rfl⟩ := r; exact keyIs_str x t
theorem keyIs_relV {k : Key} {u : Value} (e : keyIs k u = true) : RelV (kV k) u := by
  rcases keyIs_shape e with ⟨i, t, rfl, rfl⟩ | ⟨x, t, rfl, rfl⟩
  · exact ⟨t, rfl⟩
  · exact ⟨t, rfl⟩

/-- a datum's dict and the model's, keys by value -/
def LK (G : GT) (H : Hp) : List (D × D) → List (Key × Value) → Prop
  | [], ls => ls = []
  | (k, d) :: r, ls => ∃ u t v, ls = (keyS k, u) :: t ∧ k.isLeaf = true ∧ RelV v u ∧ Fz G H d v ∧ LK G H r t
/-- .. keys that are tuples -/
def TK (G : GT) (H : Hp) : List (D × D) → List (NestedKey × Addr × Value) → Prop
  | [], ls => ls = []
  | (k, d) :: r, ls => ∃ nk a u t v, ls = (nk, a, u) :: t ∧ k.isTup = true ∧ k.key = some nk ∧ nk.depth ≤ 8 ∧ Fz G H k (.ref a) ∧ RelV v u ∧ Fz G H d v ∧ TK G H r t
section
variable {G : GT} {H : Hp}
theorem LK.of : ∀ {kvs : List (D × D)} {es : List DictEntry}, FzKV G H kvs es → (∀ p ∈ kvs, p.1.isLeaf = true) → ∃ ls, LK G H kvs ls ∧ Pairs (mixKind G.P G.w) es ls ∧ ∀ e ∈ es, ∃ k, (mixKind G.P G.w).is k e.key = true ∧ e.hash = (mixKind G.P G.w).hash k
  | [], es, f, _ => by simp only [FzKV] at f; subst f; exact ⟨[], rfl, .nil, fun e he => by cases he⟩
  | (k, d) :: r, es, f, hl => by
    simp only [FzKV] at f
    obtain ⟨e, s, kv, vv, nk, rfl, h1, h2, h3, h4, h5, h6, h7, h8⟩ := f
    have hk := hl (k, d) (List.mem_cons_self ..)
    obtain ⟨ls, q1, q2, q3⟩ := LK.of h8 fun p hp => hl p (List.mem_cons_of_mem _ hp)
    have ev := keyS_V hk h4
    subst ev
    have is1 := relV_kV h3
    refine ⟨(keyS k, e.val) :: ls, ⟨e.val, ls, vv, rfl, hk, h6, h7, q1⟩, .cons is1 rfl q2, fun e' he => ?_⟩
    rcases List.mem_cons.mp he with rfl | he
    · refine ⟨keyS k, is1, ?_⟩
      rw [h5]
      rw [keyS_key hk] at h1
      cases h1
      cases keyS k <;> rfl
    · exact q3 e' he
theorem LK.back : ∀ {kvs : List (D × D)} {es : List DictEntry} {ls : List (Key × Value)}, LK G H kvs ls → Pairs (mixKind G.P G.w) es ls → (∀ e ∈ es, ∃ k, (mixKind G.P G.w).is k e.key = true ∧ e.hash = (mixKind G.P G.w).hash k) → FzKV G H kvs es
  | [], es, ls, q, p, _ => by simp only [LK] at q; subst q; cases p; simp [FzKV]
  | (k, d) :: r, es, ls, q, p, hk => by
    simp only [LK] at q
    obtain ⟨u, t, v, rfl, hl, rv, fv, q⟩ := q
    cases p with
    | cons i1 i2 p =>
      rename_i e es'
      simp only [FzKV]
      have i1' : keyIs (keyS k) e.key = true := i1
      obtain ⟨k', j1, j2⟩ := hk e (List.mem_cons_self ..)
      have ek : k' = keyS k := (mixKind G.P G.w).inj _ _ _ j1 i1
      subst ek
      refine ⟨e, es', kV (keyS k), v, _, rfl, keyS_key hl, ?_, keyIs_relV i1', keyS_fz hl, ?_, by rw [i2]; exact rv, fv, LK.back q p fun e' he => hk e' (List.mem_cons_of_mem _ he)⟩
      · cases keyS k <;> simp [NestedKey.depth]
      · rw [j2]; cases keyS k <;> rfl
theorem LK.keys : ∀ {kvs : List (D × D)} {ls : List (Key × Value)}, LK G H kvs ls → ls.map (·.1) = kvs.map fun p => keyS p.1
  | [], ls, q => by simp only [LK] at q; subst q; rfl
  | (k, d) :: r, ls, q => by
    simp only [LK] at q
    obtain ⟨u, t, v, rfl, hl, rv, fv, q⟩ := q
    simp only [List.map_cons, LK.keys q]
theorem LK.leaf : ∀ {kvs : List (D × D)} {ls : List (Key × Value)}, LK G H kvs ls → ∀ p ∈ kvs, p.1.isLeaf = true
  | [], ls, q, p, hp => by cases hp
  | (k, d) :: r, ls, q, p, hp => by
    simp only [LK] at q
    obtain ⟨u, t, v, rfl, hl, rv, fv, q⟩ := q
    rcases List.mem_cons.mp hp with rfl | hp
    · exact hl
    · exact LK.leaf q p hp
theorem LK.nodup {kvs : List (D × D)} {ls : List (Key × Value)} (q : LK G H kvs ls) : (ls.map (·.1)).Nodup ↔ (kvs.map fun p => p.1.key).Nodup := by
  rw [q.keys]
  have hl := q.leaf
  clear q
  induction kvs with
  | nil => simp
  | cons p r ih =>
    simp only [List.map_cons, List.nodup_cons]
    refine and_congr (not_congr ?_) (ih fun p hp => hl p (List.mem_cons_of_mem _ hp))
    constructor
    · intro hm
      obtain ⟨p', hp', e⟩ := List.mem_map.mp hm
      exact List.mem_map.mpr ⟨p', hp', (keyS_inj (hl p' (List.mem_cons_of_mem _ hp')) (hl p (List.mem_cons_self ..))).mp e⟩
    · intro hm
      obtain ⟨p', hp', e⟩ := List.mem_map.mp hm
      exact List.mem_map.mpr ⟨p', hp', (keyS_inj (hl p' (List.mem_cons_of_mem _ hp')) (hl p (List.mem_cons_self ..))).mpr e⟩
theorem LK.length : ∀ {kvs : List (D × D)} {ls : List (Key × Value)}, LK G H kvs ls → ls.length = kvs.length := fun q => by
  have := congrArg List.length q.keys
  simpa using this
theorem LK.look : ∀ {kvs : List (D × D)} {ls : List (Key × Value)} {k : D}, LK G H kvs ls → k.isLeaf = true →
    (findK kvs k = none ∧ valueAt ls (keyS k) = none) ∨ ∃ d u v, findK kvs k = some d ∧ valueAt ls (keyS k) = some u ∧ RelV v u ∧ Fz G H d v
  | [], ls, k, q, _ => by simp only [LK] at q; subst q; exact .inl ⟨rfl, rfl⟩
  | (k', d) :: r, ls, k, q, hk => by
    simp only [LK] at q
    obtain ⟨u, t, v, rfl, hl, rv, fv, q⟩ := q
    by_cases e : k'.key = k.key
    · refine .inr ⟨d, u, v, ?_, ?_, rv, fv⟩
      · simp [findK, keyEq, e]
      · simp [valueAt, (keyS_inj hl hk).mpr e]
    · have e' : ¬ keyS k' = keyS k := fun z => e ((keyS_inj hl hk).mp z)
      have ih := LK.look q hk
      have e1 : findK ((k', d) :: r) k = findK r k := by simp [findK, keyEq, e]
      have e2 : valueAt ((keyS k', u) :: t) (keyS k) = valueAt t (keyS k) := by simp [valueAt, e']
      rw [e1, e2]
      exact ih
theorem LK.any : ∀ {kvs : List (D × D)} {ls : List (Key × Value)} {k : D}, LK G H kvs ls → k.isLeaf = true → (ls.any fun kv => decide (kv.1 = keyS k)) = kvs.any fun p => keyEq p.1 k
  | [], ls, k, q, _ => by simp only [LK] at q; subst q; rfl
  | (k', d) :: r, ls, k, q, hk => by
    simp only [LK] at q
    obtain ⟨u, t, v, rfl, hl, rv, fv, q⟩ := q
    simp only [List.any_cons, LK.any q hk, keyEq]
    rw [show decide (keyS k' = keyS k) = decide (k'.key = k.key) from decide_eq_decide.mpr (keyS_inj hl hk)]
theorem LK.mapPut : ∀ {kvs : List (D × D)} {ls : List (Key × Value)} {k d : D} {u : Value} {v : V}, LK G H kvs ls → k.isLeaf = true → RelV v u → Fz G H d v →
    LK G H (kvs.map (fun p => if keyEq p.1 k then (p.1, d) else p)) (ls.map fun kv => if kv.1 = keyS k then (kv.1, u) else kv)
  | [], ls, k, d, u, v, q, _, _, _ => by simp only [LK] at q; subst q; simp [LK]
  | (k', d') :: r, ls, k, d, u, v, q, hk, ru, fd => by
    simp only [LK] at q
    obtain ⟨u', t, v', rfl, hl, rv, fv, q⟩ := q
    have ih := LK.mapPut (d := d) q hk ru fd
    simp only [List.map_cons]
    by_cases e : k'.key = k.key
    · have e1 : keyEq k' k = true := by simp [keyEq, e]
      rw [if_pos e1, if_pos ((keyS_inj hl hk).mpr e)]
      exact ⟨u, _, v, rfl, hl, ru, fd, ih⟩
    · have e1 : ¬ keyEq k' k = true := by simp [keyEq, e]
      rw [if_neg e1, if_neg fun z => e ((keyS_inj hl hk).mp z)]
      exact ⟨u', _, v', rfl, hl, rv, fv, ih⟩
theorem LK.app : ∀ {kvs : List (D × D)} {ls : List (Key × Value)} {k d : D} {u : Value} {v : V}, LK G H kvs ls → k.isLeaf = true → RelV v u → Fz G H d v → LK G H (kvs ++ [(k, d)]) (ls ++ [(keyS k, u)])
  | [], ls, k, d, u, v, q, hk, ru, fd => by simp only [LK] at q; subst q; exact ⟨u, [], v, rfl, hk, ru, fd, rfl⟩
  | (k', d') :: r, ls, k, d, u, v, q, hk, ru, fd => by
    simp only [LK] at q
    obtain ⟨u', t, v', rfl, hl, rv, fv, q⟩ := q
    exact ⟨u', _, v', rfl, hl, rv, fv, LK.app q hk ru fd⟩
theorem LK.put {kvs : List (D × D)} {ls : List (Key × Value)} {k d : D} {u : Value} {v : V} (q : LK G H kvs ls) (hk : k.isLeaf = true) (ru : RelV v u) (fd : Fz G H d v) : LK G H (putD kvs k d) (stored ls (keyS k) u) := by
  unfold putD stored
  rw [q.any hk]
  split
  · exact q.mapPut hk ru fd
  · exact q.app hk ru fd
/-! tuples as keys -/
theorem TK.of : ∀ {kvs : List (D × D)} {es : List DictEntry}, FzKV G H kvs es → (∀ p ∈ kvs, p.1.isTup = true) → ∃ ls, TK G H kvs ls ∧ es = ls.map (entryOfKey (nestedKind G.P G.w))
  | [], es, f, _ => by simp only [FzKV] at f; subst f; exact ⟨[], rfl, rfl⟩
  | (k, d) :: r, es, f, hl => by
    simp only [FzKV] at f
    obtain ⟨e, s, kv, vv, nk, rfl, h1, h2, h3, h4, h5, h6, h7, h8⟩ := f
    have hk := hl (k, d) (List.mem_cons_self ..)
    obtain ⟨ls, q1, q2⟩ := TK.of h8 fun p hp => hl p (List.mem_cons_of_mem _ hp)
    obtain ⟨a, rfl⟩ : ∃ a, kv = .ref a := by
      cases k <;> first | (simp [D.isTup] at hk; done) | (simp only [Fz] at h4; obtain ⟨a, _, e, _⟩ := h4; exact ⟨a, e⟩)
    obtain ⟨eh, ek, ev⟩ := e
    have h3' : ek = .ref a := h3
    have h5' : eh = nk.hash G.w := h5
    refine ⟨(nk, a, ev) :: ls, ⟨nk, a, ev, ls, vv, rfl, hk, h1, h2, h4, h6, h7, q1⟩, ?_⟩
    rw [List.map_cons, ← q2, h3', h5']
    rfl
theorem TK.back : ∀ {kvs : List (D × D)} {ls : List (NestedKey × Addr × Value)}, TK G H kvs ls → FzKV G H kvs (ls.map (entryOfKey (nestedKind G.P G.w)))
  | [], ls, q => by simp only [TK] at q; subst q; simp [FzKV]
  | (k, d) :: r, ls, q => by
    simp only [TK] at q
    obtain ⟨nk, a, u, t, v, rfl, h1, h2, h3, h4, h5, h6, q⟩ := q
    simp only [List.map_cons, FzKV]
    exact ⟨_, _, .ref a, v, nk, rfl, h2, h3, rfl, h4, rfl, h5, h6, TK.back q⟩
theorem TK.keys : ∀ {kvs : List (D × D)} {ls : List (NestedKey × Addr × Value)}, TK G H kvs ls → (ls.map fun x => some x.1) = kvs.map fun p => p.1.key
  | [], ls, q => by simp only [TK] at q; subst q; rfl
  | (k, d) :: r, ls, q => by
    simp only [TK] at q
    obtain ⟨nk, a, u, t, v, rfl, h1, h2, h3, h4, h5, h6, q⟩ := q
    simp only [List.map_cons, TK.keys q, h2]
theorem TK.nodup {kvs : List (D × D)} {ls : List (NestedKey × Addr × Value)} (q : TK G H kvs ls) : (ls.map (·.1)).Nodup ↔ (kvs.map fun p => p.1.key).Nodup := by
  rw [← q.keys]
  simp [List.Nodup, List.pairwise_map]
theorem TK.is {h : Heap} (ok : HOk G.P G.w H h) (kin : G.K.In h) : ∀ {kvs : List (D × D)} {ls : List (NestedKey × Addr × Value)}, TK G H kvs ls → ∀ x ∈ ls, (nestedKind G.P G.w).is h x.1 x.2.1
  | [], ls, q, x, hx => by simp only [TK] at q; subst q; cases hx
  | (k, d) :: r, ls, q, x, hx => by
    simp only [TK] at q
    obtain ⟨nk, a, u, t, v, rfl, h1, h2, h3, h4, h5, h6, q⟩ := q
    rcases List.mem_cons.mp hx with rfl | hx
    · exact ⟨Fz.nested ok kin k _ _ nk h2 h4 rfl, h3⟩
    · exact TK.is ok kin q x hx
theorem TK.length {kvs : List (D × D)} {ls : List (NestedKey × Addr × Value)} (q : TK G H kvs ls) : ls.length = kvs.length := by
  have := congrArg List.length q.keys
  simpa using this
theorem TK.look : ∀ {kvs : List (D × D)} {ls : List (NestedKey × Addr × Value)} {k : D} {nk : NestedKey}, TK G H kvs ls → k.key = some nk →
    (findK kvs k = none ∧ atKey ls nk = none) ∨ ∃ d a u v, findK kvs k = some d ∧ atKey ls nk = some (a, u) ∧ RelV v u ∧ Fz G H d v
  | [], ls, k, nk, q, _ => by simp only [TK] at q; subst q; exact .inl ⟨rfl, rfl⟩
  | (k', d) :: r, ls, k, nk, q, hk => by
    simp only [TK] at q
    obtain ⟨nk', a, u, t, v, rfl, h1, h2, h3, h4, h5, h6, q⟩ := q
    by_cases e : nk' = nk
    · subst e
      refine .inr ⟨d, a, u, v, ?_, ?_, h5, h6⟩
      · simp [findK, keyEq, h2, hk]
      · simp [atKey]
    · have ih := TK.look q hk
      have e1 : findK ((k', d) :: r) k = findK r k := by simp [findK, keyEq, h2, hk, e]
      have e2 : atKey ((nk', a, u) :: t) nk = atKey t nk := by simp [atKey, e]
      rw [e1, e2]
      exact ih
theorem TK.any : ∀ {kvs : List (D × D)} {ls : List (NestedKey × Addr × Value)} {k : D} {nk : NestedKey}, TK G H kvs ls → k.key = some nk → (atKey ls nk).isSome = kvs.any fun p => keyEq p.1 k
  | [], ls, k, nk, q, _ => by simp only [TK] at q; subst q; rfl
  | (k', d) :: r, ls, k, nk, q, hk => by
    simp only [TK] at q
    obtain ⟨nk', a, u, t, v, rfl, h1, h2, h3, h4, h5, h6, q⟩ := q
    have ih := TK.any q hk
    by_cases e : nk' = nk
    · subst e
      simp [atKey, keyEq, h2, hk]
    · have e2 : atKey ((nk', a, u) :: t) nk = atKey t nk := by simp [atKey, e]
      rw [e2, ih]
      simp [keyEq, h2, hk, e]
theorem TK.mapPut : ∀ {kvs : List (D × D)} {ls : List (NestedKey × Addr × Value)} {k d : D} {nk : NestedKey} {u : Value} {v : V}, TK G H kvs ls → k.key = some nk → RelV v u → Fz G H d v →
    TK G H (kvs.map (fun p => if keyEq p.1 k then (p.1, d) else p)) (ls.map (putAt nk u))
  | [], ls, k, d, nk, u, v, q, _, _, _ => by simp only [TK] at q; subst q; simp [TK]
  | (k', d') :: r, ls, k, d, nk, u, v, q, hk, ru, fd => by
    simp only [TK] at q
    obtain ⟨nk', a, u', t, v', rfl, h1, h2, h3, h4, h5, h6, q⟩ := q
    have ih := TK.mapPut (d := d) q hk ru fd
    simp only [List.map_cons]
    by_cases e : nk' = nk
    · subst e
      have e1 : keyEq k' k = true := by simp [keyEq, h2, hk]
      rw [if_pos e1]
      exact ⟨nk', a, u, _, v, by simp [putAt], h1, h2, h3, h4, ru, fd, ih⟩
    · have e1 : ¬ keyEq k' k = true := by simp [keyEq, h2, hk, e]
      rw [if_neg e1]
      exact ⟨nk', a, u', _, v', by simp [putAt, e], h1, h2, h3, h4, h5, h6, ih⟩
theorem TK.app : ∀ {kvs : List (D × D)} {ls : List (NestedKey × Addr × Value)} {k d : D} {nk : NestedKey} {a : Addr} {u : Value} {v : V}, TK G H kvs ls → k.isTup = true → k.key = some nk → nk.depth ≤ 8 → Fz G H k (.ref a) → RelV v u → Fz G H d v →
    TK G H (kvs ++ [(k, d)]) (ls ++ [(nk, a, u)])
  | [], ls, k, d, nk, a, u, v, q, h1, h2, h3, h4, ru, fd => by simp only [TK] at q; subst q; exact ⟨nk, a, u, [], v, rfl, h1, h2, h3, h4, ru, fd, rfl⟩
  | (k', d') :: r, ls, k, d, nk, a, u, v, q, h1, h2, h3, h4, ru, fd => by
    simp only [TK] at q
    obtain ⟨nk', a', u', t, v', rfl, g1, g2, g3, g4, g5, g6, q⟩ := q
    exact ⟨nk', a', u', _, v', rfl, g1, g2, g3, g4, g5, g6, TK.app q h1 h2 h3 h4 ru fd⟩
theorem TK.put {kvs : List (D × D)} {ls : List (NestedKey × Addr × Value)} {k d : D} {nk : NestedKey} {a : Addr} {u : Value} {v : V} (q : TK G H kvs ls) (h1 : k.isTup = true) (h2 : k.key = some nk) (h3 : nk.depth ≤ 8) (h4 : Fz G H k (.ref a)) (ru : RelV v u) (fd : Fz G H d v) :
    TK G H (putD kvs k d) (storedH ls nk a u) := by
  unfold putD storedH
  rw [q.any h2]
  split
  · exact q.mapPut h2 ru fd
  · exact q.app h1 h2 h3 h4 ru fd
end
end PM

namespace PM
open PySem PySem.Spec PyProof.Rows PySem.W

/-! ## sorting tuples that can be compared up to where they differ first -/
section
variable {prog : Program} {w : World} {A : Around} {s : Shared}
theorem upto_cons {x y : PyData} {xs ys : List PyData} (h : uptoAll (x :: xs) (y :: ys) = true) : alike x y = true ∧ (PyData.eqv x y = true → uptoAll xs ys = true) := by
  simp only [uptoAll, Bool.and_eq_true, Bool.or_eq_true, Bool.not_eq_true'] at h
  exact ⟨h.1, fun e => h.2.elim (fun z => by rw [e] at z; cases z) id⟩
theorem katLex_upto {b fin : Bool} {Q : Bool → Shared → Prop} : ∀ (xs ys : List PyData) (i : Nat) (vs ws : List Value) (as bs : List Addr), ReadsAll s.heap vs xs as → ReadsAll s.heap ws ys bs → uptoAll xs ys = true → A.units + min (PyData.depthAll xs) (PyData.depthAll ys) < cLine →
    (b = true → i = 0 → ∀ x r t, xs = x :: r → x ≠ .tuple t) → fin = decide (xs.length < ys.length) → Q (lexLt itemOrd (keyToksAll xs) (keyToksAll ys)) s → KatLex prog w A b fin Q (vs.zip ws) i s
  | [], ys, i, vs, ws, as, bs, ra, rb, _, hu, hb, hf, hq => katLex_alike [] ys i vs ws as bs ra rb (by simp only [alikeAll]) hu hb hf hq
  | x :: xs, [], i, vs, ws, as, bs, ra, rb, _, hu, hb, hf, hq => katLex_alike (x :: xs) [] i vs ws as bs ra rb (by simp only [alikeAll]) hu hb hf hq
  | x :: xs, y :: ys, i, _, _, _, _, .cons r1 r2, .cons q1 q2, h, hu, hb, hf, hq => by
    obtain ⟨h1, h2⟩ := upto_cons h
    have hu1 : A.units + min x.depth y.depth < cLine := by
      simp only [PyData.depthAll] at hu
      omega
    have hu2 : A.units + min (PyData.depthAll xs) (PyData.depthAll ys) < cLine := by
      simp only [PyData.depthAll] at hu
      omega
    rw [List.zip_cons_cons]
    refine kat_cons (eqAt_alike x y A s _ _ _ _ r1 q1 h1 hu1 prog w _ _ ?_)
    cases same : PyData.eqv x y with
    | true =>
      rw [dataLt_all_yes h1 same] at hq
      exact kat_yes (katLex_upto xs ys (i + 1) _ _ _ _ r2 q2 (h2 same) hu2 (fun _ z => by omega) (by rw [hf]; simp) hq)
    | false =>
      rw [dataLt_all_no h1 same] at hq
      refine kat_no (oneLt_alike (fun both t => ?_) r1 q1 h1 (ne_none_of h1 same) hu1 hq)
      simp only [Bool.and_eq_true, beq_iff_eq] at both
      exact hb both.1 both.2 x xs t rfl
/-- such data -/
structure Upto (ds : List PyData) : Prop where
  plain : ∀ d ∈ ds, d.plain = true
  tup : ∀ d ∈ ds, ∃ x r, d = .tuple (x :: r)
  two : ∀ d ∈ ds, ∀ d' ∈ ds, ∀ xs ys, d = .tuple xs → d' = .tuple ys → uptoAll xs ys = true
theorem Upto.key {ds : List PyData} (U : Upto ds) {h : Heap} {v : Value} {d : PyData} {as : List Addr} (hd : d ∈ ds) (r : Reads h v d as) : (dataKind h ds).keyOf v = some (keyToks d) := by
  cases e : (dataKind h ds).keyOf v with
  | some k =>
    obtain ⟨d', as', hd', r', rfl⟩ := dataKind_inv e
    have e2 := SeqAt.plain_unique d d' v as as' (U.plain d hd) r r'
    subst e2
    first | rfl | exact e
  | none =>
    exfalso
    have : (dataKind h ds).keyOf v = some (keyToks (show ∃ d, d ∈ ds ∧ ∃ as, Reads h v d as from ⟨d, hd, as, r⟩).choose) := dif_pos ⟨d, hd, as, r⟩
    rw [this] at e
    cases e
theorem Upto.sorts {vs : List Value} {ds : List PyData} (e : EachIs (fun v d => ∃ as, Reads s.heap v d as) vs ds) (U : Upto ds) (hu : ∀ d, d ∈ ds → A.units + d.depth < cLine) : SortsAt prog w A s (dataKind s.heap ds) vs := by
  refine ⟨fun v hv => ?_, ?_⟩
  · obtain ⟨d, hd, as, r⟩ := e.left v hv
    exact ⟨_, U.key hd r⟩
  cases ds with
  | nil =>
    cases e
    refine ⟨general', fun E x y a b Q ha _ _ => ?_, fun h2 => ?_⟩
    · obtain ⟨d, _, hd, _⟩ := dataKind_inv ha
      cases hd
    · simp at h2
  | cons d₀ rest =>
    have m0 : d₀ ∈ d₀ :: rest := List.mem_cons_self ..
    obtain ⟨x₀, r₀, e₀⟩ := U.tup d₀ m0
    have first : ∀ x r, PyData.tuple (x :: r) ∈ d₀ :: rest → alike x x₀ = true := fun x r hm => (upto_cons (U.two _ hm d₀ m0 _ _ rfl e₀)).1
    refine ⟨tuples' (dataType x₀ != Value.type "tuple"), fun E x y a b Q ha hb hq => ?_, fun h2 E Q hq => ?_⟩
    · obtain ⟨d, as, hd, ra, rfl⟩ := dataKind_inv ha
      obtain ⟨d', as', hd', rb, rfl⟩ := dataKind_inv hb
      obtain ⟨x1, r1, rfl⟩ := U.tup d hd
      obtain ⟨x2, r2, rfl⟩ := U.tup d' hd'
      have up := U.two _ hd _ hd' _ _ rfl rfl
      have room := hu _ hd
      have hq' : Q (dataLt (.tuple (x1 :: r1)) (.tuple (x2 :: r2))) s := hq
      rw [dataLt_tuple] at hq'
      obtain _ | _ | _ | _ | _ | ⟨h1, h2, h3, h4⟩ := ra
      obtain _ | _ | _ | _ | _ | ⟨k1, k2, k3, k4⟩ := rb
      have n1 := SeqAt.ReadsAll.length _ _ _ h4
      have n2 := SeqAt.ReadsAll.length _ _ _ k4
      rw [Array.length_toList] at n1 n2
      refine kat_lt h1 h3 k1 k3 (katLex_upto (x1 :: r1) (x2 :: r2) 0 _ _ _ _ h4 k4 up (by simp only [PyData.depth] at room; omega) (fun isb _ x r t ex => ?_) (by rw [n1, n2]) hq')
      obtain ⟨rfl, rfl⟩ := List.cons.inj ex
      rw [← dataType_alike (first _ _ hd)] at isb
      exact dataType_tuple isb t
    · obtain ⟨fs, t1, t2, t3⟩ := each_katTups e U.tup
      refine kat_kind (T := dataType x₀) t1 (by omega) (fun f hf => ?_) (beq_self_eq_true _) hq
      obtain ⟨x, r, as, m1, m2⟩ := t3 f hf
      rw [← dataType_alike (first x r m1)]
      exact looks_reads m2
/-- sorted(xs) of such -/
theorem sorted_upto {E : Value → Shared → Prop} {β : Type} {vs : List Value} {bs : List β} {enc : β → PyData} {R : Value → β → Prop} {l : Addr} {Q : Value → Shared → Prop} (hl : s.heap.IsList l vs.toArray) (e : EachIs R vs bs) (er : EachIs (fun v b => ∃ as, Reads s.heap v (enc b) as) vs bs) (U : Upto (bs.map enc)) (hL : bs.length ≤ sizeLine)
    (hu : ∀ b, b ∈ bs → A.units + 2 + (enc b).depth < cLine) (h : ∀ out, out.length = bs.length → EachIs R out (bs.mergeSort (dataLe false enc)) → Q (.ref (s.heap.objs.size + 1)) { s with heap := sortedAll s.heap vs (List.toArray out) }) :
    wpAny (model prog w) A (call (.builtin "sorted") [.ref l]) Q E s := by
  have there : EachIs (fun v b => ∃ as, Reads (sortingHeap (copyHeap s.heap vs) (s.heap.objs.size + 1) vs) v (enc b) as) vs bs := er.mono fun _ _ ⟨as, r⟩ => ⟨as, PyProof.Rows.Reads.keeps (fun _ _ => sorting_copy_old) r⟩
  have each := each_map (R := fun v d => ∃ as, Reads (sortingHeap (copyHeap s.heap vs) (s.heap.objs.size + 1) vs) v d as) enc there
  have keys : EachIs (fun v d => (dataKind (sortingHeap (copyHeap s.heap vs) (s.heap.objs.size + 1) vs) (bs.map enc)).keyOf v = some (keyToks d)) vs (bs.map enc) := (each_mem each).mono fun _ _ ⟨⟨_, r⟩, hd⟩ => U.key hd r
  refine sorted_vals hl (Upto.sorts (s := { s with heap := sortingHeap (copyHeap s.heap vs) (s.heap.objs.size + 1) vs }) each U (bound_map hu)) (by rw [e.length]; exact hL) (h _ (by rw [sortVals_length false rfl]; exact e.length) ?_)
  exact sortVals_each (κ := dataKind _ (bs.map enc)) (fun b => keyToks (enc b)) e (each_of_map enc keys)
end
end PM

namespace PM
open PySem PySem.Spec PyProof.Rows
open L2 hiding St
variable [TC]
open PySem.SeqAt (in_tuple_data notIn_tuple_data in_list_data notIn_list_data eq_plain ne_plain)

section
variable {X : Cx} {T : Tb} {pins : List (Addr × Obj)} {σ : L2.St} {H : Hp} {s : Shared}
/-- a dict as it stands -/
structure DicAt (G : GT) (H : Hp) (h : Heap) (a : Addr) (kvs : List (D × D)) : Prop where
  at_ : ∃ o es ep, h.get? a = some o ∧ o.ExactDict ∧ o.data = .dict es ep ∧ FzKV G H kvs es.toList
  sys : (a == sysModules) = false
  nd : (kvs.map (fun p => p.1.key)).Nodup
  hom : (∀ p ∈ kvs, p.1.isLeaf = true) ∨ (∀ p ∈ kvs, p.1.isTup = true)
  len : kvs.length ≤ sizeLine
theorem Opr.dic {h : Heap} {kvs : List (D × D)} {v : V} (f : Opr (Cxg X T) H (.dic kvs) v) (ok : HOk X.prog X.w H h) (kin : X.K.In h) : ∃ a, v = .ref a ∧ DicAt (Cxg X T) H h a kvs := by
  rcases f with f | ⟨ds, a, xs, e, _⟩ | ⟨kvs', a, o, es, ep, e, rfl, h1, h2, h3, h4, h5, h6, h7, h8⟩
  · simp only [Fz] at f
    obtain ⟨a, o, es, ep, rfl, h1, h2, h3, h4, h5, h6, h7, h8⟩ := f
    exact ⟨a, rfl, ⟨o, es, ep, h1.at ok kin, h3, h4, h5⟩, h2, h6, h7, h8⟩
  · cases e
  · cases e
    exact ⟨a, rfl, ⟨o, es, ep, raw_at ok h1, h3, h4, h5⟩, h2, h6, h7, h8⟩
theorem DicAt.leaf {G : GT} {h : Heap} {a : Addr} {kvs : List (D × D)} (d : DicAt G H h a kvs) (hl : ∀ p ∈ kvs, p.1.isLeaf = true) : ∃ ls, LK G H kvs ls ∧ h.DictOf (mixKind G.P G.w) a ls := by
  obtain ⟨o, es, ep, ho, hx, hd, f⟩ := d.at_
  obtain ⟨ls, q1, q2, q3⟩ := LK.of f hl
  exact ⟨ls, q1, o, es, ep, ho, hx, hd, fun e he => q3 e (Array.mem_toList_iff.mpr he), q2, q1.nodup.mpr d.nd⟩
theorem DicAt.tup {G : GT} {h : Heap} {a : Addr} {kvs : List (D × D)} (d : DicAt G H h a kvs) (ok : HOk G.P G.w H h) (kin : G.K.In h) (hl : ∀ p ∈ kvs, p.1.isTup = true) : ∃ ls, TK G H kvs ls ∧ h.DictOfH (nestedKind G.P G.w) a ls := by
  obtain ⟨o, es, ep, ho, hx, hd, f⟩ := d.at_
  obtain ⟨ls, q1, q2⟩ := TK.of f hl
  exact ⟨ls, q1, o, es, ep, ho, hx, hd, q2, q1.is ok kin, q1.nodup.mpr d.nd⟩
theorem askOk_cases {ks : List (D × D)} {k : D} (h : askOk (ks.map (·.1)) k = true) : ∃ nk, k.key = some nk ∧ nk.depth ≤ 8 ∧ ((k.isLeaf = true ∧ ∀ p ∈ ks, p.1.isLeaf = true) ∨ (k.isTup = true ∧ ∀ p ∈ ks, p.1.isTup = true)) := by
  unfold askOk at h
  split at h
  · cases h
  · rename_i nk e
    simp only [Bool.and_eq_true, Bool.or_eq_true, decide_eq_true_eq, List.all_eq_true, List.mem_map, forall_exists_index, and_imp, forall_apply_eq_imp_iff₂] at h
    exact ⟨nk, e, h.1, h.2⟩
theorem fz_tup_ref {G : GT} {k : D} {v : V} (h : k.isTup = true) (f : Fz G H k v) : ∃ a, v = .ref a := by
  cases k <;> first | (simp [D.isTup] at h; done) | (simp only [Fz] at f; obtain ⟨a, _, e, _⟩ := f; exact ⟨a, e⟩)
theorem Opr.keyFz {G : GT} {k : D} {v : V} (h : k.isLeaf = true ∨ k.isTup = true) (f : Opr G H k v) : Fz G H k v := by
  rcases f with f | ⟨ds, a, xs, rfl, _⟩ | ⟨kvs', a, o, es, ep, rfl, _⟩
  · exact f
  · simp [D.isLeaf, D.isTup] at h
  · simp [D.isLeaf, D.isTup] at h
theorem findK_any (kvs : List (D × D)) (k : D) : (findK kvs k).isSome = kvs.any fun p => keyEq p.1 k := by
  unfold findK
  rw [Option.isSome_map]
  induction kvs with
  | nil => rfl
  | cons p r ih =>
    rw [List.find?_cons, List.any_cons]
    cases keyEq p.1 k
    · simpa using ih
    · rfl
theorem in_dic (I : Inv X pins σ H s) (hu : X.A.units + 100 < cLine) {a : D} {kvs : List (D × D)} {v w : V} {u z : Value} (ha : Opr (Cxg X T) H a v) (hb : Opr (Cxg X T) H (.dic kvs) w) (ra : RelV v u) (rb : RelV w z) (e : askOk (kvs.map (·.1)) a = true) :
    wpAny (model X.prog X.w) X.A (compareOp .In u z) (EP X pins σ (NRq (Cxg X T) H (.frz (.bl (kvs.any fun p => keyEq p.1 a))))) X.xe s ∧
    wpAny (model X.prog X.w) X.A (compareOp .NotIn u z) (EP X pins σ (NRq (Cxg X T) H (.frz (.bl (!kvs.any fun p => keyEq p.1 a))))) X.xe s := by
  obtain ⟨nk, e1, e2, e3⟩ := askOk_cases e
  obtain ⟨p, rfl, d⟩ := hb.dic I.hok I.kIn
  cases rb
  rcases e3 with ⟨h1, h2⟩ | ⟨h1, h2⟩
  · have fk := ha.keyFz (.inl h1)
    obtain ⟨ls, q, dd⟩ := d.leaf h2
    have ev := keyS_V h1 fk
    subst ev
    have es : (valueAt ls (keyS a)).isSome = kvs.any fun p => keyEq p.1 a := by
      rw [← q.any h1]
      unfold valueAt
      rw [Option.isSome_map]
      simp [List.isSome_find?] <;> rfl
    exact ⟨wpAny_in_of (relV_kV ra) d.sys dd.mapOf (by rw [es]; exact ⟨.bl _, H, I.tok _, rfl, nq_bl⟩), wpAny_notIn_of (relV_kV ra) d.sys dd.mapOf (by rw [es]; exact ⟨.bl _, H, I.tok _, rfl, nq_bl⟩)⟩
  · have fk := ha.keyFz (.inr h1)
    obtain ⟨ls, q, dd⟩ := d.tup I.hok I.kIn h2
    obtain ⟨b, rfl⟩ := fz_tup_ref h1 fk
    cases ra
    have is1 : (nestedKind X.prog X.w).is s.heap nk b := ⟨Fz.nested (G := Cxg X T) I.hok I.kIn a _ _ nk e1 fk rfl, e2⟩
    have hr : (nestedKind X.prog X.w).room X.A.in1 := by show X.A.units + 1 + 8 < cLine; omega
    exact ⟨wpAny_in_heap hr is1 d.sys dd (by rw [q.any e1]; exact ⟨.bl _, H, I.tok _, rfl, nq_bl⟩), wpAny_notIn_heap hr is1 d.sys dd (by rw [q.any e1]; exact ⟨.bl _, H, I.tok _, rfl, nq_bl⟩)⟩
/-- d[k] -/
theorem get_dic (I : Inv X pins σ H s) (hu : X.A.units + 100 < cLine) {k d : D} {kvs : List (D × D)} {v w : V} {u z : Value} (ha : Opr (Cxg X T) H (.dic kvs) v) (hb : Opr (Cxg X T) H k w) (ra : RelV v u) (rb : RelV w z) (e : askOk (kvs.map (·.1)) k = true) (ef : findK kvs k = some d) :
    s.TypeIs u "dict" ∧ wpAny (model X.prog X.w) X.A (getItem u z) (EP X pins σ (NRq (Cxg X T) H (.frz d))) X.xe s := by
  obtain ⟨nk, e1, e2, e3⟩ := askOk_cases e
  obtain ⟨p, rfl, da⟩ := ha.dic I.hok I.kIn
  cases ra
  refine ⟨by obtain ⟨o, _, _, ho, hx, _⟩ := da.at_; exact ⟨o, ho, hx.1⟩, ?_⟩
  rcases e3 with ⟨h1, h2⟩ | ⟨h1, h2⟩
  · have fk := hb.keyFz (.inl h1)
    obtain ⟨ls, q, dd⟩ := da.leaf h2
    have ev := keyS_V h1 fk
    subst ev
    rcases q.look h1 with ⟨z1, _⟩ | ⟨d', u', v', z1, z2, rv, fv⟩
    · rw [ef] at z1; cases z1
    · rw [ef] at z1; cases z1
      exact wpAny_getItem_of (relV_kV rb) dd.mapOf z2 ⟨v', H, I.tok _, rv, nq_old fv⟩
  · have fk := hb.keyFz (.inr h1)
    obtain ⟨ls, q, dd⟩ := da.tup I.hok I.kIn h2
    obtain ⟨b, rfl⟩ := fz_tup_ref h1 fk
    cases rb
    have is1 : (nestedKind X.prog X.w).is s.heap nk b := ⟨Fz.nested (G := Cxg X T) I.hok I.kIn k _ _ nk e1 fk rfl, e2⟩
    have hr : (nestedKind X.prog X.w).room X.A.in1 := by show X.A.units + 1 + 8 < cLine; omega
    rcases q.look e1 with ⟨z1, _⟩ | ⟨d', a', u', v', z1, z2, rv, fv⟩
    · rw [ef] at z1; cases z1
    · rw [ef] at z1; cases z1
      exact wpAny_getItem_heap hr is1 dd z2 ⟨v', H, I.tok _, rv, nq_old fv⟩
theorem FzKV.length {G : GT} : ∀ {kvs : List (D × D)} {es : List DictEntry}, FzKV G H kvs es → es.length = kvs.length
  | [], es, f => by simp only [FzKV] at f; subst f; rfl
  | (k, d) :: r, es, f => by
    simp only [FzKV] at f
    obtain ⟨e, s, kv, vv, nk, rfl, h1, h2, h3, h4, h5, h6, h7, h8⟩ := f
    rw [List.length_cons, List.length_cons, FzKV.length h8]
/-- a == b, and the like -/
theorem cmp_ok (I : Inv X pins σ H s) (hu : X.A.units + 100 < cLine) {a b : D} {v w : V} {u z : Value} {op : COp} {r : Bool} (ha : Opr (Cxg X T) H a v) (hb : Opr (Cxg X T) H b w) (ra : RelV v u) (rb : RelV w z) (e : opCmp op a b = some r) :
    wpAny (model X.prog X.w) X.A (compareOp op.op u z) (EP X pins σ (NRq (Cxg X T) H (.frz (.bl r)))) X.xe s := by
  have eqs : eqOk a b = true → ∃ as bs, Reads s.heap u a.py as ∧ Reads s.heap z b.py bs ∧ a.py.plain = true ∧ b.py.plain = true ∧ X.A.units + min a.py.depth b.py.depth < cLine := fun h => by
    unfold eqOk at h
    simp only [Bool.and_eq_true, Bool.or_eq_true] at h
    obtain ⟨⟨h1, h2⟩, h3⟩ := h
    obtain ⟨as, q1⟩ := ha.reads I.hok I.kIn (D.isPy_of_plain _ h1) ra
    obtain ⟨bs, q2⟩ := hb.reads I.hok I.kIn (D.isPy_of_plain _ h2) rb
    refine ⟨as, bs, q1, q2, D.py_plain _ h1, D.py_plain _ h2, ?_⟩
    rcases h3 with h3 | h3
    · have := min_left (b := b.py.depth) (shal_depth h3); omega
    · have := min_right (a := a.py.depth) (shal_depth h3); omega
  unfold opCmp at e
  split at e
  · obtain ⟨hc, rfl⟩ := gd_some.mp e
    obtain ⟨as, bs, q1, q2, p1, p2, hz⟩ := eqs hc
    exact eq_plain q1 q2 p1 p2 hz (ep_bool I)
  · obtain ⟨hc, rfl⟩ := gd_some.mp e
    obtain ⟨as, bs, q1, q2, p1, p2, hz⟩ := eqs hc
    exact ne_plain q1 q2 p1 p2 hz (ep_bool I)
  · unfold opLt at e
    split at e
    · cases e
      rw [ha.int] at ra; rw [hb.int] at rb
      exact op_lt pins s σ H _ _ u z _ I ra rb ⟨_, _, rfl, rfl, nq_bl⟩
    · cases e
      rw [ha.str] at ra; rw [hb.str] at rb
      exact op_lt_str pins s σ H _ _ u z _ I ra rb ⟨_, _, rfl, rfl, nq_bl⟩
    · obtain ⟨hc, rfl⟩ := gd_some.mp e
      simp only [Bool.and_eq_true] at hc
      obtain ⟨⟨⟨⟨h1, h2⟩, h3⟩, h4⟩, h5⟩ := hc
      obtain ⟨as, q1⟩ := ha.reads I.hok I.kIn (D.isPy_of_plain _ h1) ra
      obtain ⟨bs, q2⟩ := hb.reads I.hok I.kIn (D.isPy_of_plain _ h2) rb
      exact PySem.W.rcLt_alike _ _ X.A s _ _ _ _ q1 q2 h5 (by simp [D.py]) (Nat.lt_of_le_of_lt (Nat.add_le_add_left (min_left (shal_depth h3)) _) (by omega)) _ _ _ _ (ep_bool I)
    · cases e
  · cases e
    rw [ha.int] at ra; rw [hb.int] at rb
    exact op_gt pins s σ H _ _ u z _ I ra rb ⟨_, _, rfl, rfl, nq_bl⟩
  · cases e
    rw [ha.int] at ra; rw [hb.int] at rb
    exact op_le pins s σ H _ _ u z _ I ra rb ⟨_, _, rfl, rfl, nq_bl⟩
  · cases e
    rw [ha.int] at ra; rw [hb.int] at rb
    exact op_ge pins s σ H _ _ u z _ I ra rb ⟨_, _, rfl, rfl, nq_bl⟩
  · exact (opIs_is I ha hb ra rb e).1
  · obtain ⟨r', e', rfl⟩ := Option.map_eq_some_iff.mp e
    exact (opIs_is I ha hb ra rb e').2
  · obtain ⟨hc, rfl⟩ := gd_some.mp e
    exact (in_dic I hu ha hb ra rb hc).1
  · obtain ⟨hc, rfl⟩ := gd_some.mp e
    exact (in_dic I hu ha hb ra rb hc).2
  · exact (opIn_in I hu ha hb ra rb e).1
  · obtain ⟨r', e', rfl⟩ := Option.map_eq_some_iff.mp e
    exact (opIn_in I hu ha hb ra rb e').2
  · cases e
theorem FzL.atI {G : GT} {ds : List D} {xs : List V} {i : Int} {d : D} (f : FzL G H ds xs) (e : L2.atI ds i = some d) : ∃ x, L2.atI xs i = some x ∧ Fz G H d x := by
  unfold L2.atI at e ⊢
  rw [f.length]
  cases h : ixN ds.length i with
  | none => rw [h] at e; cases e
  | some j =>
    rw [h] at e
    obtain ⟨x, q1, q2⟩ := f.get (d := d) e
    exact ⟨x, q1, q2⟩
/-- x[i] -/
theorem at_ok (I : Inv X pins σ H s) (hu : X.A.units + 100 < cLine) {a i d : D} {v w : V} {u z : Value} (value slice : Expr) (ha : Opr (Cxg X T) H a v) (hb : Opr (Cxg X T) H i w) (ra : RelV v u) (rb : RelV w z)
    (hs : subscripted slice false u z = operate [u, z] (getItem u z)) (e : D.at a i = some d) :
    wpAny (model X.prog X.w) X.A (subscriptTail value slice u z) (EP X pins σ (NRq (Cxg X T) H (.frz d))) X.xe s := by
  unfold D.at at e
  split at e
  · obtain ⟨p, xs, rfl, h1, f⟩ := ha.tup
    rw [hb.int] at rb
    obtain ⟨x, q1, q2⟩ := f.atI e
    exact ix_tup value slice pins s σ H _ _ u z _ I ra rb ⟨p, xs, _, x, rfl, rfl, h1, q1, nq_old q2⟩ hs
  · obtain ⟨p, xs, rfl, h1, f⟩ := ha.lst
    rw [hb.int] at rb
    obtain ⟨x, q1, q2⟩ := f.atI e
    exact ix_list value slice pins s σ H _ _ u z _ I ra rb ⟨p, xs, _, x, rfl, rfl, .inl h1, q1, nq_old q2⟩ hs
  · obtain ⟨_, h, e⟩ := Option.bind_eq_some_iff.mp e
    obtain ⟨hc, _⟩ := gd_some.mp h
    obtain ⟨c, e1, rfl⟩ := Option.map_eq_some_iff.mp e
    rw [ha.str] at ra; rw [hb.int] at rb
    exact ix_str value slice pins s σ H _ _ u z _ I ra rb ⟨_, _, c, rfl, rfl, hc, e1, nq_str⟩ hs
  · obtain ⟨_, h, e⟩ := Option.bind_eq_some_iff.mp e
    obtain ⟨hc, _⟩ := gd_some.mp h
    obtain ⟨ht, hg⟩ := get_dic I hu ha hb ra rb hc e
    exact tail_any ht F.slot_dict_getitem.lookup hg hs
  · cases e
theorem FzL.cut {G : GT} {ds : List D} {xs : List V} {lo hi : Option Int} (f : FzL G H ds xs) : FzL G H (cutL ds lo hi) (cutV xs lo hi) := by
  unfold cutL cutV
  rw [f.length]
  exact (f.drop _).take _
/-- x[lo:hi] -/
theorem slc_ok (I : Inv X pins σ H s) {a lo hi : D} {l h : Option Int} {r : OV} {v : V} {u vl vu : Value} {sl : Addr} (ha : Opr (Cxg X T) H a v) (ra : RelV v u) (hs : s.heap.IsSliceOf sl vl vu .none) (pl : IsPart vl l) (pu : IsPart vu h)
    (el : lo.bnd = some l) (eh : hi.bnd = some h) (e : D.slc a lo hi = some r) :
    ∃ T' id, typeLookup (.type T') "__getitem__" = pure (some (.builtin id)) ∧ s.TypeIs u T' ∧ wpAny (model X.prog X.w) X.A (getItem u (.ref sl)) (EP X pins σ (NRq (Cxg X T) H r)) X.xe s := by
  unfold D.slc at e
  rw [el, eh] at e
  simp only at e
  split at e
  · cases e
    obtain ⟨p, xs, rfl, h1, f⟩ := ha.tup
    refine sl_tupA pins s σ H _ u vl vu l h sl _ I ra hs pl pu ⟨p, xs, rfl, h1, fun hw => nq_old ?_, fun _ q nq => nq_tup nq f.cut⟩
    have e2 : ∀ ds : List D, ds.length = xs.length → cutL ds l h = ds := fun ds hl => by
      unfold cutL
      rw [hl, hw.1, hw.2, List.drop_zero, Nat.sub_zero, ← hl, List.take_length]
    rw [e2 _ f.length.symm]
    simp only [Fz]
    exact ⟨p, xs, rfl, h1, f⟩
  · cases e
    obtain ⟨p, xs, rfl, h1, f⟩ := ha.lst
    exact sl_list pins s σ H _ u vl vu l h sl _ I ra hs pl pu ⟨p, xs, rfl, .inl h1, fun q nq => nq_lst nq f.cut⟩
  · obtain ⟨hc, rfl⟩ := gd_some.mp e
    rw [ha.str] at ra
    exact sl_str pins s σ H _ u vl vu l h sl _ I ra hs pl pu ⟨_, rfl, hc, nq_str⟩
  · cases e
theorem fzL_bls {G : GT} : ∀ {ds : List D} {xs : List V} {bs : List Bool}, FzL G H ds xs → D.bls ds = some bs → xs = bs.map V.bl
  | [], xs, bs, f, e => by simp only [FzL] at f; simp only [D.bls, Option.some.injEq] at e; subst f e; rfl
  | .bl b :: ds, xs, bs, f, e => by
    simp only [FzL] at f
    obtain ⟨x, r, rfl, h1, h2⟩ := f
    simp only [D.bls, Option.map_eq_some_iff] at e
    obtain ⟨t, e1, rfl⟩ := e
    simp only [Fz] at h1
    rw [h1, fzL_bls h2 e1]; rfl
  | .non :: _, _, _, _, e => by simp [D.bls] at e
  | .int _ :: _, _, _, _, e => by simp [D.bls] at e
  | .str _ :: _, _, _, _, e => by simp [D.bls] at e
  | .tup _ :: _, _, _, _, e => by simp [D.bls] at e
  | .lst _ :: _, _, _, _, e => by simp [D.bls] at e
  | .dic _ :: _, _, _, _, e => by simp [D.bls] at e
  | .fn _ :: _, _, _, _, e => by simp [D.bls] at e
  | .cls _ :: _, _, _, _, e => by simp [D.bls] at e
  | .ty _ :: _, _, _, _, e => by simp [D.bls] at e
theorem fzL_ints {G : GT} : ∀ {ds : List D} {xs : List V} {bs : List Int}, FzL G H ds xs → D.ints ds = some bs → xs = bs.map V.int
  | [], xs, bs, f, e => by simp only [FzL] at f; simp only [D.ints, Option.some.injEq] at e; subst f e; rfl
  | .int b :: ds, xs, bs, f, e => by
    simp only [FzL] at f
    obtain ⟨x, r, rfl, h1, h2⟩ := f
    simp only [D.ints, Option.map_eq_some_iff] at e
    obtain ⟨t, e1, rfl⟩ := e
    simp only [Fz] at h1
    rw [h1, fzL_ints h2 e1]; rfl
  | .non :: _, _, _, _, e => by simp [D.ints] at e
  | .bl _ :: _, _, _, _, e => by simp [D.ints] at e
  | .str _ :: _, _, _, _, e => by simp [D.ints] at e
  | .tup _ :: _, _, _, _, e => by simp [D.ints] at e
  | .lst _ :: _, _, _, _, e => by simp [D.ints] at e
  | .dic _ :: _, _, _, _, e => by simp [D.ints] at e
  | .fn _ :: _, _, _, _, e => by simp [D.ints] at e
  | .cls _ :: _, _, _, _, e => by simp [D.ints] at e
  | .ty _ :: _, _, _, _, e => by simp [D.ints] at e
theorem fzL_strs {G : GT} : ∀ {ds : List D} {xs : List V} {bs : List Str}, FzL G H ds xs → D.strs ds = some bs → xs = bs.map V.str
  | [], xs, bs, f, e => by simp only [FzL] at f; simp only [D.strs, Option.some.injEq] at e; subst f e; rfl
  | .str b :: ds, xs, bs, f, e => by
    simp only [FzL] at f
    obtain ⟨x, r, rfl, h1, h2⟩ := f
    simp only [D.strs, Option.map_eq_some_iff] at e
    obtain ⟨t, e1, rfl⟩ := e
    simp only [Fz] at h1
    rw [h1, fzL_strs h2 e1]; rfl
  | .non :: _, _, _, _, e => by simp [D.strs] at e
  | .bl _ :: _, _, _, _, e => by simp [D.strs] at e
  | .int _ :: _, _, _, _, e => by simp [D.strs] at e
  | .tup _ :: _, _, _, _, e => by simp [D.strs] at e
  | .lst _ :: _, _, _, _, e => by simp [D.strs] at e
  | .dic _ :: _, _, _, _, e => by simp [D.strs] at e
  | .fn _ :: _, _, _, _, e => by simp [D.strs] at e
  | .cls _ :: _, _, _, _, e => by simp [D.strs] at e
  | .ty _ :: _, _, _, _, e => by simp [D.strs] at e
theorem fzL_of_strs {G : GT} : ∀ ys : List Str, FzL G H (ys.map D.str) (ys.map V.str)
  | [] => by simp [FzL]
  | y :: ys => by
    simp only [List.map_cons, FzL]
    exact ⟨_, _, rfl, by simp [Fz], fzL_of_strs ys⟩
def Bif.val : Bif → Value
  | .len => .builtin "len" | .all => .builtin "all" | .any => .builtin "any" | .sorted => .builtin "sorted" | .tuple => .type "tuple" | .list => .type "list"
  | .abs => .builtin "abs" | .int => .type "int" | .str => .type "str" | .repr => .builtin "repr" | .sum => .builtin "sum"
theorem D.pys_length (ds : List D) : (D.pys ds).length = ds.length := by rw [D.pys_map, List.length_map]
/-- len(d), d a dict -/
theorem len_dic {H : Hp} (I : Inv X pins σ H s) {kvs : List (D × D)} {v : V} {u : Value} (ha : Opr (Cxg X T) H (.dic kvs) v) (ra : RelV v u) :
    wpAny (model X.prog X.w) X.A (call (.builtin "len") [u]) (EP X pins σ (NRq (Cxg X T) H (.frz (.int kvs.length)))) X.xe s := by
  obtain ⟨p, rfl, da⟩ := ha.dic I.hok I.kIn
  cases ra
  obtain ⟨o, es, ep, ho, hx, hd, f⟩ := da.at_
  have hl : es.size = kvs.length := by rw [← f.length, Array.length_toList]
  have hz := da.len
  refine call_len_slot (n := (kvs.length : Int)) (T := "dict") ⟨o, ho, hx.1⟩ F.slot_dict_len (fun Q' hq => call_len_raw da.sys ⟨o, ho, hx, hd⟩ (by rw [hl]; exact hq)) (by omega) (by rw [sizeLine_eq] at hz; omega) ?_
  exact ⟨.int _, H, I.tok _, ⟨_, rfl⟩, nq_int⟩
theorem plains_all (ds : List D) : D.plains ds = ds.all D.plain := by
  induction ds with
  | nil => rfl
  | cons d ds ih => rw [D.plains, ih]; rfl
theorem each_of {h : Heap} (ok : HOk X.prog X.w H h) (kin : X.K.In h) : ∀ {ds : List D} {xs : List V} {us : List Value}, D.plains ds = true → FzL (Cxg X T) H ds xs → Vals xs us →
    PySem.W.EachIs (fun u d => ∃ x, RelV x u ∧ Fz (Cxg X T) H d x) us ds ∧ PySem.W.EachIs (fun u d => ∃ as, Reads h u d.py as) us ds
  | [], xs, us, _, f, r => by simp only [FzL] at f; subst f; cases r; exact ⟨.nil, .nil⟩
  | d :: ds, xs, us, p, f, r => by
    simp only [FzL] at f
    obtain ⟨x, t, rfl, h1, h2⟩ := f
    simp only [D.plains, Bool.and_eq_true] at p
    cases r with
    | cons r1 r2 =>
      obtain ⟨q1, q2⟩ := each_of ok kin p.2 h2 r2
      exact ⟨.cons ⟨x, r1, h1⟩ q1, .cons (Fz.reads (G := Cxg X T) ok kin d x _ (D.isPy_of_plain _ p.1) h1 r1) q2⟩
theorem of_each : ∀ {ds : List D} {us : List Value}, PySem.W.EachIs (fun u d => ∃ x, RelV x u ∧ Fz (Cxg X T) H d x) us ds → ∃ xs, Vals xs us ∧ FzL (Cxg X T) H ds xs
  | _, _, .nil => ⟨[], .nil, by simp [FzL]⟩
  | _, _, .cons ⟨x, r, f⟩ t => by
    obtain ⟨xs, q1, q2⟩ := of_each t
    exact ⟨x :: xs, .cons r q1, FzL.cons f q2⟩
/-- sorted(xs) -/
theorem sorted_ok (I : Inv X pins σ H s) (hu : X.A.units + 100 < cLine) {ds : List D} {v : V} {u : Value} (ha : Opr (Cxg X T) H (.lst ds) v) (ra : RelV v u) (hc : sortOk ds = true) (hl : ds.length ≤ sizeLine) :
    wpAny (model X.prog X.w) X.A (call (.builtin "sorted") [u]) (EP X pins σ (NRq (Cxg X T) H (.lst ((D.sort ds).map .frz)))) X.xe s := by
  obtain ⟨a, its, n, xs, rfl, rfl, rv, ho, f, hz, _⟩ := Inv.listD I ha ra
  unfold sortOk at hc
  simp only [Bool.and_eq_true] at hc
  obtain ⟨⟨⟨h1, h2⟩, h3⟩, h4⟩ := hc
  obtain ⟨e1, e2⟩ := each_of (T := T) I.hok I.kIn h1 f rv
  refine PySem.W.sorted_data (vs := its) (bs := ds) (enc := D.py) (R := fun u d => ∃ x, RelV x u ∧ Fz (Cxg X T) H d x) ⟨_, ho, rfl, n, rfl⟩ e1 e2 ?_ ?_ hl (fun d hd => ?_) fun out lo eo => ?_
  · intro d hd d' hd'
    obtain ⟨b, hb, rfl⟩ := List.mem_map.mp hd
    obtain ⟨b', hb', rfl⟩ := List.mem_map.mp hd'
    exact List.all_eq_true.mp (List.all_eq_true.mp h3 b hb) b' hb'
  · rcases Bool.or_eq_true_iff.mp h4 with h4 | h4
    · refine .inl fun d hd => ?_
      obtain ⟨b, hb, rfl⟩ := List.mem_map.mp hd
      have q := List.all_eq_true.mp h4 b hb
      cases b with
      | tup ds =>
        cases ds with
        | nil => simp at q
        | cons x r => exact ⟨x.py, D.pys r, by simp only [D.py, D.pys]⟩
      | _ => simp at q
    · refine .inr fun d hd => ?_
      obtain ⟨b, hb, rfl⟩ := List.mem_map.mp hd
      have q := List.all_eq_true.mp h4 b hb
      have p := List.all_eq_true.mp (plains_all ds ▸ h1) b hb
      cases b <;> first | (simp at q; done) | (simp [D.plain] at p; done) | exact ⟨by simp [D.py], fun xs => by simp [D.py]⟩
  · have := shal_depth (List.all_eq_true.mp h2 d hd)
    omega
  · have ec : ds.mergeSort (PySem.W.dataLe false D.py) = D.sort ds := rfl
    rw [ec] at eo
    obtain ⟨ys, r2, f2⟩ := of_each eo
    obtain ⟨c, hc⟩ := PyProof.Rows.sortedAll_at s.heap its out.toArray
    have hl2 : ys.length ≤ sizeLine := by rw [r2.length, lo]; exact hl
    have np : H (s.heap.objs.size + 1) = none := I.hok.fresh (Nat.le_succ _)
    exact ⟨.ref _, _, I.laid (t' := s.toks) (o := .lst ys) (fun b ob q => PyProof.Rows.sortedAll_old q) (Nat.le_succ _) ⟨hl2, out, c, r2, hc⟩, rfl, nq_lst np f2⟩
/-- sorted(xs), the items alike only as far as they are looked at -/
theorem sorted_ok2 (I : Inv X pins σ H s) (hu : X.A.units + 100 < cLine) {ds : List D} {v : V} {u : Value} (ha : Opr (Cxg X T) H (.lst ds) v) (ra : RelV v u) (hc : sortOk2 ds = true) (hl : ds.length ≤ sizeLine) :
    wpAny (model X.prog X.w) X.A (call (.builtin "sorted") [u]) (EP X pins σ (NRq (Cxg X T) H (.lst ((D.sort ds).map .frz)))) X.xe s := by
  obtain ⟨a, its, n, xs, rfl, rfl, rv, ho, f, hz, _⟩ := Inv.listD I ha ra
  unfold sortOk2 at hc
  simp only [Bool.and_eq_true] at hc
  obtain ⟨⟨⟨h1, h2⟩, h3⟩, h4⟩ := hc
  obtain ⟨e1, e2⟩ := each_of (T := T) I.hok I.kIn h1 f rv
  refine PM.sorted_upto (vs := its) (bs := ds) (enc := D.py) (R := fun u d => ∃ x, RelV x u ∧ Fz (Cxg X T) H d x) ⟨_, ho, rfl, n, rfl⟩ e1 e2 ⟨?_, ?_, ?_⟩ hl (fun d hd => ?_) fun out lo eo => ?_
  · intro d hd
    obtain ⟨b, hb, rfl⟩ := List.mem_map.mp hd
    exact D.py_plain b (List.all_eq_true.mp (plains_all ds ▸ h1) b hb)
  · intro d hd
    obtain ⟨b, hb, rfl⟩ := List.mem_map.mp hd
    have q := List.all_eq_true.mp h4 b hb
    cases b with
    | tup ds =>
      cases ds with
      | nil => simp at q
      | cons x r => exact ⟨x.py, D.pys r, by simp only [D.py, D.pys]⟩
    | _ => simp at q
  · intro d hd d' hd' xs ys e3 e4
    obtain ⟨b, hb, rfl⟩ := List.mem_map.mp hd
    obtain ⟨b', hb', rfl⟩ := List.mem_map.mp hd'
    have q := List.all_eq_true.mp (List.all_eq_true.mp h3 b hb) b' hb'
    have q1 := List.all_eq_true.mp h4 b hb
    have q2 := List.all_eq_true.mp h4 b' hb'
    cases b with
    | tup ds1 =>
      cases b' with
      | tup ds2 =>
        simp only [D.py, PyData.tuple.injEq] at e3 e4
        rw [← e3, ← e4]
        exact q
      | _ => simp at q2
    | _ => simp at q1
  · have := shal_depth (List.all_eq_true.mp h2 d hd)
    omega
  · have ec : ds.mergeSort (PySem.W.dataLe false D.py) = D.sort ds := rfl
    rw [ec] at eo
    obtain ⟨ys, r2, f2⟩ := of_each eo
    obtain ⟨c, hc⟩ := PyProof.Rows.sortedAll_at s.heap its out.toArray
    have hl2 : ys.length ≤ sizeLine := by rw [r2.length, lo]; exact hl
    have np : H (s.heap.objs.size + 1) = none := I.hok.fresh (Nat.le_succ _)
    exact ⟨.ref _, _, I.laid (t' := s.toks) (o := .lst ys) (fun b ob q => PyProof.Rows.sortedAll_old q) (Nat.le_succ _) ⟨hl2, out, c, r2, hc⟩, rfl, nq_lst np f2⟩
mutual
theorem D.noDict : ∀ d : D, d.plain = true → PyData.hasDict d.py = false
  | .non, _ => by simp [D.py, PyData.hasDict]
  | .bl _, _ => by simp [D.py, PyData.hasDict]
  | .int _, _ => by simp [D.py, PyData.hasDict]
  | .str _, _ => by simp [D.py, PyData.hasDict]
  | .tup ds, h => by simp only [D.py, PyData.hasDict]; exact D.noDicts ds (by simpa only [D.plain] using h)
  | .lst ds, h => by simp only [D.py, PyData.hasDict]; exact D.noDicts ds (by simpa only [D.plain] using h)
  | .dic _, h => by simp [D.plain] at h
  | .fn _, h => by simp [D.plain] at h
  | .cls _, h => by simp [D.plain] at h
  | .ty _, h => by simp [D.plain] at h
theorem D.noDicts : ∀ ds : List D, D.plains ds = true → PyData.hasDictAll (D.pys ds) = false
  | [], _ => by simp [D.pys, PyData.hasDictAll]
  | d :: ds, h => by
    simp only [D.plains, Bool.and_eq_true] at h
    simp only [D.pys, PyData.hasDictAll, D.noDict d h.1, D.noDicts ds h.2, Bool.or_self]
end
theorem repr_ok (I : Inv X pins σ H s) (hu : X.A.units + 100 < cLine) (hg : X.A.guards = some []) {d : D} {v : V} {u : Value} (ha : Opr (Cxg X T) H d v) (ra : RelV v u) (h1 : d.plain = true) (h2 : d.py.showable = true) (h3 : d.py.shown.length + 40 ≤ sizeLine) (h4 : d.shal = true) :
    wpAny (model X.prog X.w) X.A (call (.builtin "repr") [u]) (EP X pins σ (NRq (Cxg X T) H (.frz (.str d.py.shown)))) X.xe s := by
  have fin : ∀ (h' : Heap) (tk : Tok) (t' : Nat), (∀ b o, s.heap.get? b = some o → h'.get? b = some o) → EP X pins σ (NRq (Cxg X T) H (.frz (.str d.py.shown))) (.str d.py.shown tk) { s with heap := h', toks := t' } := fun h' tk t' k =>
    ⟨.str _, H, I.kept k, ⟨tk, rfl⟩, nq_str⟩
  have hd := shal_depth h4
  cases d with
  | non =>
    rw [ha.non] at ra; cases ra
    exact P.repr_of_none (fin _ _ _ fun _ _ e => e)
  | bl b =>
    rw [ha.bl] at ra; cases ra
    exact P.repr_of_bool (fin _ _ _ fun _ _ e => e)
  | int i =>
    rw [ha.int] at ra; obtain ⟨t, rfl⟩ := ra
    exact P.repr_of_int (by simpa [D.py, PyData.showable] using h2) (fin _ _ _ fun _ _ e => e)
  | str x =>
    rw [ha.str] at ra; obtain ⟨t, rfl⟩ := ra
    exact P.repr_of_str (fin _ _ _ fun _ _ e => e) (by have : (reprText x).length + 40 ≤ sizeLine := h3; omega)
  | tup ds =>
    obtain ⟨as, q⟩ := ha.reads I.hok I.kIn (D.isPy_of_plain _ h1) ra
    obtain ⟨a, xs, rfl, _⟩ := ha.tup
    cases ra
    exact repr_of_reads' q h2 (PyData.noDict_hsm (D.noDict _ h1)) hg (by omega) (fun _ _ e => e) (fun h' u tk k => fin h' u tk k) (by omega)
  | lst ds =>
    obtain ⟨as, q⟩ := ha.reads I.hok I.kIn (D.isPy_of_plain _ h1) ra
    obtain ⟨a, xs, rfl, _⟩ := ha.lst
    cases ra
    exact repr_of_reads' q h2 (PyData.noDict_hsm (D.noDict _ h1)) hg (by omega) (fun _ _ e => e) (fun h' u tk k => fin h' u tk k) (by omega)
  | dic _ => simp [D.plain] at h1
  | fn _ => simp [D.plain] at h1
  | cls _ => simp [D.plain] at h1
  | ty _ => simp [D.plain] at h1
/-- a built-in function of one argument -/
theorem bif_ok (I : Inv X pins σ H s) (hcalm : X.calm = true) (hu : X.A.units + 100 < cLine) (hg : X.A.guards = some []) {b : Bif} {d : D} {r : OV} {v : V} {u : Value} (ha : Opr (Cxg X T) H d v) (ra : RelV v u) (e : opBif b d = some r) :
    wpAny (model X.prog X.w) X.A (call b.val [u]) (EP X pins σ (NRq (Cxg X T) H r)) X.xe s := by
  have r1 : Vals [v] [u] := .cons ra .nil
  unfold opBif at e
  split at e
  · obtain ⟨n, e1, rfl⟩ := Option.map_eq_some_iff.mp e
    unfold D.len at e1
    split at e1
    · cases e1
      obtain ⟨p, xs, rfl, h1, f⟩ := ha.tup
      exact call_len_seq pins s σ H _ _ _ I r1 ⟨p, xs, rfl, .inr h1, by rw [f.length]; exact nq_int⟩
    · cases e1
      obtain ⟨p, xs, rfl, h1, f⟩ := ha.lst
      exact call_len_seq pins s σ H _ _ _ I r1 ⟨p, xs, rfl, .inl (.inl h1), by rw [f.length]; exact nq_int⟩
    · obtain ⟨hc, rfl⟩ := gd_some.mp e1
      have := ha.str
      subst this
      exact call_len_str pins s σ H _ _ _ I r1 ⟨_, rfl, hc, nq_int⟩
    · cases e1
      exact len_dic I ha ra
    · cases e1
  · obtain ⟨n, e1, rfl⟩ := Option.map_eq_some_iff.mp e
    obtain ⟨p, xs, rfl, h1, f⟩ := ha.lst
    exact cr_all hcalm pins s σ H _ _ _ I r1 ⟨p, n, rfl, by rw [← fzL_bls f e1]; exact .inl h1, nq_bl⟩
  · obtain ⟨n, e1, rfl⟩ := Option.map_eq_some_iff.mp e
    obtain ⟨p, xs, rfl, h1, f⟩ := ha.lst
    exact cr_any hcalm pins s σ H _ _ _ I r1 ⟨p, n, rfl, by rw [← fzL_bls f e1]; exact .inl h1, nq_bl⟩
  · obtain ⟨n, e1, rfl⟩ := Option.map_eq_some_iff.mp e
    obtain ⟨p, xs, rfl, h1, f⟩ := ha.lst
    exact cr_sum hcalm pins s σ H _ _ _ I r1 ⟨p, n, rfl, by rw [← fzL_ints f e1]; exact .inl h1, nq_int⟩
  · obtain ⟨hc, rfl⟩ := gd_some.mp e
    simp only [Bool.and_eq_true, decide_eq_true_eq] at hc
    rcases Bool.or_eq_true_iff.mp hc.1 with hc1 | hc1
    · exact sorted_ok I hu ha ra hc1 hc.2
    · exact sorted_ok2 I hu ha ra hc1 hc.2
  · cases e
    obtain ⟨p, xs, rfl, h1, f⟩ := ha.lst
    exact call_tuple_of pins s σ H _ _ _ I r1 ⟨p, xs, rfl, .inl ⟨.inl h1, fun l nl => nq_tup nl f⟩⟩
  · cases e
    obtain ⟨p, xs, rfl, h1, f⟩ := ha.tup
    exact call_tuple_of pins s σ H _ _ _ I r1 ⟨p, xs, rfl, .inr ⟨h1, nq_old (by simp only [Fz]; exact ⟨p, xs, rfl, h1, f⟩)⟩⟩
  · cases e
    obtain ⟨p, xs, rfl, h1, f⟩ := ha.lst
    exact call_list_of pins s σ H _ _ _ I r1 ⟨p, xs, rfl, .inl (.inl h1), fun l nl => nq_lst nl f⟩
  · cases e
    obtain ⟨p, xs, rfl, h1, f⟩ := ha.tup
    exact call_list_of pins s σ H _ _ _ I r1 ⟨p, xs, rfl, .inr h1, fun l nl => nq_lst nl f⟩
  · cases e
    have := ha.int
    subst this
    exact call_abs pins s σ H _ _ _ I r1 ⟨_, rfl, nq_int⟩
  · cases e
    have := ha.int
    subst this
    exact call_int1 pins s σ H _ _ _ I r1 (.inl ⟨_, rfl, nq_int⟩)
  · cases e
    have := ha.bl
    subst this
    exact call_int1 pins s σ H _ _ _ I r1 (.inr ⟨_, rfl, nq_int⟩)
  · obtain ⟨_, h, e⟩ := Option.bind_eq_some_iff.mp e
    obtain ⟨hc, _⟩ := gd_some.mp h
    obtain ⟨n, e1, rfl⟩ := Option.map_eq_some_iff.mp e
    have := ha.str
    subst this
    exact call_int_str pins s σ H _ _ _ I r1 ⟨_, n, rfl, e1, hc, nq_int⟩
  · obtain ⟨hc, rfl⟩ := gd_some.mp e
    have := ha.int
    subst this
    exact call_str_int pins s σ H _ _ _ I r1 ⟨_, rfl, hc, nq_str⟩
  · cases e
    have := ha.str
    subst this
    obtain ⟨t, rfl⟩ := ra
    exact P.str_of_str ⟨.str _, H, I, ⟨t, rfl⟩, nq_str⟩
  · obtain ⟨hc, rfl⟩ := gd_some.mp e
    simp only [Bool.and_eq_true, decide_eq_true_eq] at hc
    exact repr_ok I hu hg ha ra hc.1.1.1 hc.1.1.2 hc.1.2 hc.2
  · cases e
end
end PM

namespace PM
open PySem PySem.Spec PyProof.Rows
open L2 hiding St
variable [TC]

/-- from O, H to O1, H1: all but what is owned is kept -/
structure Step (O : List Addr) (H : Hp) (O1 : List Addr) (H1 : Hp) : Prop where
  keep : Keep O H H1
  dom : Dom H H1
  sub : ∀ b ∈ O1, b ∈ O ∨ H b = none
theorem Step.refl {O : List Addr} {H : Hp} : Step O H O H := ⟨.refl, .refl H, fun _ h => .inl h⟩
theorem Step.trans {O O1 O2 : List Addr} {H H1 H2 : Hp} (a : Step O H O1 H1) (b : Step O1 H1 O2 H2) : Step O H O2 H2 :=
  ⟨a.keep.trans b.keep a.sub, a.dom.trans b.dom, fun c hc => (b.sub c hc).elim (a.sub c) fun z => .inr (a.dom c z)⟩
theorem Step.less {O O1 O2 : List Addr} {H H1 : Hp} (a : Step O H O1 H1) (s : ∀ b ∈ O2, b ∈ O1) : Step O H O2 H1 := ⟨a.keep, a.dom, fun c hc => a.sub c (s c hc)⟩
theorem Step.right {O O1 O2 : List Addr} {H H1 : Hp} (a : Step O H (O1 ++ O2) H1) : Step O H O2 H1 := a.less fun _ h => List.mem_append_right _ h
/-- more may change -/
theorem Step.more {O O0 O1 : List Addr} {H H1 : Hp} (a : Step O H O1 H1) : Step (O0 ++ O) H (O0 ++ O1) H1 :=
  ⟨a.keep.mono fun _ h => List.mem_append_right _ h, a.dom, fun b hb => (List.mem_append.mp hb).elim (fun q => .inl (List.mem_append_left _ q)) fun q => (a.sub b q).imp (List.mem_append_right _) id⟩
/-- what comes later stands apart from what is there -/
theorem Step.apart {O O1 as : List Addr} {H H1 : Hp} (st : Step O H O1 H1) (m : MutO H as) (n : ∀ b ∈ as, b ∉ O) : ∀ b ∈ as, b ∉ O1 := fun b hb z => by
  rcases st.sub b z with q | q
  · exact n b hb q
  · obtain ⟨o, e, _⟩ := m b hb
    rw [q] at e; cases e

def Endz {α : Type} (out : Out α) (k : α → En → Prop) (x : Nat → D → En → Prop) : Prop :=
  match out with
  | .ok a en => k a en
  | .exc c p en => x c p en
  | .bad => False
theorem endz_bnd {α β : Type} {out : Out α} {f : α → En → Out β} {k : β → En → Prop} {x : Nat → D → En → Prop} : Endz (out.bnd f) k x ↔ Endz out (fun a en => Endz (f a en) k x) x := by
  cases out <;> rfl
theorem endz_of {α : Type} {en : En} {o : Option α} {k : α → En → Prop} {x : Nat → D → En → Prop} : Endz (Out.of en o) k x ↔ ∃ a, o = some a ∧ k a en := by
  cases o with
  | none => exact ⟨fun h => h.elim, fun ⟨a, e, _⟩ => by cases e⟩
  | some a => exact ⟨fun h => ⟨a, rfl, h⟩, fun ⟨b, e, h⟩ => by cases e; exact h⟩
theorem Endz.imp {α : Type} {out : Out α} {k k' : α → En → Prop} {x x' : Nat → D → En → Prop} (h : Endz out k x) (hk : ∀ a en, k a en → k' a en) (hx : ∀ c p en, x c p en → x' c p en) : Endz out k' x' := by
  cases out with
  | ok a en => exact hk _ _ h
  | exc c p en => exact hx _ _ _ h
  | bad => exact h

/-- what was lent to this def stays where it was -/
def LentIs (LV : Nat → Option V) (en : En) (σ : L2.St) : Prop := ∀ i o, en[i]? = some (.lent o) → ∃ v, LV i = some v ∧ σ[i]? = some (some v)
theorem LentIs.set {LV : Nat → Option V} {en : En} {σ : L2.St} {i : Nat} {o : OV} {v : Option V} (h : LentIs LV en σ) (n : ∀ o', en[i]? ≠ some (.lent o')) : LentIs LV (en.set i (.ov o)) (σ.set i v) := fun j o' e => by
  by_cases hj : i = j
  · subst hj
    rw [List.getElem?_set] at e
    simp only [if_true] at e
    split at e <;> cases e
  · rw [List.getElem?_set_ne hj] at e
    obtain ⟨v, h1, h2⟩ := h j o' e
    exact ⟨v, h1, by rw [List.getElem?_set_ne hj]; exact h2⟩
theorem LentIs.setE {LV : Nat → Option V} {en : En} {σ : L2.St} {i : Nat} {o : OV} (h : LentIs LV en σ) (n : ∀ o', en[i]? ≠ some (.lent o')) : LentIs LV (en.set i (.ov o)) σ := fun j o' e => by
  by_cases hj : i = j
  · subst hj
    rw [List.getElem?_set] at e
    simp only [if_true] at e
    split at e <;> cases e
  · rw [List.getElem?_set_ne hj] at e
    exact h j o' e
theorem LentIs.setL {LV : Nat → Option V} {en : En} {σ : L2.St} {i : Nat} {o o0 : OV} (h : LentIs LV en σ) (n : en[i]? = some (.lent o0)) : LentIs LV (en.set i (.lent o)) σ := fun j o' e => by
  by_cases hj : i = j
  · subst hj
    exact h i o0 n
  · rw [List.getElem?_set_ne hj] at e
    exact h j o' e
structure EO (G : GT) (LV : Nat → Option V) (H : Hp) (en : En) (σ : L2.St) (O : List Addr) : Prop where
  env : EnvIs G H en σ O
  nd : O.Nodup
  lent : LentIs LV en σ
  tb : LamX.Tabs TC.ts H
theorem EO.keep {G : GT} {LV : Nat → Option V} {H H' : Hp} {en : En} {σ : L2.St} {O O0 : List Addr} (h : EO G LV H en σ O) (k : Keep O0 H H') (m : MutO H O0) (n : ∀ b ∈ O, b ∉ O0) (d : Dom H H') : EO G LV H' en σ O := ⟨h.env.keep k m n, h.nd, h.lent, fun p hp => d.tab p hp (h.tb p hp)⟩

/-- the wishes' ground -/
structure Jx where
  G : GT
  fld : Nat → Str
  LV : Nat → Option V
  W : WX
section
variable (J : Jx) (X : Cx) (pins : List (Addr × Obj)) (σ : L2.St) (O : List Addr) (H : Hp)
/-- an error leaves -/
def ExW (c : Nat) (p : D) (en' : En) (cls : Value) (d : Option Addr) (H' : Hp) : Prop :=
  ∃ C dd v O', J.G.clsA c = some C ∧ cls = .ref C ∧ d = some dd ∧ H' dd = some (.xd [(J.fld c, v)]) ∧ Fz J.G H' p v ∧ Step O H O' H' ∧ EO J.G J.LV H' en' σ O'
/-- all errors are what is wanted -/
abbrev XW : Nat → D → En → Prop := fun c p en' => ∀ cls d H', ExW J σ O H c p en' cls d H' → J.W cls d σ H'
/-- a value has come -/
structure VD (o : OV) (en' : En) (v : V) (H' : Hp) (O' as : List Addr) : Prop where
  st : Step O H (as ++ O') H'
  eo : EO J.G J.LV H' en' σ O'
  ov : Ov J.G H' o v as
  nd : (as ++ O').Nodup
/-- an operand stands -/
def Hold (opd : Opd) (v : V) (as : List Addr) : Prop :=
  match opd with
  | .val o => Ov J.G H o v as
  | .slot i => as = [] ∧ σ[i]? = some (some v)
structure OD (opd : Opd) (en' : En) (v : V) (H' : Hp) (O' as : List Addr) : Prop where
  st : Step O H (as ++ O') H'
  eo : EO J.G J.LV H' en' σ O'
  ov : Hold J σ H' opd v as
  nd : (as ++ O').Nodup
end
section
variable (J : Jx)
def tE (F : En → Out OV) : TE := fun σ H Q => ∃ en O, EO J.G J.LV H en σ O ∧ Endz (F en) (fun o en' => ∀ v H' O' as, VD J σ O H o en' v H' O' as → Q v H') (XW J σ O H)
def tO (F : En → Out Opd) : TE := fun σ H Q => ∃ en O, EO J.G J.LV H en σ O ∧ Endz (F en) (fun o en' => ∀ v H' O' as, OD J σ O H o en' v H' O' as → Q v H') (XW J σ O H)
def tT (F : En → Out Bool) : TT := fun σ H Q => ∃ en O, EO J.G J.LV H en σ O ∧ Endz (F en) (fun b en' => ∀ H' O', Step O H O' H' → EO J.G J.LV H' en' σ O' → Q b H') (XW J σ O H)
end
section
variable {J : Jx} {X : Cx} {pins : List (Addr × Obj)} {s : Shared} {σ : L2.St} {H : Hp} {en : En} {O : List Addr} {e : Expr}
/-- a value, and all that is known -/
theorem runE {F : En → Out OV} (h : PE X e (tE J F)) (I : Inv X pins σ H s) (E : EO J.G J.LV H en σ O) {Q : Value → Shared → Prop} {k : OV → En → Prop} (ez : Endz (F en) k (XW J σ O H))
    (hq : ∀ o en' u s' v H' O' as, k o en' → Inv X pins σ H' s' → RelV v u → VD J σ O H o en' v H' O' as → Q u s') : wpAny (model X.prog X.w) X.A (eval e X.env) Q X.xe s :=
  thn (h.run pins s σ H (fun v H' => ∃ o en' O' as, k o en' ∧ VD J σ O H o en' v H' O' as) I ⟨en, O, E, ez.imp (fun o en' hk v H' O' as d => ⟨o, en', O', as, hk, d⟩) fun _ _ _ x => x⟩) fun u s' ⟨v, H', I', r, o, en', O', as, hk, d⟩ => hq o en' u s' v H' O' as hk I' r d
theorem runO {F : En → Out Opd} (h : PE X e (tO J F)) (I : Inv X pins σ H s) (E : EO J.G J.LV H en σ O) {Q : Value → Shared → Prop} {k : Opd → En → Prop} (ez : Endz (F en) k (XW J σ O H))
    (hq : ∀ o en' u s' v H' O' as, k o en' → Inv X pins σ H' s' → RelV v u → OD J σ O H o en' v H' O' as → Q u s') : wpAny (model X.prog X.w) X.A (eval e X.env) Q X.xe s :=
  thn (h.run pins s σ H (fun v H' => ∃ o en' O' as, k o en' ∧ OD J σ O H o en' v H' O' as) I ⟨en, O, E, ez.imp (fun o en' hk v H' O' as d => ⟨o, en', O', as, hk, d⟩) fun _ _ _ x => x⟩) fun u s' ⟨v, H', I', r, o, en', O', as, hk, d⟩ => hq o en' u s' v H' O' as hk I' r d
theorem ExW.trans {O1 : List Addr} {H1 : Hp} {c : Nat} {p : D} {en' : En} {cls : Value} {d : Option Addr} {H' : Hp} (st : Step O H O1 H1) (x : ExW J σ O1 H1 c p en' cls d H') : ExW J σ O H c p en' cls d H' := by
  obtain ⟨C, dd, v, O', h1, h2, h3, h4, h5, h6, h7⟩ := x
  exact ⟨C, dd, v, O', h1, h2, h3, h4, h5, st.trans h6, h7⟩
theorem XW.trans {O1 : List Addr} {H1 : Hp} {c : Nat} {p : D} {en' : En} (st : Step O H O1 H1) (x : XW J σ O H c p en') : XW J σ O1 H1 c p en' := fun cls d H' h => x cls d H' (h.trans st)
theorem VD.trans {O1 : List Addr} {H1 : Hp} {o : OV} {en' : En} {v : V} {H' : Hp} {O' as : List Addr} (st : Step O H O1 H1) (x : VD J σ O1 H1 o en' v H' O' as) : VD J σ O H o en' v H' O' as := ⟨st.trans x.st, x.eo, x.ov, x.nd⟩
theorem OD.trans {O1 : List Addr} {H1 : Hp} {o : Opd} {en' : En} {v : V} {H' : Hp} {O' as : List Addr} (st : Step O H O1 H1) (x : OD J σ O1 H1 o en' v H' O' as) : OD J σ O H o en' v H' O' as := ⟨st.trans x.st, x.eo, x.ov, x.nd⟩
theorem Hold.mut {opd : Opd} {v : V} {as : List Addr} (h : Hold J σ H opd v as) : MutO H as := by
  cases opd with
  | val o => exact Ov.mut _ _ _ h
  | slot i => rw [h.1]; exact mutO_nil
/-- an operand stays -/
theorem Hold.step {H1 : Hp} {O1 : List Addr} {opd : Opd} {v : V} {as : List Addr} (st : Step O H O1 H1) (m : MutO H O) (h : Hold J σ H opd v as) (n : ∀ b ∈ as, b ∉ O) : Hold J σ H1 opd v as := by
  cases opd with
  | val o => exact Ov.keep st.keep m _ _ _ h n
  | slot i => exact h
theorem Hold.opr {opd : Opd} {v : V} {as : List Addr} {d : D} (h : Hold J σ H opd v as) (E : EnvIs J.G H en σ O) (e : opd.rd en = some d) : Opr J.G H d v := by
  cases opd with
  | val o => exact Ov.opr h e
  | slot i =>
    obtain ⟨_, hv⟩ := h
    unfold Opd.rd at e
    simp only at e
    split at e
    · rename_i o eo
      obtain ⟨O1, a, O2, sv, rfl, e2, ⟨v', rfl, h3⟩, _⟩ := E.split eo
      rw [hv] at e2
      cases e2
      exact h3.opr e
    · rename_i o eo
      obtain ⟨O1, a, O2, sv, rfl, e2, ⟨v', rfl, h3⟩, _⟩ := E.split eo
      rw [hv] at e2
      cases e2
      exact h3.opr e
    · cases e
/-- an operation's value -/
theorem VD.of_nr {O1 : List Addr} {H1 H' : Hp} {en1 : En} {v : V} {o : OV} (E : EO J.G J.LV H1 en1 σ O1) (st : Step O H O1 H1) (x : NRq J.G H1 o v H') : ∃ as, VD J σ O H o en1 v H' O1 as := by
  obtain ⟨k, dm, as, h1, h2, h3⟩ := x
  have m1 := E.env.mut
  have ap : ∀ b ∈ as, b ∉ O1 := fun b hb z => by
    obtain ⟨o, e, _⟩ := m1 b z
    rw [h3 b hb] at e; cases e
  refine ⟨as, ⟨st.keep.trans k (fun c hc => by cases hc), st.dom.trans dm, fun b hb => ?_⟩, E.keep k mutO_nil (fun b _ z => by cases z) dm, h1, nd_mk h2 E.nd ap⟩
  rcases List.mem_append.mp hb with hb | hb
  · exact .inr (st.dom b (h3 b hb))
  · exact st.sub b hb
end

/-! ## names, constants, operands -/
section
variable {J : Jx} {X : Cx} {e : Expr}
/-- a value that stays for ever -/
theorem se_const {d : D} {v : V} (h : PE X e (tC v)) (f : ∀ H, Fz J.G H d v) : PE X e (tE J fun en => .ok (.frz d) en) := ⟨fun pins s σ H Q I ⟨en, O, E, k⟩ =>
  h.run pins s σ H Q I (k v H O [] ⟨Step.refl, E, by simp only [Ov]; exact ⟨f H, trivial⟩, E.nd⟩)⟩
/-- a name read for good -/
theorem se_var {i : Nat} {x : Str} {pos : Pos} (hN : X.N[i]? = some x) (hv : Vis X.env.scope x) (hd : (x == ("__debug__" : Str)) = false) (hcd : (x == ("__classdict__" : Str)) = false) : PE X (.Name x pos) (tE J (rdVar i)) := by
  refine ⟨fun pins s σ H Q I ⟨en, O, E, k⟩ => ?_⟩
  unfold rdVar at k
  split at k
  · rename_i d e
    obtain ⟨v, as, e1, h1, _⟩ := E.env.at e
    simp only [Ov] at h1
    refine (pe_var (pos := pos) hN hv hd hcd).run pins s σ H Q I ⟨v, e1, k v H O [] ⟨Step.refl, E, by simp only [Ov]; exact ⟨h1.1, trivial⟩, E.nd⟩⟩
  · rename_i o hne e
    split at k
    · rename_i hc
      obtain ⟨O1, a, O2, sv, rfl, e2, ⟨v, rfl, h3⟩, back⟩ := E.env.split e
      obtain ⟨n1, n2, n3⟩ := nd_app E.nd
      obtain ⟨n4, n5, n6⟩ := nd_app n2
      refine thn ((pe_var (pos := pos) hN hv hd hcd).run pins s σ H (fun v' H' => v' = v ∧ H' = H) I ⟨v, e2, rfl, rfl⟩) fun u s' ⟨v', H', I', r, q1, q2⟩ => ?_
      subst q1 q2
      obtain ⟨H2, I2, k2, s2, dm, f2⟩ := Ov.freeze o _ a _ hc I' h3 n4
      have m2 := Ov.mut _ _ _ h3
      have E2 := back H2 (.ov (.frz o.d)) (some v') [] (fun {t tv as} ht hs => ht.keep k2 m2 fun b hb z => by
        rcases List.mem_append.mp (hs b hb) with q | q
        · exact n3 b q (List.mem_append_left _ z)
        · exact n6 b z q) ⟨v', rfl, by simp only [Ov]; exact ⟨f2, trivial⟩⟩
      rw [set_self e2] at E2
      have ndO : (O1 ++ ([] ++ O2)).Nodup := by
        simp only [List.nil_append]
        exact nd_mk n1 n5 fun b hb z => n3 b hb (List.mem_append_right _ z)
      refine ⟨v', H2, I2, r, k v' H2 (O1 ++ ([] ++ O2)) [] ⟨⟨k2.mono fun b hb => by simp [hb], dm, fun b hb => ?_⟩, ⟨E2, ndO, ?_, fun p hp => dm.tab p hp (E.tb p hp)⟩, by simp only [Ov]; exact ⟨f2, trivial⟩, ndO⟩⟩
      · simp only [List.nil_append, List.mem_append] at hb ⊢
        rcases hb with q | q
        · exact .inl (.inl q)
        · exact .inl (.inr (.inr q))
      · exact E.lent.setE fun o' z => by rw [e] at z; cases z
    · exact k.elim
  · exact k.elim
/-- an operand, any -/
theorem so_val {F : En → Out OV} (h : PE X e (tE J F)) : PE X e (tO J fun en => (F en).bnd fun o en => .ok (.val o) en) := ⟨fun pins s σ H Q I ⟨en, O, E, k⟩ => by
  refine h.run pins s σ H Q I ⟨en, O, E, ?_⟩
  rw [endz_bnd] at k
  exact k.imp (fun o en' hk v H' O' as d => hk v H' O' as ⟨d.st, d.eo, d.ov, d.nd⟩) fun _ _ _ x => x⟩
/-- a name as an operand -/
def oVar (i : Nat) (en : En) : Out Opd := match en[i]? with
    | some (.ov (.frz d)) => .ok (.val (.frz d)) en
    | some (.ov _) => .ok (.slot i) en
    | some (.lent _) => .ok (.slot i) en
    | _ => .bad
theorem so_var {i : Nat} {x : Str} {pos : Pos} (hN : X.N[i]? = some x) (hv : Vis X.env.scope x) (hd : (x == ("__debug__" : Str)) = false) (hcd : (x == ("__classdict__" : Str)) = false) : PE X (.Name x pos) (tO J (oVar i)) := by
  refine ⟨fun pins s σ H Q I ⟨en, O, E, k⟩ => ?_⟩
  unfold oVar at k
  split at k
  · rename_i d e
    obtain ⟨v, as, e1, h1, _⟩ := E.env.at e
    simp only [Ov] at h1
    exact (pe_var (pos := pos) hN hv hd hcd).run pins s σ H Q I ⟨v, e1, k v H O [] ⟨Step.refl, E, by simp only [Hold, Ov]; exact ⟨h1.1, trivial⟩, E.nd⟩⟩
  · rename_i o hne e
    obtain ⟨v, as, e1, h1, _⟩ := E.env.at e
    exact (pe_var (pos := pos) hN hv hd hcd).run pins s σ H Q I ⟨v, e1, k v H O [] ⟨Step.refl, E, ⟨rfl, e1⟩, E.nd⟩⟩
  · rename_i o e
    obtain ⟨v, _, e1⟩ := E.lent i o e
    exact (pe_var (pos := pos) hN hv hd hcd).run pins s σ H Q I ⟨v, e1, k v H O [] ⟨Step.refl, E, ⟨rfl, e1⟩, E.nd⟩⟩
  · exact k.elim
theorem mkO_var {i : Nat} {r : En → Out OV} : (fun en => mkO (.var i) r en) = oVar i := by
  funext en
  unfold mkO oVar
  rfl
theorem mkO_val {e : E} {r : En → Out OV} (h : ∀ i, e ≠ .var i) : (fun en => mkO e r en) = fun en => (r en).bnd fun o en => .ok (.val o) en := by
  funext en
  cases e <;> first | rfl | exact absurd rfl (h _)
/-- two operands, an operation -/
theorem two_ok {a b : Expr} {Fa Fb : En → Out Opd} {f : Value → Value → Sem Value} {Q : Value → Shared → Prop} (ha : PE X a (tO J Fa)) (hb : PE X b (tO J Fb)) {pins : List (Addr × Obj)} {s : Shared} {σ : L2.St} {H : Hp} {en : En} {O : List Addr}
    (I : Inv X pins σ H s) (E : EO J.G J.LV H en σ O) {k : Opd → Opd → En → Prop} (ez : Endz (Fa en) (fun x en1 => Endz (Fb en1) (fun y en2 => k x y en2) (XW J σ O H)) (XW J σ O H))
    (hf : ∀ x y en2 u z v w s2 H2 O2, k x y en2 → Inv X pins σ H2 s2 → RelV v u → RelV w z → (∀ d, x.rd en2 = some d → Opr J.G H2 d v) → (∀ d, y.rd en2 = some d → Opr J.G H2 d w) → EO J.G J.LV H2 en2 σ O2 → Step O H O2 H2 → wpAny (model X.prog X.w) X.A (f u z) Q X.xe s2) :
    wpAny (model X.prog X.w) X.A (eval a X.env) (fun u s₁ => wpAny (model X.prog X.w) X.A (eval b X.env) (fun z s₂ => wpAny (model X.prog X.w) X.A (f u z) Q X.xe s₂) X.xe s₁) X.xe s := by
  refine runO ha I E ez fun x en1 u s1 v H1 O1 as1 kz I1 r1 d1 => ?_
  have st1 : Step O H O1 H1 := d1.st.right
  obtain ⟨n1, n2, n3⟩ := nd_app d1.nd
  refine runO hb I1 d1.eo (kz.imp (fun _ _ h => h) fun _ _ _ h => XW.trans st1 h) fun y en2 z s2 w H2 O2 as2 kk I2 r2 d2 => ?_
  have st2 : Step O1 H1 O2 H2 := d2.st.right
  have hx := d1.ov.step d2.st d1.eo.env.mut n3
  exact hf x y en2 u z v w s2 H2 O2 kk I2 r1 r2 (fun d hd => hx.opr d2.eo.env hd) (fun d hd => d2.ov.opr d2.eo.env hd) d2.eo (st1.trans st2)
end
end PM

namespace PM
open PySem PySem.Spec PyProof.Rows
open L2 hiding St
variable [TC]

section
variable {J : Jx} {X : Cx} {T : Tb} {orc : Orc}
abbrev pO (X : Cx) (J : Jx) (orc : Orc) (e : Expr) (A : E) : Prop := PE X e (tO J fun en => mkO A (evE orc A) en)
abbrev pE (X : Cx) (J : Jx) (orc : Orc) (e : Expr) (A : E) : Prop := PE X e (tE J (evE orc A))
abbrev pT (X : Cx) (J : Jx) (orc : Orc) (e : Expr) (A : PM.T) : Prop := PT X e (tT J (evT orc A))

theorem end_two {α : Type} {x y : Opd} {en : En} {op : D → D → Out α} {K : α → En → Prop} {XX : Nat → D → En → Prop} (k : Endz (match x.rd en, y.rd en with
    | some x, some y => op x y
    | _, _ => .bad) K XX) : ∃ a b, x.rd en = some a ∧ y.rd en = some b ∧ Endz (op a b) K XX := by
  split at k
  · rename_i a b e1 e2
    exact ⟨a, b, e1, e2, k⟩
  · exact k.elim
theorem po_var {i : Nat} {x : Str} {pos : Pos} (hN : X.N[i]? = some x) (hv : Vis X.env.scope x) (hd : (x == ("__debug__" : Str)) = false) (hcd : (x == ("__classdict__" : Str)) = false) : pO X J orc (.Name x pos) (.var i) := by
  unfold pO; rw [mkO_var]; exact so_var hN hv hd hcd
theorem po_val {e : Expr} {A : E} (h : pE X J orc e A) (n : ∀ i, A ≠ .var i) : pO X J orc e A := by
  unfold pO; rw [mkO_val n]; exact so_val h
theorem pe_nm {i : Nat} {x : Str} {pos : Pos} (hN : X.N[i]? = some x) (hv : Vis X.env.scope x) (hd : (x == ("__debug__" : Str)) = false) (hcd : (x == ("__classdict__" : Str)) = false) : pE X J orc (.Name x pos) (.var i) := by
  unfold pE
  rw [show evE orc (.var i) = rdVar i from by funext en; rw [evE]]
  exact se_var hN hv hd hcd
theorem pe_lit {e : Expr} {d : D} {v : V} (h : PE X e (tC v)) (f : ∀ H, Fz J.G H d v) : pE X J orc e (.lit d) := by
  unfold pE
  rw [show evE orc (.lit d) = (fun en => .ok (.frz d) en) from by funext en; rw [evE]]
  exact se_const h f
theorem pe_lint {i j pos} : pE X J orc (.Constant (.int i) j pos) (.lit (.int i)) := pe_lit L2.pe_int fun H => by simp [Fz]
theorem pe_lstr {i j pos} : pE X J orc (.Constant (.str i) j pos) (.lit (.str i)) := pe_lit L2.pe_str fun H => by simp [Fz]
theorem pe_lbl {i j pos} : pE X J orc (.Constant (.bool i) j pos) (.lit (.bl i)) := pe_lit L2.pe_bl fun H => by simp [Fz]
theorem pe_lnon {j pos} : pE X J orc (.Constant .none j pos) (.lit .non) := pe_lit L2.pe_non fun H => by simp [Fz]

/-- behind an operation -/
theorem done2 {s2 : Shared} {σ : L2.St} {H H2 : Hp} {O O2 : List Addr} {pins : List (Addr × Obj)} {Q : VK} {en2 : En} {r : OV} {t : Sem Value} (hG : J.G = Cxg X T) (E2 : EO J.G J.LV H2 en2 σ O2) (st : Step O H O2 H2)
    (hq : ∀ v H' O' as, VD J σ O H r en2 v H' O' as → Q v H') (h : wpAny (model X.prog X.w) X.A t (EP X pins σ (NRq (Cxg X T) H2 r)) X.xe s2) : wpAny (model X.prog X.w) X.A t (EP X pins σ Q) X.xe s2 :=
  thn h fun u s3 ⟨v, H', I', r', q⟩ => by
    rw [← hG] at q
    obtain ⟨as, d⟩ := VD.of_nr E2 st q
    exact ⟨v, H', I', r', hq _ _ _ _ d⟩
theorem pe_bin {a b : Expr} {A B : E} {o : BOp} {pos : Pos} (hG : J.G = Cxg X T) (ha : pO X J orc a A) (hb : pO X J orc b B) : pE X J orc (.BinOp a o.op b pos) (.bin o A B) := by
  refine ⟨fun pins s σ H Q I ⟨en, O, E, k⟩ => ?_⟩
  simp only [evE, endz_bnd] at k
  refine wpAny_BinOp (two_ok ha hb I E k fun x y en2 u z v w s2 H2 O2 kk I2 r1 r2 hx hy E2 st => ?_)
  obtain ⟨a, b, e1, e2, kk⟩ := end_two kk
  rw [endz_of] at kk
  obtain ⟨r, e, kk⟩ := kk
  have hx := hx a e1; have hy := hy b e2
  rw [hG] at hx hy
  exact done2 hG E2 st kk (bin_ok I2 hx hy r1 r2 e)
theorem pe_cmp {a b : Expr} {A B : E} {o : COp} {pos : Pos} (hG : J.G = Cxg X T) (hu : X.A.units + 100 < cLine) (ha : pO X J orc a A) (hb : pO X J orc b B) (hm : behindInMarks o.op b = false) : pE X J orc (.Compare a [o.op] [b] pos) (.cmp o A B) := by
  refine ⟨fun pins s σ H Q I ⟨en, O, E, k⟩ => ?_⟩
  simp only [evE, endz_bnd] at k
  refine wpAny_Compare1 (two_ok ha hb I E k fun x y en2 u z v w s2 H2 O2 kk I2 r1 r2 hx hy E2 st => ?_) hm
  obtain ⟨a, b, e1, e2, kk⟩ := end_two kk
  rw [endz_of] at kk
  obtain ⟨r, e, kk⟩ := kk
  obtain ⟨c, e', rfl⟩ := Option.map_eq_some_iff.mp e
  have hx := hx a e1; have hy := hy b e2
  rw [hG] at hx hy
  exact done2 hG E2 st kk (cmp_ok I2 hu hx hy r1 r2 e')
theorem pe_sub {a b : Expr} {A B : E} {pos : Pos} (hG : J.G = Cxg X T) (hu : X.A.units + 100 < cLine) (ha : pO X J orc a A) (hb : pO X J orc b B) (hs : PlainIx b) : pE X J orc (.Subscript a b pos) (.sub A B) := by
  refine ⟨fun pins s σ H Q I ⟨en, O, E, k⟩ => ?_⟩
  simp only [evE, endz_bnd] at k
  refine Subscript_ (two_ok ha hb I E k fun x y en2 u z v w s2 H2 O2 kk I2 r1 r2 hx hy E2 st => ?_)
  obtain ⟨a', b', e1, e2, kk⟩ := end_two kk
  rw [endz_of] at kk
  obtain ⟨r, e, kk⟩ := kk
  obtain ⟨c, e', rfl⟩ := Option.map_eq_some_iff.mp e
  have hx := hx a' e1; have hy := hy b' e2
  rw [hG] at hx hy
  exact done2 hG E2 st kk (at_ok I2 hu a b hx hy r1 r2 (hs _ _) e')
/-- one operand -/
theorem one_ok {a : Expr} {Fa : En → Out Opd} {Q : Value → Shared → Prop} (ha : PE X a (tO J Fa)) {pins : List (Addr × Obj)} {s : Shared} {σ : L2.St} {H : Hp} {en : En} {O : List Addr}
    (I : Inv X pins σ H s) (E : EO J.G J.LV H en σ O) {k : Opd → En → Prop} (ez : Endz (Fa en) k (XW J σ O H))
    (hf : ∀ x en2 u v s2 H2 O2, k x en2 → Inv X pins σ H2 s2 → RelV v u → (∀ d, x.rd en2 = some d → Opr J.G H2 d v) → EO J.G J.LV H2 en2 σ O2 → Step O H O2 H2 → Q u s2) :
    wpAny (model X.prog X.w) X.A (eval a X.env) Q X.xe s := by
  refine runO ha I E ez fun x en1 u s1 v H1 O1 as1 kz I1 r1 d1 => ?_
  exact hf x en1 u v s1 H1 O1 kz I1 r1 (fun d hd => d1.ov.opr d1.eo.env hd) d1.eo d1.st.right
theorem end_one {α : Type} {x : Opd} {en : En} {op : D → Out α} {K : α → En → Prop} {XX : Nat → D → En → Prop} (k : Endz (match x.rd en with
    | some x => op x
    | none => .bad) K XX) : ∃ a, x.rd en = some a ∧ Endz (op a) K XX := by
  split at k
  · rename_i a e1
    exact ⟨a, e1, k⟩
  · exact k.elim
def Bif.nm : Bif → Str
  | .len => "len" | .all => "all" | .any => "any" | .sorted => "sorted" | .tuple => "tuple" | .list => "list" | .abs => "abs" | .int => "int" | .str => "str" | .repr => "repr" | .sum => "sum"
theorem Bif.boot (b : Bif) : bootBuiltins b.nm = some b.val := by cases b <;> decide +kernel
theorem Bif.ne (b : Bif) : b.nm ≠ "__name__" := by cases b <;> decide +kernel
theorem Bif.nd (b : Bif) : (b.nm == ("__debug__" : Str)) = false := by cases b <;> decide +kernel
theorem Bif.kind (b : Bif) : (∃ id, b.val = .builtin id) ∨ ∃ id, b.val = .type id := by cases b <;> first | exact .inl ⟨_, rfl⟩ | exact .inr ⟨_, rfl⟩
theorem callW_bif {s : Shared} {b : Bif} {x : Expr} {l : List Expr} {pos : Pos} {Q : Value → Shared → Prop} (core : wpAny (model X.prog X.w) X.A (spliced (backTo pos (starEach (x :: l) X.env))) (fun us s' => wpAny (model X.prog X.w) X.A (call b.val us) Q X.xe s') X.xe s)
    (he : starEach (x :: l) X.env = (false, eval x X.env) :: starEach l X.env) (hpl : (backTo pos (starEach l X.env)).any (·.1) = false) : wpAny (model X.prog X.w) X.A (callWith pos b.val [] (backTo pos (starEach (x :: l) X.env)) []) Q X.xe s := by
  rcases b.kind with ⟨id, e⟩ | ⟨id, e⟩
  · rw [e] at core ⊢
    exact PyProof.Rows.callWith_builtin1 core he hpl
  · rw [e] at core ⊢
    exact PyProof.Rows.callWith_type1 core he hpl
theorem pe_bif {a : Expr} {A : E} {b : Bif} {p pos : Pos} (hG : J.G = Cxg X T) (hc : X.calm = true) (hu : X.A.units + 100 < cLine) (hgd : X.A.guards = some []) (hg : Gl X b.nm) (hm : X.mg b.nm = none) (ha : pO X J orc a A)
    (he : starEach [a] X.env = (false, eval a X.env) :: starEach [] X.env := by rfl) (hpl : (backTo pos (starEach ([] : List Expr) X.env)).any (·.1) = false := by rfl) : pE X J orc (.Call (.Name b.nm p) [a] [] pos) (.bif b A) := by
  refine ⟨fun pins s σ H Q I ⟨en, O, E, k⟩ => ?_⟩
  simp only [evE, endz_bnd] at k
  have core : wpAny (model X.prog X.w) X.A (spliced (backTo pos (starEach [a] X.env))) (fun us s' => wpAny (model X.prog X.w) X.A (call b.val us) (EP X pins σ Q) X.xe s') X.xe s := by
    rw [he]
    show wpAny _ _ (spliced ((false, eval a X.env) :: backTo pos (starEach [] X.env))) _ _ s
    refine Calls.spliced_cons (one_ok ha I E k fun x en2 u v s2 H2 O2 kk I2 r1 hx E2 st => Calls.spliced_nil ?_)
    obtain ⟨a', e1, kk⟩ := end_one kk
    rw [endz_of] at kk
    obtain ⟨r, e, kk⟩ := kk
    have hx := hx a' e1
    rw [hG] at hx
    exact done2 hG E2 st kk (bif_ok I2 hc hu hgd hx r1 e)
  exact wpAny_Call_Name_kw (ld_blt I hg hm b.boot (callW_bif core he hpl) b.ne b.nd)
def Cl.nm : Cl → Str
  | .int => "int" | .bool => "bool" | .str => "str" | .tuple => "tuple" | .list => "list" | .dict => "dict"
def Cl.tn : Cl → String
  | .int => "int" | .bool => "bool" | .str => "str" | .tuple => "tuple" | .list => "list" | .dict => "dict"
theorem Cl.boot (b : Cl) : bootBuiltins b.nm = some (.type b.tn) := by cases b <;> decide +kernel
theorem Cl.ne (b : Cl) : b.nm ≠ "__name__" := by cases b <;> decide +kernel
theorem Cl.nd (b : Cl) : (b.nm == ("__debug__" : Str)) = false := by cases b <;> decide +kernel
theorem isi_ok {pins : List (Addr × Obj)} {s : Shared} {σ : L2.St} {H : Hp} (I : Inv X pins σ H s) {c : Cl} {d : D} {r : Bool} {v : V} {u : Value} (ha : Opr (Cxg X T) H d v) (ra : RelV v u) (e : isInst c d = some r) :
    wpAny (model X.prog X.w) X.A (call (.builtin "isinstance") [u, .type c.tn]) (EP X pins σ (NRq (Cxg X T) H (.frz (.bl r)))) X.xe s := by
  unfold isInst at e
  obtain ⟨hp, rfl⟩ := gd_some.mp e
  obtain ⟨as, q⟩ := ha.reads I.hok I.kIn hp ra
  have fin : ∀ b : Bool, b = isIn c d → ∀ tk, s.toks ≤ tk → EP X pins σ (NRq (Cxg X T) H (.frz (.bl (isIn c d)))) (.bool b) { s with toks := tk } := fun b hb tk _ => by
    subst hb
    exact ⟨.bl _, H, I.tok _, rfl, nq_bl⟩
  cases c with
  | int => exact PySem.W.isinstance_int_data q (fin _ (by cases d <;> rfl))
  | bool => exact PySem.W.isinstance_bool_data q (fin _ (by cases d <;> rfl))
  | str => exact PySem.W.isinstance_str_data q (fin _ (by cases d <;> rfl))
  | tuple => exact PySem.W.isinstance_tuple_data q (fin _ (by cases d <;> rfl))
  | list => exact PySem.W.isinstance_list_data q (fin _ (by cases d <;> rfl))
  | dict => exact PySem.W.isinstance_dict_data q (fin _ (by cases d <;> rfl))
theorem pe_isi {a : Expr} {A : E} {c : Cl} {p p2 pos : Pos} (hG : J.G = Cxg X T) (hg : Gl X "isinstance") (hm : X.mg "isinstance" = none) (hg2 : Gl X c.nm) (hm2 : X.mg c.nm = none) (ha : pO X J orc a A)
    (he : starEach [a, .Name c.nm p2] X.env = (false, eval a X.env) :: starEach [.Name c.nm p2] X.env := by rfl) : pE X J orc (.Call (.Name "isinstance" p) [a, .Name c.nm p2] [] pos) (.isi A c) := by
  refine ⟨fun pins s σ H Q I ⟨en, O, E, k⟩ => ?_⟩
  simp only [evE, endz_bnd] at k
  have he2 : starEach [Expr.Name c.nm p2] X.env = [(false, eval (.Name c.nm p2) X.env)] := rfl
  have hpl : (backTo pos (starEach [Expr.Name c.nm p2] X.env)).any (·.1) = false := rfl
  refine wpAny_Call_Name_kw (ld_blt I hg hm PyProof.Rows.boot_isinstance ?_ (by decide) (by decide))
  refine PyProof.Rows.callWith_builtin1 ?_ he hpl
  rw [he]
  show wpAny _ _ (spliced ((false, eval a X.env) :: backTo pos (starEach [Expr.Name c.nm p2] X.env))) _ _ s
  refine Calls.spliced_cons (one_ok ha I E k fun x en2 u v s2 H2 O2 kk I2 r1 hx E2 st => ?_)
  rw [he2]
  show wpAny _ _ (spliced ((false, eval (.Name c.nm p2) X.env) :: backTo pos [])) _ _ s2
  refine Calls.spliced_cons (ld_blt I2 hg2 hm2 c.boot (Calls.spliced_nil ?_) c.ne c.nd)
  obtain ⟨a', e1, kk⟩ := end_one kk
  rw [endz_of] at kk
  obtain ⟨r, e, kk⟩ := kk
  obtain ⟨c', e', rfl⟩ := Option.map_eq_some_iff.mp e
  have hx := hx a' e1
  rw [hG] at hx
  exact done2 hG E2 st kk (isi_ok I2 hx r1 e')
end
end PM

namespace PM
open PySem PySem.Spec PyProof.Rows
open L2 hiding St
variable [TC]

theorem endz_ite {α : Type} {c : Bool} {x : Out α} {k : α → En → Prop} {w : Nat → D → En → Prop} : Endz (if c = true then x else .bad) k w ↔ c = true ∧ Endz x k w := by
  cases c with
  | true => simp
  | false => exact ⟨fun h => h.elim, fun h => by cases h.1⟩
theorem endz_ite' {α : Type} {c : Prop} [Decidable c] {x : Out α} {k : α → En → Prop} {w : Nat → D → En → Prop} : Endz (if c then x else .bad) k w ↔ c ∧ Endz x k w := by
  by_cases h : c
  · simp [h]
  · simp only [h, if_false, false_and, iff_false]; exact fun h => h
theorem endz_ok {α : Type} {a : α} {en : En} {k : α → En → Prop} {w : Nat → D → En → Prop} : Endz (.ok a en) k w ↔ k a en := Iff.rfl
section
variable (J : Jx) (σ : L2.St) (O : List Addr) (H : Hp)
/-- a frozen value has come -/
structure FD (d : D) (en' : En) (v : V) (H' : Hp) (O' : List Addr) : Prop where
  st : Step O H O' H'
  eo : EO J.G J.LV H' en' σ O'
  fz : Fz J.G H' d v
end
section
variable {J : Jx} {X : Cx} {T : Tb} {orc : Orc}
/-- what is owned alone is frozen -/
theorem frz_now {pins : List (Addr × Obj)} {s : Shared} {σ : L2.St} {H H' : Hp} {O O' as : List Addr} {o : OV} {en' : En} {v : V} (I : Inv X pins σ H' s) (d : VD J σ O H o en' v H' O' as) (hc : o.cool = true) : ∃ H2, Inv X pins σ H2 s ∧ FD J σ O H o.d en' v H2 O' := by
  obtain ⟨n1, n2, n3⟩ := nd_app d.nd
  obtain ⟨H2, I2, k2, s2, dm, f2⟩ := Ov.freeze o v as H' hc I d.ov n1
  have m := Ov.mut _ _ _ d.ov
  refine ⟨H2, I2, ⟨?_, ?_, ?_⟩, d.eo.keep k2 m (fun b hb z => n3 b z hb) dm, f2⟩
  · exact d.st.keep.trans k2 fun c hc => d.st.sub c (List.mem_append_left _ hc)
  · exact d.st.dom.trans dm
  · exact fun b hb => d.st.sub b (List.mem_append_right _ hb)
/-- a value, frozen -/
theorem runF {e : Expr} {A : E} (h : pE X J orc e A) {pins : List (Addr × Obj)} {s : Shared} {σ : L2.St} {H : Hp} {en : En} {O : List Addr} (I : Inv X pins σ H s) (E : EO J.G J.LV H en σ O) {Q : Value → Shared → Prop} {k : OV → En → Prop}
    (ez : Endz (evE orc A en) k (XW J σ O H)) (hq : ∀ o en' u s' v O', k o en' → (o.cool = true → ∃ H', Inv X pins σ H' s' ∧ FD J σ O H o.d en' v H' O') → RelV v u → Q u s') : wpAny (model X.prog X.w) X.A (eval e X.env) Q X.xe s :=
  runE h I E ez fun o en' u s' v H' O' as hk I' r d => hq o en' u s' v O' hk (fun hc => frz_now I' d hc) r

/-! ## and, or, not, if -/
theorem pe_and {a b : Expr} {rest : List Expr} {A B : E} {pos : Pos} (ha : pE X J orc a A) (hb : pE X J orc (.BoolOp .And (b :: rest) pos) B) : pE X J orc (.BoolOp .And (a :: b :: rest) pos) (.and A B) := by
  refine ⟨fun pins s σ H Q I ⟨en, O, E, k⟩ => ?_⟩
  simp only [evE, endz_bnd] at k
  refine BoolOp_and (runE ha I E k fun o en1 u s1 v H1 O1 as1 kz I1 r1 d1 => ?_)
  split at kz
  · have hv := d1.ov
    simp only [Ov, Fz] at hv
    obtain ⟨rfl, rfl⟩ := hv
    cases r1
    refine wpAny_truthy_bool ?_
    have st1 : Step O H O1 H1 := d1.st
    exact hb.run pins s1 σ H1 Q I1 ⟨en1, O1, d1.eo, kz.imp (fun o en' hk v H' O' as d => hk v H' O' as (d.trans st1)) fun _ _ _ x => XW.trans st1 x⟩
  · have hv := d1.ov
    simp only [Ov, Fz] at hv
    obtain ⟨rfl, rfl⟩ := hv
    cases r1
    exact wpAny_truthy_bool ⟨.bl false, H1, I1, rfl, kz _ H1 O1 [] d1⟩
  · exact kz.elim
theorem pe_or {a b : Expr} {rest : List Expr} {A B : E} {pos : Pos} (ha : pE X J orc a A) (hb : pE X J orc (.BoolOp .Or (b :: rest) pos) B) : pE X J orc (.BoolOp .Or (a :: b :: rest) pos) (.or A B) := by
  refine ⟨fun pins s σ H Q I ⟨en, O, E, k⟩ => ?_⟩
  simp only [evE, endz_bnd] at k
  refine BoolOp_or (runE ha I E k fun o en1 u s1 v H1 O1 as1 kz I1 r1 d1 => ?_)
  split at kz
  · have hv := d1.ov
    simp only [Ov, Fz] at hv
    obtain ⟨rfl, rfl⟩ := hv
    cases r1
    exact wpAny_truthy_bool ⟨.bl true, H1, I1, rfl, kz _ H1 O1 [] d1⟩
  · have hv := d1.ov
    simp only [Ov, Fz] at hv
    obtain ⟨rfl, rfl⟩ := hv
    cases r1
    refine wpAny_truthy_bool ?_
    have st1 : Step O H O1 H1 := d1.st
    exact hb.run pins s1 σ H1 Q I1 ⟨en1, O1, d1.eo, kz.imp (fun o en' hk v H' O' as d => hk v H' O' as (d.trans st1)) fun _ _ _ x => XW.trans st1 x⟩
  · exact kz.elim
theorem pe_one {a : Expr} {A : E} {op} {pos : Pos} (ha : pE X J orc a A) : pE X J orc (.BoolOp op [a] pos) A := L2.pe_one ha
theorem pe_ite {c a b : Expr} {C : PM.T} {A B : E} {pos : Pos} (hc : pT X J orc c C) (ha : pE X J orc a A) (hb : pE X J orc b B) : pE X J orc (.IfExp c a b pos) (.ite C A B) := by
  refine ⟨fun pins s σ H Q I ⟨en, O, E, k⟩ => ?_⟩
  simp only [evE, endz_bnd] at k
  refine (L2.pe_ifExp hc ha hb).run pins s σ H Q I ⟨en, O, E, k.imp (fun t en1 kz H1 O1 st1 E1 => ?_) fun _ _ _ x => x⟩
  cases t with
  | true => exact ⟨en1, O1, E1, Endz.imp kz (fun o en' hk v H' O' as d => hk v H' O' as (d.trans st1)) fun _ _ _ x => XW.trans st1 x⟩
  | false => exact ⟨en1, O1, E1, Endz.imp kz (fun o en' hk v H' O' as d => hk v H' O' as (d.trans st1)) fun _ _ _ x => XW.trans st1 x⟩
/-! ## tests -/
abbrev pW (X : Cx) (J : Jx) (orc : Orc) (e : Expr) (A : PM.T) : Prop := PW X e (tT J (evT orc A))
theorem pw_and1 {a : Expr} {A : PM.T} {pos : Pos} (ha : pT X J orc a A) : pW X J orc (.BoolOp .And [a] pos) A := L2.pw_and1 ha
theorem pw_or1 {a : Expr} {A : PM.T} {pos : Pos} (ha : pT X J orc a A) : pW X J orc (.BoolOp .Or [a] pos) A := L2.pw_or1 ha
theorem pw_and {a b : Expr} {rest : List Expr} {A B : PM.T} {pos : Pos} (ha : pT X J orc a A) (hb : pW X J orc (.BoolOp .And (b :: rest) pos) B) : pW X J orc (.BoolOp .And (a :: b :: rest) pos) (.and A B) := by
  refine ⟨fun wh pins s σ H Q I ⟨en, O, E, k⟩ => ?_⟩
  simp only [evT, endz_bnd] at k
  refine (L2.pw_and ha hb).run wh pins s σ H Q I ⟨en, O, E, k.imp (fun t en1 kz H1 O1 st1 E1 => ?_) fun _ _ _ x => x⟩
  cases t with
  | true => exact ⟨en1, O1, E1, Endz.imp kz (fun b en' hk H' O' st E' => hk H' O' (st1.trans st) E') fun _ _ _ x => XW.trans st1 x⟩
  | false => exact kz H1 O1 st1 E1
theorem pw_or {a b : Expr} {rest : List Expr} {A B : PM.T} {pos : Pos} (ha : pT X J orc a A) (hb : pW X J orc (.BoolOp .Or (b :: rest) pos) B) : pW X J orc (.BoolOp .Or (a :: b :: rest) pos) (.or A B) := by
  refine ⟨fun wh pins s σ H Q I ⟨en, O, E, k⟩ => ?_⟩
  simp only [evT, endz_bnd] at k
  refine (L2.pw_or ha hb).run wh pins s σ H Q I ⟨en, O, E, k.imp (fun t en1 kz H1 O1 st1 E1 => ?_) fun _ _ _ x => x⟩
  cases t with
  | true => exact kz H1 O1 st1 E1
  | false => exact ⟨en1, O1, E1, Endz.imp kz (fun b en' hk H' O' st E' => hk H' O' (st1.trans st) E') fun _ _ _ x => XW.trans st1 x⟩
theorem pt_not {a : Expr} {A : PM.T} {pos : Pos} (ha : pT X J orc a A) : pT X J orc (.UnaryOp .Not a pos) (.not A) := by
  refine ⟨fun pins s σ H Q I ⟨en, O, E, k⟩ => ?_⟩
  simp only [evT, endz_bnd] at k
  exact (L2.pt_not ha).run pins s σ H Q I ⟨en, O, E, k.imp (fun t en1 kz H1 O1 st1 E1 => kz H1 O1 st1 E1) fun _ _ _ x => x⟩
theorem truth_ok {pins : List (Addr × Obj)} {s : Shared} {σ : L2.St} {H : Hp} {d : D} {b : Bool} {v : V} (f : Opr (Cxg X T) H d v) (e : d.truth = some b) : TruV X.K v H b := by
  unfold D.truth at e
  split at e
  · cases e; rw [f.non]; rfl
  · cases e; rw [f.bl]; rfl
  · cases e; rw [f.int]; rfl
  · obtain ⟨hc, rfl⟩ := gd_some.mp e
    rw [f.str]
    refine ⟨hc, ?_⟩
    rename_i x
    rw [Bool.eq_iff_iff]
    simp
  · cases e
    obtain ⟨p, xs, rfl, h1, f2⟩ := f.lst
    refine .inl ⟨xs, .inl h1, ?_⟩
    have := f2.length
    rename_i ds
    cases ds <;> cases xs <;> simp_all
  · cases e
    obtain ⟨p, xs, rfl, h1, f2⟩ := f.tup
    refine .inr (.inl ⟨xs, h1, ?_⟩)
    have := f2.length
    rename_i ds
    cases ds <;> cases xs <;> simp_all
  · cases e
theorem pt_val {a : Expr} {A : E} (hG : J.G = Cxg X T) (ha : pO X J orc a A) (he : ∀ whole, isTrue a X.env whole = (do let v ← whole; standAt a.pos; holding [v] (truthy v))) : pT X J orc a (.val A) := by
  refine ⟨fun pins s σ H Q I ⟨en, O, E, k⟩ => ?_⟩
  simp only [evT, endz_bnd] at k
  refine isTrue_plain (one_ok ha I E k fun x en2 u v s2 H2 O2 kk I2 r1 hx E2 st => ?_) (he _)
  obtain ⟨a', e1, kk⟩ := end_one kk
  rw [endz_of] at kk
  obtain ⟨r, e, kk⟩ := kk
  have hx := hx a' e1
  rw [hG] at hx
  exact tru_ok pins s2 σ H2 v u _ I2 r1 ⟨r, truth_ok (pins := pins) (s := s) (σ := σ) hx e, kk H2 O2 st E2⟩
theorem pt_cmp {a b : Expr} {A B : E} {o : COp} {pos : Pos} (hG : J.G = Cxg X T) (hu : X.A.units + 100 < cLine) (ha : pO X J orc a A) (hb : pO X J orc b B) (hm : behindInMarks o.op b = false) : pT X J orc (.Compare a [o.op] [b] pos) (.val (.cmp o A B)) := by
  refine ⟨fun pins s σ H Q I ⟨en, O, E, k⟩ => ?_⟩
  simp only [evT, mkO, evE, endz_bnd] at k
  refine wpAny_isTrue_Compare1 (two_ok ha hb I E k fun x y en2 u z v w s2 H2 O2 kk I2 r1 r2 hx hy E2 st => ?_) hm
  obtain ⟨a, b, e1, e2, kk⟩ := end_two kk
  rw [endz_of] at kk
  obtain ⟨r, e, kk⟩ := kk
  obtain ⟨c, e', rfl⟩ := Option.map_eq_some_iff.mp e
  have hx := hx a e1; have hy := hy b e2
  rw [hG] at hx hy
  refine thn (cmp_ok I2 hu hx hy r1 r2 e') fun u s3 ⟨v, H', I', r', q⟩ => ?_
  rw [← hG] at q
  obtain ⟨as, d⟩ := VD.of_nr E2 st q
  have hv := d.ov
  simp only [Ov, Fz] at hv
  obtain ⟨rfl, rfl⟩ := hv
  cases r'
  rw [endz_ok] at kk
  simp only [Opd.rd, OV.flat, D.truth] at kk
  exact wpAny_truthy_bool ⟨H', I', kk H' O2 d.st d.eo⟩
/-! ## a op b op c -/
theorem pe_not {a : Expr} {A : E} {pos : Pos} (hG : J.G = Cxg X T) (ha : pO X J orc a A) : pE X J orc (.UnaryOp .Not a pos) (.not A) := by
  refine ⟨fun pins s σ H Q I ⟨en, O, E, k⟩ => ?_⟩
  simp only [evE, endz_bnd] at k
  refine UnaryOp_ (one_ok ha I E k fun x en2 u v s2 H2 O2 kk I2 r1 hx E2 st => ?_)
  obtain ⟨a', e1, kk⟩ := end_one kk
  rw [endz_of] at kk
  obtain ⟨r, e, kk⟩ := kk
  obtain ⟨c, e', rfl⟩ := Option.map_eq_some_iff.mp e
  have hx := hx a' e1
  rw [hG] at hx
  refine not_of (thn (tru_ok pins s2 σ H2 v u (fun b H' => b = c ∧ H' = H2) I2 r1 ⟨c, truth_ok (pins := pins) (s := s) (σ := σ) hx e', rfl, rfl⟩) fun b s3 ⟨H', I', q1, q2⟩ => ?_)
  subst q1 q2
  exact ⟨.bl (!b), H', I', rfl, kk _ H' O2 [] ⟨st, E2, by simp [Ov, Fz], E2.nd⟩⟩
theorem pe_chn {a b c : Expr} {A B C : E} {o p : COp} {pos : Pos} (hG : J.G = Cxg X T) (hu : X.A.units + 100 < cLine) (ha : pO X J orc a A) (hb : pO X J orc b B) (hc : pO X J orc c C)
    (hm : lastMarks [o.op, p.op] [b, c] = false) : pE X J orc (.Compare a [o.op, p.op] [b, c] pos) (.chn o p A B C) := by
  refine ⟨fun pins s σ H Q I ⟨en, O, E, k⟩ => ?_⟩
  simp only [evE, endz_bnd] at k
  refine Compare_chain (runO ha I E k fun x en1 u s1 v H1 O1 as1 kz I1 r1 d1 => chain_link (runO hb I1 d1.eo (kz.imp (fun _ _ h => h) fun _ _ _ h => XW.trans d1.st.right h) fun y en2 z s2 w H2 O2 as2 kk I2 r2 d2 => ?_)) hm
  obtain ⟨n1, n2, n3⟩ := nd_app d1.nd
  have hx := d1.ov.step d2.st d1.eo.env.mut n3
  have st2 : Step O H O2 H2 := d1.st.right.trans d2.st.right
  split at kk
  · rename_i x' y' e1
    have hx := hx.opr d2.eo.env e1
    have hy := d2.ov
    simp only [Hold, Ov] at hy
    obtain ⟨hy, rfl⟩ := hy
    rw [hG] at hx hy
    have hu' := hu
    refine thn (?_ : wpAny (model X.prog X.w) X.A (compareOp o.op u z) (fun q s3 => ∃ b H3, opCmp o x' y' = some b ∧ q = .bool b ∧ Inv X pins σ H3 s3 ∧ EO J.G J.LV H3 en2 σ O2 ∧ Step O H O2 H3 ∧ Fz J.G H3 y' w) X.xe s2) fun q s3 hq => ?_
    · cases hc' : opCmp o x' y' with
      | none => rw [hc'] at kk; exact kk.elim
      | some b =>
        refine thn (cmp_ok I2 hu hx (.inl hy) r1 r2 hc') fun q s3 ⟨v', H', I', r', q'⟩ => ?_
        rw [← hG] at q'
        have fp : FP H2 H' := q'.1.fp mutO_nil
        obtain ⟨as, d⟩ := VD.of_nr d2.eo st2 q'
        have hv := d.ov
        simp only [Ov, Fz] at hv
        obtain ⟨rfl, rfl⟩ := hv
        cases r'
        rw [← hG] at hy
        exact ⟨b, H', rfl, rfl, I', d.eo, d.st, Fz.mono fp _ _ hy⟩
    · obtain ⟨b, H3, e3, rfl, I3, E3, st3, f3⟩ := hq
      rw [e3] at kk
      refine wpAny_truthy_bool ?_
      cases b with
      | false => exact ite_ff ⟨.bl false, H3, I3, rfl, kk _ H3 O2 [] ⟨st3, E3, by simp [Ov, Fz], E3.nd⟩⟩
      | true =>
        simp only [endz_bnd] at kk
        refine ite_tt (chain_last (runO hc I3 E3 (kk.imp (fun _ _ h => h) fun _ _ _ h => XW.trans st3 h) fun zz en4 w' s4 v4 H4 O4 as4 k4 I4 r4 d4 => ?_))
        obtain ⟨z', e4, k4⟩ := end_one k4
        rw [endz_of] at k4
        obtain ⟨r, e, k4⟩ := k4
        obtain ⟨c', e', rfl⟩ := Option.map_eq_some_iff.mp e
        have hz := d4.ov.opr d4.eo.env e4
        have hy' := Fz.mono (d4.st.keep.fp E3.env.mut) _ _ f3
        rw [hG] at hz hy'
        exact done2 hG d4.eo (st3.trans d4.st.right) k4 (cmp_ok I4 hu (.inl hy') hz r2 r4 e')
  · exact kk.elim
end
end PM

namespace PM
open PySem PySem.Spec PyProof.Rows
open L2 hiding St
variable [TC]

section
variable (J : Jx)
/-- frozen -/
def tZ (F : En → Out OV) : TE := fun σ H Q => ∃ en O, EO J.G J.LV H en σ O ∧ Endz (F en) (fun o en' => o.cool = true ∧ ∀ v H' O', FD J σ O H o.d en' v H' O' → Q v H') (XW J σ O H)
/-- several, frozen -/
def tL (F : En → Out (List D)) : TA := fun σ H Q => ∃ en O, EO J.G J.LV H en σ O ∧ Endz (F en) (fun ds en' => ∀ vs H' O', Step O H O' H' → EO J.G J.LV H' en' σ O' → FzL J.G H' ds vs → Q vs H') (XW J σ O H)
end
section
variable {J : Jx} {X : Cx} {T : Tb} {orc : Orc}
theorem pz {e : Expr} {A : E} (h : pE X J orc e A) : PE X e (tZ J (evE orc A)) := ⟨fun pins s σ H Q I ⟨en, O, E, k⟩ =>
  runF h I E k fun o en' u s' v O' hk hf r => by
    obtain ⟨H', I', d⟩ := hf hk.1
    exact ⟨v, H', I', r, hk.2 v H' O' d⟩⟩
abbrev pL (X : Cx) (J : Jx) (orc : Orc) (es : List Expr) (A : Es) : Prop := PA X es (tL J (evL orc A))
theorem pl_nil : pL X J orc [] .nil := ⟨fun pos pins s σ H Q I ⟨en, O, E, k⟩ => by
  simp only [evL, endz_ok] at k
  exact L2.pa_nil.run pos pins s σ H Q I (k [] H O Step.refl E (by simp [FzL]))⟩
theorem pl_cons {e : Expr} {es : List Expr} {A : E} {B : Es} (h : pE X J orc e A) (hr : pL X J orc es B) (hs : starEach (e :: es) X.env = (false, eval e X.env) :: starEach es X.env := by rfl) : pL X J orc (e :: es) (.cons A B) := by
  refine ⟨fun pos pins s σ H Q I ⟨en, O, E, k⟩ => ?_⟩
  simp only [evL, endz_bnd, endz_ite, endz_ok] at k
  refine (L2.pa_cons (pz h) hr hs).run pos pins s σ H Q I ⟨en, O, E, k.imp (fun o en1 hk => ⟨hk.1, fun v H1 O1 d => ⟨en1, O1, d.eo, hk.2.imp (fun ds en2 kk vs H2 O2 st2 E2 f2 => ?_) fun _ _ _ x => XW.trans d.st x⟩⟩) fun _ _ _ x => x⟩
  exact kk (v :: vs) H2 O2 (d.st.trans st2) E2 (FzL.cons (Fz.mono (st2.keep.fp d.eo.env.mut) _ _ d.fz) f2)
/-- something new is laid -/
theorem VD.new {σ : L2.St} {O O1 : List Addr} {H H1 H' : Hp} {en1 : En} {v : V} {o : OV} (E : EO J.G J.LV H1 en1 σ O1) (st : Step O H O1 H1) (x : NRq J.G H1 o v H') : ∃ as, VD J σ O H o en1 v H' O1 as := VD.of_nr E st x
theorem pe_tup {es : List Expr} {A : Es} {c : Nat} {pos : Pos} (h : pL X J orc es A) : pE X J orc (.Tuple es c pos) (.tup A) := by
  refine ⟨fun pins s σ H Q I ⟨en, O, E, k⟩ => ?_⟩
  simp only [evE, endz_bnd, endz_ite', endz_ok] at k
  refine (L2.pe_tup h).run pins s σ H Q I ⟨en, O, E, k.imp (fun ds en1 hk vs H1 O1 st1 E1 f1 => ⟨by rw [f1.length]; exact hk.1, fun p np => ?_⟩) fun _ _ _ x => x⟩
  obtain ⟨as, d⟩ := VD.of_nr E1 st1 (nq_tup np f1)
  exact hk.2 _ _ _ _ d
theorem pe_lst {es : List Expr} {A : Es} {pos : Pos} (h : pL X J orc es A) : pE X J orc (.List es pos) (.lst A) := by
  refine ⟨fun pins s σ H Q I ⟨en, O, E, k⟩ => ?_⟩
  simp only [evE, endz_bnd, endz_ite', endz_ok] at k
  refine (L2.pe_lst h).run pins s σ H Q I ⟨en, O, E, k.imp (fun ds en1 hk vs H1 O1 st1 E1 f1 => ⟨by rw [f1.length]; exact hk.1, fun p np => ?_⟩) fun _ _ _ x => x⟩
  obtain ⟨as, d⟩ := VD.of_nr E1 st1 (nq_lst np f1)
  exact hk.2 _ _ _ _ d
/-! ## slices -/
def pP (X : Cx) (J : Jx) (orc : Orc) (p : Option Expr) (A : E) : Prop := (p = none ∧ A = .lit .non) ∨ ∃ e, p = some e ∧ pO X J orc e A
theorem pp_none : pP X J orc none (.lit .non) := .inl ⟨rfl, rfl⟩
theorem pp_some {e : Expr} {A : E} (h : pO X J orc e A) : pP X J orc (some e) A := .inr ⟨e, rfl, h⟩
theorem runP {p : Option Expr} {A : E} (h : pP X J orc p A) {pins : List (Addr × Obj)} {s : Shared} {σ : L2.St} {H : Hp} {en : En} {O : List Addr} (I : Inv X pins σ H s) (E : EO J.G J.LV H en σ O) {Q : Value → Shared → Prop} {k : Opd → En → Prop} (ez : Endz (mkO A (evE orc A) en) k (XW J σ O H))
    (hq : ∀ o en' u s' v H' O' as, k o en' → Inv X pins σ H' s' → RelV v u → OD J σ O H o en' v H' O' as → Q u s') : wpAny (model X.prog X.w) X.A (evalPart p X.env) Q X.xe s := by
  rcases h with ⟨rfl, rfl⟩ | ⟨e, rfl, h⟩
  · rw [evalPart_none]
    simp only [mkO, evE, endz_bnd, endz_ok] at ez
    exact wpAny_pure (hq _ _ _ _ .non H O [] ez I rfl ⟨Step.refl, E, by simp [Hold, Ov, Fz], E.nd⟩)
  · rw [evalPart_some]
    exact runO h I E ez hq
theorem isPart_of {H : Hp} {d : D} {l : Option Int} {v : V} {u : Value} (f : Opr (Cxg X T) H d v) (r : RelV v u) (e : d.bnd = some l) : IsPart u l := by
  cases d with
  | non => cases e; rw [f.non] at r; cases r; exact .none
  | int i => cases e; rw [f.int] at r; obtain ⟨t, rfl⟩ := r; exact .int i t
  | _ => cases e
theorem pe_slc {a : Expr} {lo hi : Option Expr} {A L U : E} {p2 pos : Pos} (hG : J.G = Cxg X T) (ha : pO X J orc a A) (hl : pP X J orc lo L) (hh : pP X J orc hi U) : pE X J orc (.Subscript a (.Slice lo hi none p2) pos) (.slc A L U) := by
  refine ⟨fun pins s σ H Q I ⟨en, O, E, k⟩ => ?_⟩
  simp only [evE, endz_bnd] at k
  refine Subscript_ (runO ha I E k fun x en1 u s1 v H1 O1 as1 k1 I1 r1 d1 => wpAny_Slice (runP hl I1 d1.eo (k1.imp (fun _ _ h => h) fun _ _ _ h => XW.trans d1.st.right h) fun y en2 ul s2 vl H2 O2 as2 k2 I2 r2 d2 =>
    runP hh I2 d2.eo (k2.imp (fun _ _ h => h) fun _ _ _ h => XW.trans (d1.st.right.trans d2.st.right) h) fun z en3 uh s3 vh H3 O3 as3 k3 I3 r3 d3 => ?_))
  rw [evalPart_none]
  refine wpAny_pure ?_
  obtain ⟨n1, n2, n3⟩ := nd_app d1.nd
  obtain ⟨m1, m2, m3⟩ := nd_app d2.nd
  have st : Step O H O3 H3 := (d1.st.right.trans d2.st.right).trans d3.st.right
  have hx := (d1.ov.step d2.st d1.eo.env.mut n3).step d3.st d2.eo.env.mut (d2.st.right.apart d1.ov.mut n3)
  have hy := d2.ov.step d3.st d2.eo.env.mut m3
  split at k3
  · rename_i a' l' h' e1 e2 e3
    rw [endz_of] at k3
    obtain ⟨r, er, k3⟩ := k3
    have fx := hx.opr d3.eo.env e1
    have fy := hy.opr d3.eo.env e2
    have fz := d3.ov.opr d3.eo.env e3
    rw [hG] at fx fy fz
    have I4 : Inv X pins σ H3 { s3 with heap := s3.heap.push { cls := .type "slice", data := .fields #[ul, uh, .none] } } := I3.kept (t' := s3.toks) fun b ob q => Heap.get?_push_of_some _ q
    obtain ⟨bl, bh, el, eh⟩ : ∃ bl bh, l'.bnd = some bl ∧ h'.bnd = some bh := by
      unfold D.slc at er
      split at er
      · rename_i bl bh el eh; exact ⟨_, _, el, eh⟩
      · cases er
    obtain ⟨T', id, hT, ht, hg⟩ := slc_ok I4 fx r1 (Heap.IsSliceOf.new ..) (isPart_of fy r2 el) (isPart_of fz r3 eh) el eh er
    show wpAny (model X.prog X.w) X.A (subscriptTail a (.Slice lo hi none p2) u (.ref s3.heap.objs.size)) (EP X pins σ Q) X.xe { s3 with heap := s3.heap.push { cls := .type "slice", data := .fields #[ul, uh, .none] } }
    refine tail_any (ops := [.ref s3.heap.objs.size, u]) ht hT (done2 hG d3.eo st k3 hg) (by with_unfolding_all rfl)
  · exact k3.elim
end
end PM

namespace HT2
open PySem PySem.Spec PyProof.Rows L2 HT
section
variable {prog : Program} {w : World} {A : Around} {E : Value → Shared → Prop} {s : Shared}
theorem sliceApplied_rev {sl : Addr} {v : Value} {n : Nat} {Q : Int × Int × Nat → Shared → Prop} (hs : s.heap.IsSliceOf sl .none .none v) (pv : IsPart v (some (-1)))
    (h : Q ((n : Int) - 1, -1, n) s) : wpAny (model prog w) A (Builtin.Slice.sliceApplied (.ref sl) (pure (n : Int))) Q E s := by
  obtain ⟨os, hos, hcs, hds⟩ := id hs
  unfold Builtin.Slice.sliceApplied Builtin.Slice.sliceFields
  refine wpAny_bind (wpAny_bind (wpAny_field hos hds (x := .none) rfl (wpAny_bind (wpAny_field hos hds (x := .none) rfl (wpAny_bind (wpAny_field hos hds (x := v) rfl (wpAny_pure ?_)))))))
  refine wpAny_bind (slicePart_ pv ?_)
  show wpAny _ _ (if ((-1 : Int) == 0) = true then _ else _) _ _ s
  rw [if_neg (by decide)]
  refine wpAny_bind (slicePart_ .none (wpAny_bind (slicePart_ .none (wpAny_bind (wpAny_pure ?_)))))
  have e1z : Builtin.Slice.sliceAdjust none none (-1) (n : Int) = ((n : Int) - 1, -1) := by
    unfold Builtin.Slice.sliceAdjust
    have h1z : ((-1 : Int) < 0) := by decide
    simp only [h1z, if_true]
  have e2z : Builtin.Slice.slicePlaces ((n : Int) - 1) (-1) (-1) = n := by
    unfold Builtin.Slice.slicePlaces
    have h1z : ¬ ((-1 : Int) > 0) := by decide
    simp only [h1z, if_false]
    split <;> simp <;> omega
  show wpAny _ _ (match Builtin.Slice.sliceAdjust none none (-1) (n : Int) with | (lo, hi) => pure (lo, (-1 : Int), Builtin.Slice.slicePlaces lo hi (-1))) _ _ s
  rw [e1z]
  show wpAny _ _ (pure ((n : Int) - 1, (-1 : Int), Builtin.Slice.slicePlaces ((n : Int) - 1) (-1) (-1))) _ _ s
  rw [e2z]
  exact wpAny_pure h
theorem fm_congr {α β : Type} {f g : α → Option β} : ∀ {l : List α}, (∀ x ∈ l, f x = g x) → l.filterMap f = l.filterMap g
  | [], _ => rfl
  | x :: l, h => by
    rw [List.filterMap_cons, List.filterMap_cons, h x (List.mem_cons_self ..), fm_congr fun y hy => h y (List.mem_cons_of_mem _ hy)]
theorem pick_rev (xs : Array Value) : ((List.range xs.size).filterMap fun (m : Nat) => xs[(((xs.size : Int) - 1) + (m : Int) * -1).toNat]?).toArray = xs.toList.reverse.toArray := by
  have e : ((List.range xs.size).filterMap fun (m : Nat) => xs[(((xs.size : Int) - 1) + (m : Int) * -1).toNat]?) = (List.range xs.size).reverse.filterMap fun m => xs[m]? := by
    rw [← PySem.W.krv_range, List.filterMap_map]
    apply fm_congr
    intro m hm
    have := List.mem_range.mp hm
    show xs[(((xs.size : Int) - 1) + (m : Int) * -1).toNat]? = xs[xs.size - 1 - m]?
    have e3z : (((xs.size : Int) - 1) + (m : Int) * -1).toNat = xs.size - 1 - m := by omega
    rw [e3z]
  rw [e, List.filterMap_reverse, PySem.W.krv_all]
theorem getItem_tuple_rev {t sl : Addr} {items : Array Value} {v : Value} {Q : Value → Shared → Prop} (ht : IsTup s.heap t items) (hs : s.heap.IsSliceOf sl .none .none v) (pv : IsPart v (some (-1)))
    (h : Q (.ref s.heap.objs.size) { s with heap := s.heap.push { cls := .type "tuple", data := .seq items.toList.reverse.toArray } })
    (hsz : items.size ≤ sizeLine) : wpAny (model prog w) A (getItem (.ref t) (.ref sl)) Q E s := by
  have htake : sizeOk (.seq items.toList.reverse.toArray) := by
    show items.toList.reverse.toArray.size ≤ sizeLine
    rw [List.size_toArray, List.length_reverse, Array.length_toList]
    exact hsz
  obtain ⟨os, hos, hcs, hds⟩ := id hs
  have hTs : s.TypeIs (.ref sl) "slice" := ⟨os, hos, hcs⟩
  unfold getItem
  try with_reducible refine wpAny_holding ?_
  first | refine wpAny_bind (wpAny_pure ?_) | skip
  refine wpAny_bind (wpAny_sequenceKey ht.typeIs (by decide) ?_)
  refine wpAny_bind (wpAny_callSpecial?_slot (name := Str.ofString "__getitem__") ht.typeIs PyProof.Rows.slot_tuple_getitem
    (wpAny_call_entry PyProof.Rows.slot_tuple_getitem ht.typeIs entry_tuple_getitem ?_ (args_tuple_getitem _ _)))
  show wpAny _ _ (Builtin.Tuple.tupleItemsOf (.ref t) >>= _) _ _ s
  refine wpAny_bind (tupleItemsOf_ ht ?_)
  refine wpAny_bind (wpAny_typeOf hTs ?_)
  rw [if_pos (by decide)]
  refine wpAny_bind (sliceApplied_rev hs pv ?_)
  have hno : ¬ ((((items.size : Int) - 1) == 0 && (-1 : Int) == 1 && items.size == items.size) = true) := by
    intro q
    rw [Bool.and_eq_true, Bool.and_eq_true] at q
    exact absurd q.1.2 (by decide)
  show wpAny _ _ (if ((((items.size : Int) - 1) == 0 && (-1 : Int) == 1 && items.size == items.size) = true) then _ else _) _ _ s
  rw [if_neg hno, pick_rev]
  first
    | exact wpAny_bind (m := Builtin.Tuple.tupleExact _) (wpAny_newObj_type (wpAny_pure ⟨_, rfl, wpAny_pure h⟩) htake)
    | exact wpAny_bind (m := Builtin.Tuple.tupleExact _) (wpAny_newObj_type (wpAny_bind (wpAny_pure (wpAny_pure ⟨_, rfl, wpAny_pure h⟩))) htake)
    | exact wpAny_bind (wpAny_bind (m := Builtin.Tuple.tupleExact _) (wpAny_newObj_type (wpAny_pure (wpAny_pure ⟨_, rfl, wpAny_pure h⟩)) htake))
    | exact wpAny_bind (wpAny_bind (m := Builtin.Tuple.tupleExact _) (wpAny_newObj_type (wpAny_pure ⟨_, rfl, wpAny_pure h⟩) htake))
end
end HT2
namespace PM
open PySem PySem.Spec PyProof.Rows
open L2 hiding St
variable [TC]
section
variable {J : Jx} {X : Cx} {T : Tb} {orc : Orc}
/-- x[::-1] -/
theorem pe_rev {e : Expr} {A : E} {k : Nat} {p1z p2z p3z pos : Pos} (hG : J.G = Cxg X T) (ha : pO X J orc e A) : pE X J orc (.Subscript e (.Slice none none (some (.UnaryOp .USub (.Constant (.int 1) k p1z) p2z)) p3z) pos) (.rev A) := by
  refine ⟨fun pins s σ H Q I ⟨en, O, E, kk⟩ => ?_⟩
  simp only [evE, endz_bnd] at kk
  refine Subscript_ (one_ok ha I E kk fun x en2z u v s1z H1z O1 kk I1z r1z hx E1 st => ?_)
  have hst : PO X (some (.UnaryOp .USub (.Constant (.int 1) k p1z) p2z)) (tPart (tUn (rU fun i => .int (-i)) (tC (.int 1)))) := po_some (pe_un un_neg L2.pe_int)
  refine wpAny_Slice (thn (po_none.run pins s1z σ H1z (fun o H2z => o = none ∧ H2z = H1z) I1z ⟨rfl, rfl⟩) fun vl s2z ⟨l, H2z, I2z, pl, el, e2z⟩ => ?_)
  subst el e2z
  refine thn (po_none.run pins s2z σ H2z (fun o H3z => o = none ∧ H3z = H2z) I2z ⟨rfl, rfl⟩) fun vu s3z ⟨u', H3z, I3z, pu, eu, e3z⟩ => ?_
  subst eu e3z
  refine thn (hst.run pins s3z σ H3z (fun o H4z => o = some (-1) ∧ H4z = H3z) I3z ⟨1, rfl, -1, rfl, rfl, rfl⟩) fun vs s4z ⟨o, H4z, I4z, ps, eo, e4z⟩ => ?_
  subst eo e4z
  cases pl
  cases pu
  have I5z : Inv X pins σ H4z { s4z with heap := s4z.heap.push { cls := .type "slice", data := .fields #[.none, .none, vs] } } := I4z.kept (t' := s4z.toks) fun b ob q => Heap.get?_push_of_some _ q
  show wpAny (model X.prog X.w) X.A (subscriptTail e (.Slice none none (some (.UnaryOp .USub (.Constant (.int 1) k p1z) p2z)) p3z) u (.ref s4z.heap.objs.size)) (EP X pins σ Q) X.xe { s4z with heap := s4z.heap.push { cls := .type "slice", data := .fields #[.none, .none, vs] } }
  split at kk
  · rename_i ds ed
    have fx := hx _ ed
    rw [hG] at fx
    obtain ⟨a, xs, rfl, h1z, f⟩ := fx.lst
    cases r1z
    obtain ⟨its, r, ht, hz⟩ := I5z.list (xs := xs) (a := a) (.inl h1z)
    have hlen := r.length
    refine tail_any (ops := [.ref a, .ref s4z.heap.objs.size]) ht.isList.typeIs (PySem.slot_list_getitem.lookup) ?_ (by with_unfolding_all rfl)
    refine done2 (r := .lst (ds.reverse.map .frz)) hG E1 st kk ?_
    refine wpAny_getItem_list_slice ht.isList (Heap.IsSliceOf.new _ .none .none vs) .none .none ps (by decide) ?_ (by rw [List.size_toArray]; omega)
    rw [PySem.W.krv_pick]
    refine ⟨.ref _, _, I5z.laid (t' := s4z.toks) (o := .lst xs.reverse) (fun b ob q => Heap.get?_push_of_some _ q) (Nat.le_refl _) ?_, rfl, nq_lst (I5z.hok.fresh (Nat.le_refl _)) f.reverse⟩
    exact ⟨by rw [List.length_reverse]; exact hz, _, 0, r.reverse, Heap.get?_push_size _ rfl⟩
  · rename_i ds ed
    have fx := hx _ ed
    rw [hG] at fx
    obtain ⟨a, xs, rfl, h1z, f⟩ := fx.tup
    cases r1z
    obtain ⟨its, r, ht, hz⟩ := I5z.tuple h1z
    have hlen := r.length
    refine tail_any (ops := [.ref a, .ref s4z.heap.objs.size]) ht.typeIs (PyProof.Rows.slot_tuple_getitem.lookup) ?_ (by with_unfolding_all rfl)
    refine done2 (r := .frz (.tup ds.reverse)) hG E1 st kk ?_
    refine HT2.getItem_tuple_rev ht (Heap.IsSliceOf.new _ .none .none vs) ps ?_ (by rw [List.size_toArray]; omega)
    refine ⟨.ref _, _, I5z.laid (t' := s4z.toks) (o := .tup xs.reverse) (fun b ob q => Heap.get?_push_of_some _ q) (Nat.le_refl _) ?_, rfl, nq_tup (I5z.hok.fresh (Nat.le_refl _)) f.reverse⟩
    exact ⟨by rw [List.length_reverse]; exact hz, _, r.reverse, IsTup.new _ _⟩
  · exact kk.elim
/-! ## methods of texts -/
def Met.nm : Met → Str
  | .join => "join" | .split => "split" | .partition => "partition"
theorem met_join {pins : List (Addr × Obj)} {s : Shared} {σ : L2.St} {H : Hp} (I : Inv X pins σ H s) {a b : D} {r : OV} {v w : V} {u z : Value} (ha : Opr (Cxg X T) H a v) (hb : Opr (Cxg X T) H b w) (ra : RelV v u) (rb : RelV w z) (e : opMet1 .join a b = some r) :
    (∃ x, v = .str x) ∧ wpAny (model X.prog X.w) X.A (call (.builtin "str.join") (u :: [z])) (EP X pins σ (NRq (Cxg X T) H r)) X.xe s := by
  cases a with
  | str a =>
    have := ha.str
    subst this
    refine ⟨⟨_, rfl⟩, ?_⟩
    cases b with
    | lst ds =>
      simp only [opMet1] at e
      obtain ⟨ys, e1z, e⟩ := Option.bind_eq_some_iff.mp e
      obtain ⟨hc, rfl⟩ := gd_some.mp e
      obtain ⟨p, xs, rfl, h1z, f⟩ := hb.lst
      exact mt_join pins s σ H _ _ _ _ _ I ra (.cons rb .nil) ⟨_, p, ys, rfl, rfl, .inl (.inl (by rw [← fzL_strs f e1z]; exact h1z)), hc, nq_str⟩
    | tup ds =>
      simp only [opMet1] at e
      obtain ⟨ys, e1z, e⟩ := Option.bind_eq_some_iff.mp e
      obtain ⟨hc, rfl⟩ := gd_some.mp e
      obtain ⟨p, xs, rfl, h1z, f⟩ := hb.tup
      exact mt_join pins s σ H _ _ _ _ _ I ra (.cons rb .nil) ⟨_, p, ys, rfl, rfl, .inr (by rw [← fzL_strs f e1z]; exact h1z), hc, nq_str⟩
    | _ => simp [opMet1] at e
  | _ => simp [opMet1] at e
theorem new_strs {pins : List (Addr × Obj)} {s : Shared} {σ : L2.St} {H : Hp} {ys : List Str} : rNewStrs ys H (NRq (Cxg X T) H (.lst (ys.map fun x => .frz (.str x)))) := by
  unfold rNewStrs
  intro p np
  have := nq_lst (G := Cxg X T) np (fzL_of_strs (H := H) ys)
  rw [List.map_map] at this
  exact this
theorem met_split {pins : List (Addr × Obj)} {s : Shared} {σ : L2.St} {H : Hp} (I : Inv X pins σ H s) {a b : D} {r : OV} {v w : V} {u z : Value} (ha : Opr (Cxg X T) H a v) (hb : Opr (Cxg X T) H b w) (ra : RelV v u) (rb : RelV w z) (e : opMet1 .split a b = some r) :
    (∃ x, v = .str x) ∧ wpAny (model X.prog X.w) X.A (call (.builtin "str.split") (u :: [z])) (EP X pins σ (NRq (Cxg X T) H r)) X.xe s := by
  cases a with
  | str a =>
    have := ha.str
    subst this
    refine ⟨⟨_, rfl⟩, ?_⟩
    cases b with
    | str b =>
      have := hb.str
      subst this
      simp only [opMet1] at e
      obtain ⟨hc, rfl⟩ := gd_some.mp e
      exact mt_split pins s σ H _ _ _ _ _ I ra (.cons rb .nil) ⟨_, _, rfl, rfl, by simpa using hc.1, hc.2, new_strs (pins := pins) (s := s) (σ := σ)⟩
    | _ => simp [opMet1] at e
  | _ => simp [opMet1] at e
def Met.id : Met → String
  | .join => "str.join" | .split => "str.split" | .partition => "str.partition"
theorem met_ok {pins : List (Addr × Obj)} {s : Shared} {σ : L2.St} {H : Hp} (I : Inv X pins σ H s) {m : Met} {a b : D} {r : OV} {v w : V} {u z : Value} (ha : Opr (Cxg X T) H a v) (hb : Opr (Cxg X T) H b w) (ra : RelV v u) (rb : RelV w z) (e : opMet1 m a b = some r) :
    (∃ x, v = .str x) ∧ wpAny (model X.prog X.w) X.A (call (.builtin m.id) (u :: [z])) (EP X pins σ (NRq (Cxg X T) H r)) X.xe s := by
  cases m with
  | join => exact met_join I ha hb ra rb e
  | split => exact met_split I ha hb ra rb e
  | partition => cases a <;> cases b <;> simp [opMet1] at e
theorem Met.slot : ∀ m : Met, m ≠ .partition → Slot "str" m.nm m.id
  | .join, _ => F.slot_str_join
  | .split, _ => F.slot_str_split
  | .partition, h => absurd rfl h
theorem Met.ty : ∀ m : Met, m ≠ .partition → typeOf (.builtin m.id) = pure (.type "method_descriptor")
  | .join, _ => F.type_str_join
  | .split, _ => F.type_str_split
  | .partition, h => absurd rfl h
/-- o.m(e), o a text -/
theorem pe_met {o e : Expr} {A B : E} {m : Met} {apos pos : Pos} (hG : J.G = Cxg X T) (hm : m ≠ .partition) (ho : pO X J orc o A) (he : pO X J orc e B)
    (hs : starEach [e] X.env = [(false, eval e X.env)] := by rfl) (hbase : attributeBase o m.nm X.env (eval o X.env) = eval o X.env := by rfl) (hline : (apos.endLine == pos.line) = true := by rfl) : pE X J orc (.Call (.Attribute o m.nm apos) [e] [] pos) (.met1 m A B) := by
  refine ⟨fun pins s σ H Q I ⟨en, O, E, k⟩ => ?_⟩
  simp only [evE, endz_bnd] at k
  refine PySem.Call_method1 hbase hs hline (runO ho I E k fun x en1z u s1z v H1z O1 as1z k1z I1z r1z d1z => ?_)
  split at k1z
  · rename_i z
    have hv := d1z.ov
    simp only [Hold, Ov, Fz] at hv
    obtain ⟨rfl, rfl⟩ := hv
    obtain ⟨t, rfl⟩ := id r1z
    simp only [endz_bnd] at k1z
    refine ⟨"str", _, F.plainAttrs_str, m.slot hm, m.ty hm, typeIs_str _ _ _, (fun _ e => nomatch e), Calls.callWith_builtin rfl (Calls.evalArgs_plain (Calls.spliced_cons ?_))⟩
    refine one_ok he I1z d1z.eo (k1z.imp (fun _ _ h => h) fun _ _ _ h => XW.trans d1z.st.right h) fun y en2z u2z w s2z H2z O2 k2z I2z r2z hy E2 st => Calls.spliced_nil ?_
    obtain ⟨b, eb, k2z⟩ := end_one k2z
    rw [endz_of] at k2z
    obtain ⟨r, er, k2z⟩ := k2z
    have hy := hy b eb
    rw [hG] at hy
    exact done2 hG E2 (d1z.st.right.trans st) k2z (met_ok I2z (.inl (by simp [Fz])) hy r1z r2z er).2
  · exact k1z.elim
/-- {x} in an f-string -/
theorem pe_fmt {e : Expr} {A : E} {pos : Pos} (hG : J.G = Cxg X T) (he : pO X J orc e A) : pE X J orc (.FormattedValue e (-1) none pos) (.fmt A) := by
  refine ⟨fun pins s σ H Q I ⟨en, O, E, k⟩ => ?_⟩
  simp only [evE, endz_bnd] at k
  refine wpAny_FormattedValue_plain (one_ok he I E k fun x en1z u v s1z H1z O1 k1z I1z r1z hx E1 st => ?_)
  split at k1z
  · rename_i y ey
    rw [endz_ite', endz_ok] at k1z
    have hx := hx _ ey
    rw [hG] at hx
    rw [hx.str] at r1z
    obtain ⟨t, rfl⟩ := r1z
    have fin := k1z.2 (.str y) H1z O1 [] ⟨st, E1, by simp [Ov, Fz], E1.nd⟩
    exact wpAny_formatField_str ⟨.str y, H1z, I1z, ⟨t, rfl⟩, fin⟩ ⟨.str y, H1z, I1z.tok _, ⟨_, rfl⟩, fin⟩ k1z.1
  · rename_i i ei
    rw [endz_ite', endz_ok] at k1z
    have hx := hx _ ei
    rw [hG] at hx
    rw [hx.int] at r1z
    obtain ⟨t, rfl⟩ := r1z
    exact wpAny_formatField_int k1z.1 ⟨.str (toString i : String), H1z, I1z.tok _, ⟨_, rfl⟩, k1z.2 _ H1z O1 [] ⟨st, E1, by simp [Ov, Fz], E1.nd⟩⟩
  · exact k1z.elim
theorem pe_joined1 {e : Expr} {A : E} {pos : Pos} (h : pE X J orc e A) : pE X J orc (.JoinedStr [e] pos) A := L2.pe_joined1 h
/-- the parts of an f-string -/
def pJ (X : Cx) (J : Jx) (orc : Orc) (es : List Expr) (A : Es) : Prop := ∀ (pins : List (Addr × Obj)) (σ : L2.St) (acc : Str) (s : Shared) (H : Hp) (en : En) (O : List Addr) (R : Str → Shared → Prop) (k : Str → En → Prop), acc.length ≤ sizeLine → Inv X pins σ H s → EO J.G J.LV H en σ O →
  Endz (evJ orc A acc en) k (XW J σ O H) → (∀ out s1z H1z O1 en1z, out.length ≤ sizeLine → Inv X pins σ H1z s1z → Step O H O1 H1z → EO J.G J.LV H1z en1z σ O1 → k out en1z → R out s1z) → Joins (model X.prog X.w) X.A X.xe (evalEach es X.env) acc R s
theorem pj_nil : pJ X J orc [] .nil := by
  intro pins σ acc s H en O R k hz I E ez hq
  have e0z : evalEach [] X.env = [] := by first | rfl | simp [evalEach]
  rw [e0z]
  simp only [evJ, endz_ok] at ez
  exact hq acc s H O en hz I Step.refl E ez
theorem pj_cons {e : Expr} {es : List Expr} {A : E} {B : Es} (h : pE X J orc e A) (hr : pJ X J orc es B) : pJ X J orc (e :: es) (.cons A B) := by
  intro pins σ acc s H en O R k hz I E ez hq
  have e0z : evalEach (e :: es) X.env = eval e X.env :: evalEach es X.env := by first | rfl | simp [evalEach]
  rw [e0z]
  simp only [evJ, endz_bnd] at ez
  refine runE h I E ez fun o en1z u s1z v H1z O1 as1z k1z I1z r1z d1z => ?_
  split at k1z
  · rename_i y
    rw [endz_ite'] at k1z
    have hv := d1z.ov
    simp only [Ov, Fz] at hv
    obtain ⟨rfl, rfl⟩ := hv
    obtain ⟨tk, rfl⟩ := r1z
    have st1z : Step O H O1 H1z := d1z.st
    exact ⟨y, tk, rfl, k1z.1, hr pins σ (acc ++ y) s1z H1z en1z O1 R k k1z.1 I1z d1z.eo (k1z.2.imp (fun _ _ h => h) fun _ _ _ h => XW.trans st1z h) fun out s2z H2z O2 en2z hz2z I2z st2z E2 k2z => hq out s2z H2z O2 en2z hz2z I2z (st1z.trans st2z) E2 k2z⟩
  · exact k1z.elim
theorem pe_fst {v1z v2z : Expr} {rest : List Expr} {A : Es} {pos : Pos} (h : pJ X J orc (v1z :: v2z :: rest) A) : pE X J orc (.JoinedStr (v1z :: v2z :: rest) pos) (.fst A) := by
  refine ⟨fun pins s σ H Q I ⟨en, O, E, k⟩ => ?_⟩
  simp only [evE, endz_bnd, endz_ok] at k
  exact wpAny_JoinedStr (h pins σ Str.empty s H en O _ _ (Nat.zero_le _) I E k fun out s1z H1z O1 en1z hz I1z st E1 kk => ⟨hz, .str out, H1z, I1z.tok _, ⟨_, rfl⟩, kk _ H1z O1 [] ⟨st, E1, by simp [Ov, Fz], E1.nd⟩⟩)
end
end PM

namespace PM
open PySem PySem.Spec PyProof.Rows
open L2 hiding St
variable [TC]

/-- the iterator yields these, whatever comes to the heap -/
structure Wk (G : GT) (It : L2.It) (ds : List D) (H : Hp) : Prop where
  go : ∀ i d H', FP H H' → ds[i]? = some d → It.go i H'
  yld : ∀ i d H' x H2z, FP H H' → ds[i]? = some d → It.yld i H' x H2z → Keep [] H' H2z ∧ Dom H' H2z ∧ Fz G H2z d x
  stop : ∀ H', FP H H' → It.stop ds.length H'
theorem fzL_len {G : GT} {H : Hp} {ds : List D} {xs : List V} {i : Nat} (f : FzL G H ds xs) (h : ds[i]? = none) : xs[i]? = none := by
  rw [List.getElem?_eq_none_iff] at h ⊢
  rw [f.length]; exact h
theorem wk_list {G : GT} {H : Hp} {a : Addr} {xs : List V} {ds : List D} (h : FLs G.K H a xs) (f : FzL G H ds xs) : Wk G (Itl G.K a) ds H where
  go := fun i d H' fp e => by
    obtain ⟨x, hx, _⟩ := f.get e
    exact ⟨xs, x, (fp.fls h).sql, hx⟩
  yld := fun i d H' x H2z fp e y => by
    obtain ⟨rfl, y⟩ := y
    obtain ⟨x', hx, fx⟩ := f.get e
    have := y xs (fp.fls h).sql
    rw [hx] at this
    cases this
    exact ⟨.refl, .refl _, Fz.mono fp _ _ fx⟩
  stop := fun H' fp => ⟨xs, (fp.fls h).sql, by rw [f.length]; exact Nat.le_refl _⟩
theorem wk_tup {G : GT} {H : Hp} {a : Addr} {xs : List V} {ds : List D} (h : SqT G.K H a xs) (f : FzL G H ds xs) : Wk G (Itt G.K a) ds H where
  go := fun i d H' fp e => by
    obtain ⟨x, hx, _⟩ := f.get e
    exact ⟨xs, x, fp.sqt h, hx⟩
  yld := fun i d H' x H2z fp e y => by
    obtain ⟨rfl, y⟩ := y
    obtain ⟨x', hx, fx⟩ := f.get e
    have := y xs (fp.sqt h)
    rw [hx] at this
    cases this
    exact ⟨.refl, .refl _, Fz.mono fp _ _ fx⟩
  stop := fun H' fp => ⟨xs, fp.sqt h, by rw [f.length]; exact Nat.le_refl _⟩
theorem wk_str {G : GT} {H : Hp} {x : Str} : Wk G (Its x) (x.cps.toList.map oneS) H where
  go := fun i d H' fp e => by
    rw [List.getElem?_map, Option.map_eq_some_iff] at e
    obtain ⟨c, e, _⟩ := e
    obtain ⟨h, _⟩ := List.getElem?_eq_some_iff.mp e
    rw [Array.length_toList] at h
    exact h
  yld := fun i d H' y H2z fp e hy => by
    obtain ⟨rfl, c, e1z, rfl⟩ := hy
    rw [List.getElem?_map, Array.getElem?_toList, e1z] at e
    cases e
    exact ⟨.refl, .refl _, by simp [oneS, Fz]⟩
  stop := fun H' fp => by
    show x.cps.size ≤ _
    simp
theorem wk_range {G : GT} {H : Hp} {m : Int} {n : Nat} : Wk G (Itr m n) ((List.range n).map fun (i : Nat) => .int (m + (i : Int))) H where
  go := fun i d H' fp e => by
    rw [List.getElem?_map, Option.map_eq_some_iff] at e
    obtain ⟨c, e, _⟩ := e
    obtain ⟨h, _⟩ := List.getElem?_eq_some_iff.mp e
    rw [List.length_range] at h
    exact h
  yld := fun i d H' y H2z fp e hy => by
    obtain ⟨rfl, rfl⟩ := hy
    rw [List.getElem?_map, Option.map_eq_some_iff] at e
    obtain ⟨c, e, rfl⟩ := e
    obtain ⟨h, e⟩ := List.getElem?_eq_some_iff.mp e
    rw [List.getElem_range] at e
    subst e
    exact ⟨.refl, .refl _, by simp [Fz]⟩
  stop := fun H' fp => by show n ≤ _; simp
theorem wk_enum {G : GT} {H : Hp} {a : Addr} {xs : List V} {ds : List D} (h : FLs G.K H a xs) (f : FzL G H ds xs) : Wk G (Ite G.K a) (ds.zipIdx.map fun p => .tup [.int (p.2 : Int), p.1]) H where
  go := fun i d H' fp e => by
    rw [List.getElem?_map, Option.map_eq_some_iff] at e
    obtain ⟨p, e, _⟩ := e
    rw [List.getElem?_zipIdx, Option.map_eq_some_iff] at e
    obtain ⟨d', e, _⟩ := e
    obtain ⟨x, hx, _⟩ := f.get e
    exact ⟨xs, x, (fp.fls h).sql, hx⟩
  yld := fun i d H' y H2z fp e hy => by
    obtain ⟨q, x, rfl, n, rfl, hy⟩ := hy
    rw [List.getElem?_map, Option.map_eq_some_iff] at e
    obtain ⟨p, e, rfl⟩ := e
    rw [List.getElem?_zipIdx, Option.map_eq_some_iff] at e
    obtain ⟨d', e, rfl⟩ := e
    obtain ⟨x', hx, fx⟩ := f.get e
    have := hy xs (fp.fls h).sql
    rw [hx] at this
    cases this
    refine ⟨keep_new n, Dom.new n, ?_⟩
    simp only [Fz]
    refine ⟨q, _, rfl, SqT.of upd_same, ?_⟩
    simp only [Nat.zero_add]
    exact FzL.cons (by simp [Fz]) (FzL.one (Fz.mono (fp.trans (fp_new n)) _ _ fx))
  stop := fun H' fp => ⟨xs, (fp.fls h).sql, by rw [f.length]; simp⟩
theorem wk_zip {G : GT} {H : Hp} {a b : Addr} {xs ys : List V} {ds es : List D} (h : FLs G.K H a xs) (h' : FLs G.K H b ys) (f : FzL G H ds xs) (g : FzL G H es ys) : Wk G (Itz G.K a b) ((ds.zip es).map fun p => .tup [p.1, p.2]) H where
  go := fun i d H' fp e => by
    rw [List.getElem?_map, Option.map_eq_some_iff] at e
    obtain ⟨p, e, _⟩ := e
    rw [List.getElem?_zip_eq_some] at e
    obtain ⟨x, hx, _⟩ := f.get e.1
    obtain ⟨y, hy, _⟩ := g.get e.2
    exact ⟨xs, ys, x, y, (fp.fls h).sql, (fp.fls h').sql, hx, hy⟩
  yld := fun i d H' y H2z fp e hy => by
    obtain ⟨q, x, y', rfl, n, rfl, h1z, h2z⟩ := hy
    rw [List.getElem?_map, Option.map_eq_some_iff] at e
    obtain ⟨p, e, rfl⟩ := e
    rw [List.getElem?_zip_eq_some] at e
    obtain ⟨x1z, e1z, fx⟩ := f.get e.1
    obtain ⟨y1z, e2z, fy⟩ := g.get e.2
    have h1z := h1z xs (fp.fls h).sql
    have h2z := h2z ys (fp.fls h').sql
    rw [e1z] at h1z; rw [e2z] at h2z
    cases h1z; cases h2z
    refine ⟨keep_new n, Dom.new n, ?_⟩
    simp only [Fz]
    exact ⟨q, _, rfl, SqT.of upd_same, FzL.cons (Fz.mono (fp.trans (fp_new n)) _ _ fx) (FzL.one (Fz.mono (fp.trans (fp_new n)) _ _ fy))⟩
  stop := fun H' fp => ⟨xs, ys, (fp.fls h).sql, (fp.fls h').sql, by rw [f.length, g.length]; simp; omega⟩
theorem wk_zipT {G : GT} {H : Hp} {a b : Addr} {xs ys : List V} {ds es : List D} (h : SqT G.K H a xs) (h' : SqT G.K H b ys) (f : FzL G H ds xs) (g : FzL G H es ys) : Wk G (RZ.ItzT G.K a b) ((ds.zip es).map fun p => .tup [p.1, p.2]) H where
  go := fun i d H' fp e => by
    rw [List.getElem?_map, Option.map_eq_some_iff] at e
    obtain ⟨p, e, _⟩ := e
    rw [List.getElem?_zip_eq_some] at e
    obtain ⟨x, hx, _⟩ := f.get e.1
    obtain ⟨y, hy, _⟩ := g.get e.2
    exact ⟨xs, ys, x, y, fp.sqt h, fp.sqt h', hx, hy⟩
  yld := fun i d H' y H2z fp e hy => by
    obtain ⟨q, x, y', rfl, n, rfl, h1z, h2z⟩ := hy
    rw [List.getElem?_map, Option.map_eq_some_iff] at e
    obtain ⟨p, e, rfl⟩ := e
    rw [List.getElem?_zip_eq_some] at e
    obtain ⟨x1z, e1z, fx⟩ := f.get e.1
    obtain ⟨y1z, e2z, fy⟩ := g.get e.2
    have h1z := h1z xs (fp.sqt h)
    have h2z := h2z ys (fp.sqt h')
    rw [e1z] at h1z; rw [e2z] at h2z
    cases h1z; cases h2z
    refine ⟨keep_new n, Dom.new n, ?_⟩
    simp only [Fz]
    exact ⟨q, _, rfl, SqT.of upd_same, FzL.cons (Fz.mono (fp.trans (fp_new n)) _ _ fx) (FzL.one (Fz.mono (fp.trans (fp_new n)) _ _ fy))⟩
  stop := fun H' fp => ⟨xs, ys, fp.sqt h, fp.sqt h', by rw [f.length, g.length]; simp; omega⟩

/-! ## the keys of a dict that stays -/
def Itdk (K : PySem.W.Frag) (d : Addr) (o : Obj) (es : Array DictEntry) : L2.It :=
  ⟨fun i H => KnO K H d o ∧ i < es.size, fun i H x H' => H' = H ∧ ∃ e, es[i]? = some e ∧ RelV x e.key, fun i H => KnO K H d o ∧ es.size ≤ i⟩
/-- the entries' keys are values -/
def KeyV (es : Array DictEntry) : Prop := ∀ (i : Nat) (e : DictEntry), es[i]? = some e → ∃ x, RelV x e.key
theorem turn_dk {P : Program} {w : World} {K : PySem.W.Frag} {tg : Expr} {d : Addr} {o : Obj} {es : Array DictEntry} {ep : Nat} (it : Addr) (hod : o.data = .dict es ep) (kv : KeyV es) : Turn P w K tg (Itdk K d o es) [it] it (fun i h => h.IsKeyIter it d i es.size ep) where
  mem := by simp
  obj := fun i h st b hb => by
    have e : b = it := by simpa using hb
    subst e
    obtain ⟨oi, e, c, dd⟩ := st
    exact ⟨oi, e, fun v z => by rw [dd] at z; cases z⟩
  keep := fun i h h' st k => st.at fun oi e => k it (by simp) oi e
  item := by
    intro X hP hw hK hc i pins s σ H E I hf st hg
    subst hP hw hK
    obtain ⟨hd, hi⟩ := hg
    obtain ⟨f0z, f1z, f2z, f3z, f4z, f5z⟩ := hf it (by simp)
    have hgd := hd.at I.hok I.kIn
    have hen : es[i]? = some es[i] := Array.getElem?_eq_getElem hi
    obtain ⟨x, rx⟩ := kv i _ hen
    refine next_key_item st hgd hod rfl hen fun h' st' sb => ?_
    have I1z : Inv X pins σ H { s with heap := h' } := I.turned (t' := s.toks) (fun b ob hb e => (sb.2 b hb).trans e) f0z f1z f3z f4z f5z
    obtain ⟨oi, e, c, dd⟩ := id st'
    exact ⟨es[i].key, rfl, go_of (s := { s with heap := h' }) e c dd (by decide) ⟨x, H, I1z, rx, ⟨rfl, _, hen, rx⟩, st', fun b hb => (hf b hb).1⟩⟩
  done := by
    intro X hP hw hK hc i pins s σ H E I hf st hg
    subst hP hw hK
    obtain ⟨hd, hi⟩ := hg
    obtain ⟨f0z, f1z, f2z, f3z, f4z, f5z⟩ := hf it (by simp)
    exact next_key_end (I.ok.hd hc) st (hd.at I.hok I.kIn) hod rfl hi fun h' eb => ⟨rfl, I.turned (t' := s.toks) (fun b ob hb e => eb b ob hb e) f0z f1z f3z f4z f5z⟩
  self := fun A i s Q E st h => by
    refine wpAny_pyIter_slot st.typeIs F.slot_dict_keyiterator_iter (wpAny_call_entry F.slot_dict_keyiterator_iter st.typeIs F.entry_dict_keyiterator_iter ?_ (F.args_dict_keyiterator_iter_1 _))
    show wpAny _ _ (ret (.ref it)) _ _ s
    exact wpAny_pure ⟨_, rfl, "dict_keyiterator", _, st.typeIs, F.slot_dict_keyiterator_next.lookup, h⟩
theorem FzKV.get {G : GT} {H : Hp} : ∀ {kvs : List (D × D)} {es : List DictEntry} {i : Nat} {e : DictEntry}, FzKV G H kvs es → es[i]? = some e → ∃ p kv, kvs[i]? = some p ∧ RelV kv e.key ∧ Fz G H p.1 kv
  | [], es, i, e, f, h => by simp only [FzKV] at f; subst f; simp at h
  | (k, d) :: r, es, 0, e, f, h => by
    simp only [FzKV] at f
    obtain ⟨en, s, kv, vv, nk, rfl, h1z, h2z, h3z, h4z, h5z, h6z, h7z, h8z⟩ := f
    simp at h; subst h
    exact ⟨(k, d), kv, rfl, h3z, h4z⟩
  | (k, d) :: r, es, i + 1, e, f, h => by
    simp only [FzKV] at f
    obtain ⟨en, s, kv, vv, nk, rfl, h1z, h2z, h3z, h4z, h5z, h6z, h7z, h8z⟩ := f
    exact FzKV.get (i := i) h8z (by simpa using h)
theorem wk_keys {G : GT} {H : Hp} {a : Addr} {o : Obj} {kvs : List (D × D)} {es : Array DictEntry} (h : KnO G.K H a o) (f : FzKV G H kvs es.toList) : Wk G (Itdk G.K a o es) (kvs.map (·.1)) H where
  go := fun i d H' fp e => by
    refine ⟨fp.kno h, ?_⟩
    have hl := f.length
    obtain ⟨h, _⟩ := List.getElem?_eq_some_iff.mp e
    rw [List.length_map, ← hl, Array.length_toList] at h
    exact h
  yld := fun i d H' x H2z fp e y => by
    obtain ⟨rfl, en, e1z, rx⟩ := y
    obtain ⟨p, kv, e2z, e3z, e4z⟩ := f.get (i := i) (e := en) (by rw [Array.getElem?_toList]; exact e1z)
    rw [List.getElem?_map, e2z] at e
    cases e
    rw [rx.inj e3z]
    exact ⟨.refl, .refl _, Fz.mono fp _ _ e4z⟩
  stop := fun H' fp => ⟨fp.kno h, by have := f.length; rw [Array.length_toList] at this; rw [List.length_map, this]; exact Nat.le_refl _⟩

section
variable (J : Jx)
def tI (F : En → Out (List D)) : TI := fun σ H R => ∃ en O, EO J.G J.LV H en σ O ∧ Endz (F en) (fun ds en' => ∀ It H' O', Step O H O' H' → EO J.G J.LV H' en' σ O' → Wk J.G It ds H' → R It H') (XW J σ O H)
end
section
variable {J : Jx} {X : Cx} {T : Tb} {orc : Orc}
abbrev pI (X : Cx) (J : Jx) (orc : Orc) (tg iter : Expr) (A : PM.It) : Prop := PI X tg iter (tI J (evI orc A))
theorem tz_exc {F : En → Out OV} {σ : L2.St} {H : Hp} {en : En} {O : List Addr} {Q : VK} (E : EO J.G J.LV H en σ O) {c : Nat} {p : D} {en' : En} (hF : F en = .exc c p en') (k : XW J σ O H c p en') : tZ J F σ H Q := ⟨en, O, E, by rw [hF]; exact k⟩
theorem tz_ok {F : En → Out OV} {σ : L2.St} {H : Hp} {en : En} {O : List Addr} {Q : VK} (E : EO J.G J.LV H en σ O) {o : OV} {en1z : En} (hF : F en = .ok o en1z) (hc : o.cool = true) (h : ∀ v H' O', FD J σ O H o.d en1z v H' O' → Q v H') : tZ J F σ H Q := ⟨en, O, E, by rw [hF]; exact ⟨hc, h⟩⟩
theorem pi_val {tg iter : Expr} {A : E} (hG : J.G = Cxg X T) (h : pE X J orc iter A) : pI X J orc tg iter (.val A) := by
  refine ⟨fun pins s σ H R I ⟨en, O, E, k⟩ => ?_⟩
  simp only [evI, endz_bnd, endz_ite, endz_of] at k
  have hK : J.G.K = X.K := by rw [hG]
  cases hF : evE orc A en with
  | bad => rw [hF] at k; exact k.elim
  | exc c p en' =>
    rw [hF] at k
    have := (L2.pi_list (tg := tg) (pz h)).run pins s σ H R I
    exact this ⟨en, O, E, by rw [hF]; exact k⟩
  | ok o en1z =>
    rw [hF] at k
    obtain ⟨hc, ds, hi, k⟩ := k
    cases hd : o.d with
    | tup ds' =>
      rw [hd] at hi
      cases hi
      refine (L2.pi_tup (tg := tg) (pz h)).run pins s σ H R I (tz_ok E hF hc fun v H' O' d => ?_)
      have f := d.fz
      rw [hd] at f
      simp only [Fz] at f
      obtain ⟨a, xs, rfl, h1z, f⟩ := f
      refine ⟨a, rfl, ⟨xs, by rw [← hK]; exact h1z⟩, ?_⟩
      rw [← hK]
      exact k _ H' O' d.st d.eo (wk_tup h1z f)
    | lst ds' =>
      rw [hd] at hi
      cases hi
      refine (L2.pi_list (tg := tg) (pz h)).run pins s σ H R I (tz_ok E hF hc fun v H' O' d => ?_)
      have f := d.fz
      rw [hd] at f
      simp only [Fz] at f
      obtain ⟨a, xs, rfl, h1z, f⟩ := f
      refine ⟨a, rfl, ⟨xs, by rw [← hK]; exact h1z.sql⟩, ?_⟩
      rw [← hK]
      exact k _ H' O' d.st d.eo (wk_list h1z f)
    | str x =>
      rw [hd] at hi
      cases hi
      refine (L2.pi_str (tg := tg) (pz h)).run pins s σ H R I (tz_ok E hF hc fun v H' O' d => ?_)
      have f := d.fz
      rw [hd] at f
      simp only [Fz] at f
      exact ⟨x, f, k _ H' O' d.st d.eo wk_str⟩
    | dic kvs =>
      rw [hd] at hi
      cases hi
      refine thn ((pz h).run pins s σ H (fun v H' => ∃ O', FD J σ O H o.d en1z v H' O') I (tz_ok E hF hc fun v H' O' d => ⟨O', d⟩)) fun u s1z ⟨v, H1z, I1z, r, O', d⟩ => ?_
      have f := d.fz
      rw [hd] at f
      simp only [Fz] at f
      obtain ⟨a, ob, es, ep, rfl, h1z, h2z, h3z, h4z, h5z, h6z, h7z, h8z⟩ := f
      cases r
      have h1' : KnO X.K H1z a ob := by rw [← hK]; exact h1z
      have kv : KeyV es := fun i e he => by
        obtain ⟨p, kv, _, e3z, _⟩ := h5z.get (i := i) (e := e) (by rw [Array.getElem?_toList]; exact he)
        exact ⟨kv, e3z⟩
      refine iter_keys h2z (h1'.at I1z.hok I1z.kIn) h3z h4z (pi_one (tk := s1z.toks) I1z _ (turn_dk _ h4z kv) ⟨_, Heap.get?_push_size _ rfl, rfl, rfl⟩ ?_)
      rw [← hK]
      exact k _ H1z O' d.st d.eo (wk_keys h1z h5z)
    | _ => rw [hd] at hi; cases hi
theorem pi_enum {e : Expr} {A : E} {p pos tpos : Pos} {elts : List Expr} {kk : Nat} (hG : J.G = Cxg X T) (hg : Gl X "enumerate") (hm : X.mg "enumerate" = none) (h : pE X J orc e A) (hs : starEach [e] X.env = [(false, eval e X.env)] := by rfl) (hs1z : starEach [e] X.env = (false, eval e X.env) :: starEach [] X.env := by rfl) :
    pI X J orc (.Tuple elts kk tpos) (.Call (.Name "enumerate" p) [e] [] pos) (.enum A) := by
  refine ⟨fun pins s σ H R I ⟨en, O, E, k⟩ => ?_⟩
  simp only [evI, endz_bnd, endz_ite] at k
  have hK : J.G.K = X.K := by rw [hG]
  refine (L2.pi_enum hg hm (L2.pa_cons (pz h) L2.pa_nil hs1z) hs).run pins s σ H R I ⟨en, O, E, k.imp (fun o en1z kz => ⟨kz.1, fun v H' O' d => ?_⟩) fun _ _ _ x => x⟩
  obtain ⟨_, kz⟩ := kz
  split at kz
  · rename_i ds hd
    have f := d.fz
    rw [hd] at f
    simp only [Fz] at f
    obtain ⟨a, xs, rfl, h1z, f⟩ := f
    refine ⟨a, xs, rfl, by rw [← hK]; exact h1z.sql, ?_⟩
    rw [← hK]
    exact kz _ H' O' d.st d.eo (wk_enum h1z f)
  · exact kz.elim
theorem pi_zip {e e2z : Expr} {A B : E} {p pos tpos : Pos} {elts : List Expr} {kk : Nat} (hG : J.G = Cxg X T) (hg : Gl X "zip") (hm : X.mg "zip" = none) (h : pE X J orc e A) (h2z : pE X J orc e2z B)
    (hs : starEach [e, e2z] X.env = (false, eval e X.env) :: starEach [e2z] X.env := by rfl) (hpl : (backTo pos (starEach [e2z] X.env)).any (·.1) = false := by rfl) (hs2z : starEach [e2z] X.env = (false, eval e2z X.env) :: starEach [] X.env := by rfl) :
    pI X J orc (.Tuple elts kk tpos) (.Call (.Name "zip" p) [e, e2z] [] pos) (.zip A B) := by
  refine ⟨fun pins s σ H R I ⟨en, O, E, k⟩ => ?_⟩
  simp only [evI, endz_bnd, endz_ite] at k
  have hK : J.G.K = X.K := by rw [hG]
  refine (RZ.pi_zipA hg hm (L2.pa_cons (pz h) (L2.pa_cons (pz h2z) L2.pa_nil hs2z) hs) hs hpl).run pins s σ H R I ⟨en, O, E, k.imp (fun o en1z kz => ⟨kz.1, fun v H' O' d => ?_⟩) fun _ _ _ x => x⟩
  obtain ⟨_, kz⟩ := kz
  refine ⟨en1z, O', d.eo, kz.imp (fun o2z en2z kz => ⟨kz.1, fun v2z H2z O2 d2z => ?_⟩) fun _ _ _ x => XW.trans d.st x⟩
  obtain ⟨_, kz⟩ := kz
  have fp := d2z.st.keep.fp d.eo.env.mut
  split at kz
  · rename_i ds es hd hd2z
    have f := d.fz
    have f2z := d2z.fz
    rw [hd] at f
    rw [hd2z] at f2z
    simp only [Fz] at f f2z
    obtain ⟨a, xs, rfl, h1z, f⟩ := f
    obtain ⟨b, ys, rfl, h2z, f2z⟩ := f2z
    refine ⟨a, b, xs, ys, rfl, .inl ⟨by rw [← hK]; exact (fp.fls h1z).sql, by rw [← hK]; exact h2z.sql, ?_⟩⟩
    rw [← hK]
    exact kz _ H2z O2 (d.st.trans d2z.st) d2z.eo (wk_zip (fp.fls h1z) h2z (FzL.mono fp _ _ f) f2z)
  · rename_i ds es hd hd2z
    have f := d.fz
    have f2z := d2z.fz
    rw [hd] at f
    rw [hd2z] at f2z
    simp only [Fz] at f f2z
    obtain ⟨a, xs, rfl, h1z, f⟩ := f
    obtain ⟨b, ys, rfl, h2z, f2z⟩ := f2z
    refine ⟨a, b, xs, ys, rfl, .inr ⟨by rw [← hK]; exact fp.sqt h1z, by rw [← hK]; exact h2z, ?_⟩⟩
    rw [← hK]
    exact kz _ H2z O2 (d.st.trans d2z.st) d2z.eo (wk_zipT (fp.sqt h1z) h2z (FzL.mono fp _ _ f) f2z)
  · exact kz.elim
theorem pi_range {tg a : Expr} {A : E} {p pos : Pos} (hg : Gl X "range") (hm : X.mg "range" = none) (h : pE X J orc a A) (hs : starEach [a] X.env = [(false, eval a X.env)] := by rfl) (hs1z : starEach [a] X.env = (false, eval a X.env) :: starEach [] X.env := by rfl) :
    pI X J orc tg (.Call (.Name "range" p) [a] [] pos) (.range A) := by
  refine ⟨fun pins s σ H R I ⟨en, O, E, k⟩ => ?_⟩
  simp only [evI, endz_bnd] at k
  refine (L2.pi_range1 hg hm (L2.pa_cons h L2.pa_nil hs1z) hs).run pins s σ H R I ⟨en, O, E, k.imp (fun o en1z kz v H' O' as d => ?_) fun _ _ _ x => x⟩
  split at kz
  · rename_i n
    rw [endz_ite', endz_ok] at kz
    have hv := d.ov
    simp only [Ov, Fz] at hv
    obtain ⟨rfl, rfl⟩ := hv
    refine ⟨n, rfl, by omega, by omega, ?_⟩
    have w := wk_range (G := J.G) (H := H') (m := 0) (n := n.toNat)
    have e : ((List.range n.toNat).map fun (i : Nat) => D.int (0 + (i : Int))) = (List.range n.toNat).map fun (i : Nat) => D.int (i : Int) := by
      apply List.map_congr_left
      intro i _
      rw [Int.zero_add]
    rw [e] at w
    exact kz.2 _ H' O' d.st d.eo w
  · exact kz.elim
theorem pi_range2 {tg a b : Expr} {A B : E} {p pos : Pos} (hg : Gl X "range") (hm : X.mg "range" = none) (h : pE X J orc a A) (h2z : pE X J orc b B) (hs : starEach [a, b] X.env = [(false, eval a X.env), (false, eval b X.env)] := by rfl) (hs2z : starEach [b] X.env = [(false, eval b X.env)] := by rfl)
    (hs3z : starEach [a, b] X.env = (false, eval a X.env) :: starEach [b] X.env := by rfl) (hs4z : starEach [b] X.env = (false, eval b X.env) :: starEach [] X.env := by rfl) :
    pI X J orc tg (.Call (.Name "range" p) [a, b] [] pos) (.range2 A B) := by
  refine ⟨fun pins s σ H R I ⟨en, O, E, k⟩ => ?_⟩
  simp only [evI, endz_bnd] at k
  refine (L2.pi_range2 hg hm (L2.pa_cons h (L2.pa_cons h2z L2.pa_nil hs4z) hs3z) hs hs2z).run pins s σ H R I ⟨en, O, E, k.imp (fun o en1z kz0z v H' O' as d => ?_) fun _ _ _ x => x⟩
  have st1z : Step O H O' H' := d.st.right
  refine ⟨en1z, O', d.eo, kz0z.imp (fun o2z en2z kz v2z H2z O2 as2z d2z => ?_) fun _ _ _ x => XW.trans st1z x⟩
  clear kz0z
  split at kz
  · rename_i m n
    rw [endz_ite', endz_ok] at kz
    have hv := d.ov
    have hv2z := d2z.ov
    simp only [Ov, Fz] at hv hv2z
    obtain ⟨rfl, rfl⟩ := hv
    obtain ⟨rfl, rfl⟩ := hv2z
    exact ⟨m, n, rfl, by omega, kz.2 _ H2z O2 (st1z.trans d2z.st) d2z.eo wk_range⟩
  · exact kz.elim
end
end PM

namespace PM
open PySem PySem.Spec PyProof.Rows
open L2 hiding St
variable [TC]

/-! ## slots -/
section
variable {G : GT} {H : Hp} {LV : Nat → Option V}
theorem cold_is {s : Sl} {sv : Option V} {as : List Addr} (h : SlIs G H s sv as) (c : s.cold = true) : as = [] := by
  cases s with
  | no => exact h
  | ov o =>
    cases o with
    | frz d => obtain ⟨v, _, h⟩ := h; simp only [Ov] at h; exact h.2
    | _ => simp [Sl.cold] at c
  | lent o => simp [Sl.cold] at c
theorem EnvIs.cold {en : En} {σ : L2.St} {O : List Addr} {i : Nat} {s s' : Sl} {sv' : Option V} (h : EnvIs G H en σ O) (e : en[i]? = some s) (c : s.cold = true) (h' : SlIs G H s' sv' []) : EnvIs G H (en.set i s') (σ.set i sv') O := by
  obtain ⟨O1, a, O2, sv, rfl, e2, h3, back⟩ := h.split e
  rw [cold_is h3 c]
  exact back H s' sv' [] (fun h _ => h) h'
theorem wipeE_get : ∀ (own : List Nat) (en : En) (j : Nat), (wipeE en own)[j]? = if j ∈ own then (en[j]?).map (fun _ => Sl.no) else en[j]?
  | [], en, j => by simp [wipeE]
  | i :: r, en, j => by
    simp only [wipeE]
    rw [List.getElem?_set]
    by_cases h : i = j
    · subst h
      have hl : (wipeE en r).length = en.length := by
        clear wipeE_get
        induction r with
        | nil => rfl
        | cons a r ih => simp only [wipeE, List.length_set, ih]
      simp only [if_true, hl, List.mem_cons, true_or]
      by_cases h2 : i < en.length
      · simp [h2]
      · simp [h2]
    · rw [if_neg h, wipeE_get r en j]
      have : (j ∈ i :: r) ↔ j ∈ r := by simp [Ne.symm h]
      simp only [this]
theorem wipe_get : ∀ (own : List Nat) (σ : L2.St) (j : Nat), (wipe σ own)[j]? = if j ∈ own then (σ[j]?).map (fun _ => none) else σ[j]?
  | [], σ, j => by simp [wipe]
  | i :: r, σ, j => by
    simp only [wipe]
    rw [List.getElem?_set]
    by_cases h : i = j
    · subst h
      have hl : (wipe σ r).length = σ.length := wipe_length σ r
      simp only [if_true, hl, List.mem_cons, true_or]
      by_cases h2 : i < σ.length
      · simp [h2]
      · simp [h2]
    · rw [if_neg h, wipe_get r σ j]
      have : (j ∈ i :: r) ↔ j ∈ r := by simp [Ne.symm h]
      simp only [this]
theorem wipe_set {σ : L2.St} {i : Nat} {x : Option V} {vs : List Nat} (h : i ∈ vs) : wipe (σ.set i x) vs = wipe σ vs := by
  apply List.ext_getElem?
  intro j
  rw [wipe_get, wipe_get]
  by_cases hj : i = j
  · subst hj
    rw [if_pos h, if_pos h, List.getElem?_set]
    simp only [if_true]
    by_cases h2 : i < σ.length
    · simp [h2]
    · simp [h2]
  · rw [List.getElem?_set_ne hj]
theorem okOwn_at {en : En} {own : List Nat} (h : okOwn en own = true) {i : Nat} (hi : i ∈ own) : ∃ s, en[i]? = some s ∧ s.cold = true := by
  unfold okOwn at h
  rw [List.all_eq_true] at h
  have := h i hi
  split at this
  · rename_i s e; exact ⟨s, e, this⟩
  · cases this
theorem EnvIs.wiped {σ : L2.St} {O : List Addr} {en : En} (h : EnvIs G H en σ O) : ∀ {own : List Nat}, okOwn en own = true → EnvIs G H (wipeE en own) (wipe σ own) O
  | [], _ => h
  | i :: r, ok => by
    have ok2 : okOwn en r = true := by
      unfold okOwn at ok ⊢
      rw [List.all_cons, Bool.and_eq_true] at ok
      exact ok.2
    obtain ⟨s, e, c⟩ := okOwn_at ok (List.mem_cons_self ..)
    have e2 := wipeE_get r en i
    simp only [wipeE, L2.wipe]
    by_cases hi : i ∈ r
    · rw [if_pos hi, e] at e2
      exact (EnvIs.wiped h ok2).cold e2 rfl rfl
    · rw [if_neg hi, e] at e2
      exact (EnvIs.wiped h ok2).cold e2 c rfl
theorem EO.wiped {σ : L2.St} {O : List Addr} {en : En} {own : List Nat} (h : EO G LV H en σ O) (ok : okOwn en own = true) : EO G LV H (wipeE en own) (wipe σ own) O := ⟨h.env.wiped ok, h.nd, fun i o e => by
  rw [wipeE_get] at e
  by_cases hi : i ∈ own
  · rw [if_pos hi] at e
    cases h : en[i]? with
    | none => rw [h] at e; cases e
    | some s => rw [h] at e; cases e
  · rw [if_neg hi] at e
    obtain ⟨v, h1, h2⟩ := h.lent i o e
    exact ⟨v, h1, by rw [wipe_get, if_neg hi]; exact h2⟩, h.tb⟩
def unwipe (σ σw : L2.St) : List Nat → L2.St
  | [] => σw
  | i :: r => (unwipe σ σw r).set i (σ.getD i none)
theorem unwipe_length (σ σw : L2.St) : ∀ r : List Nat, (unwipe σ σw r).length = σw.length
  | [] => rfl
  | i :: r => by simp only [unwipe, List.length_set, unwipe_length σ σw r]
theorem unwipe_get {σ σw : L2.St} (hl : σ.length = σw.length) : ∀ (r : List Nat) (j : Nat), (unwipe σ σw r)[j]? = if j ∈ r then σ[j]? else σw[j]?
  | [], j => by simp [unwipe]
  | i :: r, j => by
    simp only [unwipe]
    rw [List.getElem?_set]
    by_cases h : i = j
    · subst h
      simp only [if_true, unwipe_length, List.mem_cons, true_or, List.getD_eq_getElem?_getD]
      by_cases h2 : i < σw.length
      · rw [if_pos h2, List.getElem?_eq_getElem (by omega)]; rfl
      · rw [if_neg h2, List.getElem?_eq_none (by omega)]
    · rw [if_neg h, unwipe_get hl r j]
      have : (j ∈ i :: r) ↔ j ∈ r := by simp [Ne.symm h]
      simp only [this]
theorem unwipe_all (σ : L2.St) (own : List Nat) : unwipe σ (wipe σ own) own = σ := by
  apply List.ext_getElem?
  intro j
  rw [unwipe_get (wipe_length σ own).symm, wipe_get]
  by_cases h : j ∈ own <;> simp [h]
theorem undo_length (e0 e : En) : ∀ r : List Nat, (undo e0 e r).length = e.length
  | [] => rfl
  | i :: r => by simp only [undo, List.length_set, undo_length e0 e r]
theorem undo_get {e0 e : En} (hl : e0.length = e.length) : ∀ (r : List Nat) (j : Nat), (undo e0 e r)[j]? = if j ∈ r then e0[j]? else e[j]?
  | [], j => by simp [undo]
  | i :: r, j => by
    simp only [undo]
    rw [List.getElem?_set]
    by_cases h : i = j
    · subst h
      simp only [if_true, undo_length, List.mem_cons, true_or, List.getD_eq_getElem?_getD]
      by_cases h2 : i < e.length
      · rw [if_pos h2, List.getElem?_eq_getElem (by omega)]; rfl
      · rw [if_neg h2, List.getElem?_eq_none (by omega)]
    · rw [if_neg h, undo_get hl r j]
      have : (j ∈ i :: r) ↔ j ∈ r := by simp [Ne.symm h]
      simp only [this]
theorem EnvIs.undo {H0 : Hp} {e0 e : En} {σ : L2.St} {own : List Nat} {O0 O : List Addr} (h0 : EnvIs G H0 e0 σ O0) (fp : FP H0 H) (ok : okOwn e0 own = true) (h : EnvIs G H e (wipe σ own) O) (hc : ∀ i ∈ own, ∃ s, e[i]? = some s ∧ s.cold = true) :
    ∀ r : List Nat, (∀ i ∈ r, i ∈ own) → EnvIs G H (undo e0 e r) (unwipe σ (wipe σ own) r) O
  | [], _ => h
  | i :: r, hr => by
    have ih := EnvIs.undo h0 fp ok h hc r fun j hj => hr j (List.mem_cons_of_mem _ hj)
    have hi := hr i (List.mem_cons_self ..)
    have l0 := h0.len
    have l1 := h.len
    rw [wipe_length] at l1
    have hl : e0.length = e.length := by omega
    obtain ⟨s0, e1, c1⟩ := okOwn_at ok hi
    obtain ⟨s1, e2, c2⟩ := hc i hi
    simp only [PM.undo, unwipe]
    obtain ⟨O1, a, O2, sv, _, e3, h3, _⟩ := h0.split e1
    have ea := cold_is h3 c1
    subst ea
    have q : SlIs G H (e0.getD i .no) (σ.getD i none) [] := by
      rw [List.getD_eq_getElem?_getD, e1, List.getD_eq_getElem?_getD, e3]
      cases s0 with
      | no => rfl
      | ov o =>
        cases o with
        | frz d => obtain ⟨v, e, h⟩ := h3; simp only [Ov] at h; exact ⟨v, e, by simp only [Ov]; exact ⟨Fz.mono fp _ _ h.1, trivial⟩⟩
        | _ => simp [Sl.cold] at c1
      | lent o => simp [Sl.cold] at c1
    have e4 := undo_get hl r i
    by_cases hir : i ∈ r
    · rw [if_pos hir, e1] at e4
      exact ih.cold e4 c1 q
    · rw [if_neg hir, e2] at e4
      exact ih.cold e4 c2 q
theorem EO.undo {H0 : Hp} {e0 e : En} {σ : L2.St} {own : List Nat} {O0 O : List Addr} (h0 : EO G LV H0 e0 σ O0) (fp : FP H0 H) (ok : okOwn e0 own = true) (ok2 : okOwn e own = true) (h : EO G LV H (wipeE e own) (wipe σ own) O) : EO G LV H (undo e0 (wipeE e own) own) σ O := by
  have l0 := h0.env.len
  have l1 := h.env.len
  rw [wipe_length] at l1
  have hl : e0.length = (wipeE e own).length := by omega
  refine ⟨?_, h.nd, fun i o e' => ?_, h.tb⟩
  · have := EnvIs.undo h0.env fp ok h.env (fun i hi => by
      obtain ⟨s, e1, c⟩ := okOwn_at ok2 hi
      exact ⟨.no, by rw [wipeE_get, if_pos hi, e1]; rfl, rfl⟩) own fun _ h => h
    rw [unwipe_all] at this
    exact this
  · rw [undo_get hl] at e'
    by_cases hi : i ∈ own
    · rw [if_pos hi] at e'
      exact h0.lent i o e'
    · rw [if_neg hi] at e'
      obtain ⟨v, h1, h2⟩ := h.lent i o e'
      rw [wipe_get, if_neg hi] at h2
      exact ⟨v, h1, h2⟩
/-- a name's store -/
theorem EO.put {en en' : En} {σ : L2.St} {O as : List Addr} {i : Nat} {o : OV} {v : V} (h : EO G LV H en σ O) (e : putS i o en = some en') (f : Ov G H o v as) (nd : (as ++ O).Nodup) : ∃ O', EO G LV H en' (σ.set i (some v)) O' ∧ ∀ b ∈ O', b ∈ as ++ O := by
  obtain ⟨n1, n2, n3⟩ := nd_app nd
  have go : ∀ s, en[i]? = some s → (∀ o', s ≠ .lent o') → ∃ O', EO G LV H (en.set i (.ov o)) (σ.set i (some v)) O' ∧ ∀ b ∈ O', b ∈ as ++ O := fun s es hs => by
    obtain ⟨O1, a, O2, sv, rfl, e2, h3, back⟩ := h.env.split es
    obtain ⟨m1, m2, m3⟩ := nd_app n2
    obtain ⟨m4, m5, m6⟩ := nd_app m2
    refine ⟨O1 ++ (as ++ O2), ⟨back H (.ov o) (some v) as (fun h _ => h) ⟨v, rfl, f⟩, ?_, h.lent.set fun o' z => ?_, h.tb⟩, fun b hb => ?_⟩
    · refine nd_mk m1 (nd_mk n1 m5 fun b hb z => n3 b hb (by simp [z])) fun b hb z => ?_
      rcases List.mem_append.mp z with z | z
      · exact n3 b z (by simp [hb])
      · exact m3 b hb (by simp [z])
    · rw [es] at z; cases z; exact hs o' rfl
    · simp only [List.mem_append] at hb ⊢
      rcases hb with q | q | q
      · exact .inr (.inl q)
      · exact .inl q
      · exact .inr (.inr (.inr q))
  unfold putS at e
  split at e
  · rename_i o0 e0
    cases e
    exact go _ e0 fun _ z => by cases z
  · rename_i e0
    cases e
    exact go _ e0 fun _ z => by cases z
  · cases e
end

/-! ## targets -/
section
variable (G : GT) (LV : Nat → Option V)
def tG (t : Tg) : TG := fun v σ H Q => ∃ en O d en', EO G LV H en σ O ∧ Fz G H d v ∧ bind1 t d en = some en' ∧ ∀ σ' O', EO G LV H en' σ' O' → (∀ b ∈ O', b ∈ O) → (∀ vs : List Nat, (∀ i ∈ t.slots, i ∈ vs) → wipe σ' vs = wipe σ vs) → Q σ' H
def tGs (ts : List Tg) : TGs := fun vs σ H Q => ∃ en O ds en', EO G LV H en σ O ∧ FzL G H ds vs ∧ binds ts ds en = some en' ∧ ∀ σ' O', EO G LV H en' σ' O' → (∀ b ∈ O', b ∈ O) → (∀ vs : List Nat, (∀ i ∈ Tg.slotsL ts, i ∈ vs) → wipe σ' vs = wipe σ vs) → Q σ' H
end
section
variable {G : GT} {LV : Nat → Option V} {X : Cx} {T : Tb}
theorem pg_nm {i : Nat} {x : Str} {pos : Pos} (hN : X.N.Nodup) (hi : X.N[i]? = some x) (hx : Loc X.env.scope x) (hf : X.fn x = true ∨ X.env.scope.names.lookup x = some .local) : PG X (.Name x pos) (tG G LV (.nm i)) := by
  refine ⟨fun pins s σ H v u Q I r ⟨en, O, d, en', E, f, e, k⟩ => ?_⟩
  simp only [bind1] at e
  obtain ⟨O', E', sub⟩ := E.put (o := .frz d) (v := v) (as := []) e (by simp only [Ov]; exact ⟨f, trivial⟩) E.nd
  exact (L2.pg_name hN hi hx hf).run pins s σ H v u Q I r (k _ O' E' sub fun vs hv => wipe_set (hv i (by simp [Tg.slots])))
theorem pgs_nil' : PGs X [] (tGs G LV []) := by
  refine ⟨fun pins s σ H vs us Q I r ⟨en, O, ds, en', E, f, e, k⟩ => ?_⟩
  cases ds with
  | nil =>
    simp only [binds, Option.some.injEq] at e
    subst e
    simp only [FzL] at f
    subst f
    exact L2.pgs_nil.run pins s σ H [] us Q I r ⟨rfl, k σ O E (fun _ h => h) fun _ _ => rfl⟩
  | cons d ds => simp [binds] at e
theorem pgs_cons' {e : Expr} {es : List Expr} {t : Tg} {ts : List Tg} (h1 : PG X e (tG G LV t)) (h2 : PGs X es (tGs G LV ts)) (hs : (assignEach (e :: es) X.env).map (·.2) = assign e X.env :: (assignEach es X.env).map (·.2) := by rfl) : PGs X (e :: es) (tGs G LV (t :: ts)) := by
  refine ⟨fun pins s σ H vs us Q I r ⟨en, O, ds, en', E, f, eb, k⟩ => ?_⟩
  cases ds with
  | nil => simp [binds] at eb
  | cons d ds =>
    simp only [binds] at eb
    split at eb
    · rename_i en1 e1
      simp only [FzL] at f
      obtain ⟨x, xr, rfl, f1, f2⟩ := f
      refine (L2.pgs_cons h1 h2 hs).run pins s σ H _ us Q I r ⟨x, xr, rfl, en, O, d, en1, E, f1, e1, fun σ1 O1 E1 sub1 w1 => ⟨en1, O1, ds, en', E1, f2, eb, fun σ2 O2 E2 sub2 w2 => k σ2 O2 E2 (fun b hb => sub1 b (sub2 b hb)) fun vs hv => ?_⟩⟩
      rw [w2 vs fun i hi => hv i (by simp [Tg.slotsL, hi]), w1 vs fun i hi => hv i (by simp [Tg.slotsL, hi])]
    · cases eb
theorem binds_len : ∀ {ts : List Tg} {ds : List D} {en en' : En}, binds ts ds en = some en' → ds.length = ts.length
  | [], [], _, _, _ => rfl
  | [], _ :: _, _, _, e => by simp [binds] at e
  | _ :: _, [], _, _, e => by simp [binds] at e
  | t :: ts, d :: ds, en, en', e => by
    simp only [binds] at e
    split at e
    · rw [List.length_cons, List.length_cons, binds_len e]
    · cases e
theorem pg_tp {es : List Expr} {c n : Nat} {ts : List Tg} {pos : Pos} (hG : G = Cxg X T) (hc : X.calm = true) (h : PGs X es (tGs G LV ts)) (hl : ts.length = n)
    (hn : (assignEach es X.env).length = n := by rfl) (hst : (assignEach es X.env).findIdx? (·.1) = none := by rfl) : PG X (.Tuple es c pos) (tG G LV (.tp ts)) := by
  refine ⟨fun pins s σ H v u Q I r ⟨en, O, d, en', E, f, e, k⟩ => ?_⟩
  cases d with
  | tup ds =>
    simp only [bind1] at e
    simp only [Fz] at f
    obtain ⟨a, xs, rfl, h1, f⟩ := f
    have hlen := binds_len e
    refine (L2.pg_tup hc h hn hst).run pins s σ H _ u Q I r ⟨a, xs, rfl, by rw [show X.K = G.K from by rw [hG]]; exact h1, by rw [f.length, hlen, hl], en, O, ds, en', E, f, e, fun σ' O' E' sub w => k σ' O' E' sub fun vs hv => w vs fun i hi => hv i (by simpa [Tg.slots] using hi)⟩
  | _ => simp [bind1] at e
end
end PM

namespace PM
open PySem PySem.Spec PyProof.Rows
open L2 hiding St
variable [TC]

/-- no error leaves a block -/
abbrev Jx.nox (J : Jx) : Jx := { J with W := fun _ _ _ _ => False }
section
variable {J : Jx} {X : Cx} {T : Tb} {orc : Orc}
theorem endz_nox {α : Type} {F : Out α} {k : α → En → Prop} {σ σ' : L2.St} {O O' : List Addr} {H H' : Hp} (h : Endz F k (XW J.nox σ O H)) (hex : ∀ c p en', XW J.nox σ O H c p en' → XW J.nox σ' O' H' c p en') : Endz F k (XW J.nox σ' O' H') := h.imp (fun _ _ h => h) hex
theorem endz_nx {α : Type} {F : Out α} {k : α → En → Prop} {w : Nat → PM.D → En → Prop} : Endz F.nx k w ↔ Endz F k (fun _ _ _ => False) := by cases F <;> exact Iff.rfl
theorem lcGo_ok {b : PM.D → En → Option En} {cF : En → Out Bool} {eF : En → Out OV} {own : List Nat} {ds acc : List PM.D} {en : En} {k : List PM.D → En → Prop} {w : Nat → PM.D → En → Prop} (h : Endz (lcGo b cF eF own ds acc en) k w) : okOwn en own = true := by
  cases ds with
  | nil => simp only [lcGo, endz_ite] at h; exact h.1
  | cons d ds => simp only [lcGo, endz_ite] at h; exact h.1
theorem wipe_wipe {σ : L2.St} {vs : List Nat} : wipe (wipe σ vs) vs = wipe σ vs := by
  apply List.ext_getElem?
  intro j
  rw [wipe_get, wipe_get]
  by_cases hj : j ∈ vs
  · simp only [if_pos hj]
    cases σ[j]? <;> rfl
  · simp only [if_neg hj]
/-- a block's tests -/
def tC' (J : Jx) (F : En → Out Bool) : TT := tT J F
theorem pts_nil' : PTs X [] (tT J (evCs orc .nil)) := ⟨fun pins s σ H Q I ⟨en, O, E, k⟩ => by
  simp only [evCs, endz_ok] at k
  exact L2.pts_nil.run pins s σ H Q I (k H O Step.refl E)⟩
theorem pts_one' {c : Expr} {C : PM.T} (h : pT X J orc c C) : PTs X [c] (tT J (evCs orc (.cons C .nil))) := ⟨fun pins s σ H Q I ⟨en, O, E, k⟩ => by
  simp only [evCs] at k
  exact (L2.pts_one h).run pins s σ H Q I ⟨en, O, E, k⟩⟩
/-- the turns of a list comprehension: what stands at turn i -/
structure LcAt (G : GT) (LV : Nat → Option V) (own : List Nat) (σ : L2.St) (O1 : List Addr) (H1 : Hp) (D : Addr) (acc : List PM.D) (en : En) (H : Hp) (O : List Addr) (xs : List V) : Prop where
  eo : EO G LV H (wipeE en own) (wipe σ own) O
  ok : okOwn en own = true
  at_ : H D = some (.lst xs)
  fz : FzL G H acc xs
  nd : D ∉ O
  st : Step O1 H1 O H
theorem lc_t {own : List (Str × Nat)} {A : E} {t : Tg} {it : PM.It} {cs : Ts} (hsl : ∀ i ∈ t.slots, i ∈ own.map (·.2)) {σ : L2.St} {H : Hp} {Q : VK} (h0 : tE J (evE orc (.lc A t it cs (own.map (·.2)))) σ H Q) :
    tLc (tI J (evI orc it)) (tG J.G J.LV t) (tT J.nox (evCs orc cs)) (tZ J.nox (evE orc A)) (own.map (·.2)) σ H Q := by
  obtain ⟨en, O, E, k⟩ := h0
  simp only [evE, endz_bnd] at k
  refine ⟨en, O, E, k.imp (fun ds en1 k1 It H1 O1 st1 E1 wk D nD => ?_) fun _ _ _ x => x⟩
  rw [endz_ite, endz_bnd, endz_nx] at k1
  obtain ⟨ok1, k1⟩ := k1
  generalize hv : own.map (·.2) = vs at *
  have fpD : ∀ {H' : Hp}, Keep O1 H1 H' → FP H1 H' := fun k => k.fp E1.env.mut
  have nDO : D ∉ O1 := fun z => by
    obtain ⟨o, e, _⟩ := E1.env.mut D z
    rw [nD] at e; cases e
  refine ⟨fun i m H' => m = ds.length - i ∧ i ≤ ds.length ∧ ∃ acc en' O' xs, LcAt J.G J.LV vs σ O1 H1 D acc en' H' O' xs ∧ Endz (lcGo (bind1 t) (evCs orc cs) (evE orc A) vs (ds.drop i) acc en') (fun acc en' => ∀ v H' O' as, VD J σ O H (.lst (acc.map .frz)) (undo en1 (wipeE en' vs) vs) v H' O' as → Q v H') (fun _ _ _ => False),
    ⟨ds.length, by simp, Nat.zero_le _, [], en1, O1, [], ⟨?_, ok1, upd_same, by simp [FzL], nDO, ⟨?_, Dom.new nD, fun b hb => .inl hb⟩⟩, ?_⟩, ?_⟩
  · exact (E1.keep (keep_new nD) mutO_nil (fun b _ z => by cases z) (Dom.new nD)).wiped ok1
  · exact (keep_new nD).mono fun b hb => by cases hb
  · rw [List.drop_zero]
    exact k1
  · rintro i m H' ⟨rfl, hi', acc, en', O', xs, L, kk⟩
    by_cases hlt : i < ds.length
    · refine .inr ⟨wk.go i ds[i] H' (fpD L.st.keep) (List.getElem?_eq_getElem hlt), fun H2 => (i + 1 ≤ ds.length ∧ ∃ acc en' O' xs, LcAt J.G J.LV vs σ O1 H1 D acc en' H2 O' xs ∧ Endz (lcGo (bind1 t) (evCs orc cs) (evE orc A) vs (ds.drop (i + 1)) acc en') (fun acc en' => ∀ v H' O' as, VD J σ O H (.lst (acc.map .frz)) (undo en1 (wipeE en' vs) vs) v H' O' as → Q v H') (fun _ _ _ => False)),
        fun H2 ⟨h1, h2⟩ => ⟨ds.length - (i + 1), by omega, rfl, h1, h2⟩, fun x H2 y => ?_⟩
      obtain ⟨kp, dm, fx⟩ := wk.yld i ds[i] H' x H2 (fpD L.st.keep) (List.getElem?_eq_getElem hlt) y
      rw [List.drop_eq_getElem_cons hlt] at kk
      simp only [lcGo] at kk
      rw [endz_ite] at kk
      obtain ⟨_, kk⟩ := kk
      have E2 := L.eo.keep kp mutO_nil (fun b _ z => by cases z) dm
      have hD2 : H2 D = some (.lst xs) := kp D _ L.at_ (fun z => by cases z) rfl
      have f2 : FzL J.G H2 acc xs := FzL.mono (kp.fp mutO_nil) _ _ L.fz
      have st2 : Step O1 H1 O' H2 := ⟨L.st.keep.trans (kp.mono fun b hb => by cases hb) L.st.sub, L.st.dom.trans dm, L.st.sub⟩
      split at kk
      · rename_i en2 eb
        refine ⟨_, O', ds[i], en2, E2, fx, eb, fun σ3 O3 E3 sub3 w3 => ?_⟩
        have hw : wipe σ3 vs = wipe σ vs := (w3 vs hsl).trans wipe_wipe
        refine ⟨hw, ?_⟩
        rw [endz_bnd] at kk
        have nD3 : D ∉ O3 := fun z => L.nd (sub3 D z)
        refine ⟨en2, O3, E3, kk.imp (fun b en3 kb H3 O4 st3 E4 => ?_) fun _ _ _ x => x.elim⟩
        have hD3 : H3 D = some (.lst xs) := st3.keep D _ hD2 nD3 rfl
        have nD4 : D ∉ O4 := fun z => by
          rcases st3.sub D z with q | q
          · exact nD3 q
          · rw [hD2] at q; cases q
        have st4 : Step O1 H1 O4 H3 := (st2.less sub3).trans st3
        have f3 := FzL.mono (st3.keep.fp E3.env.mut) _ _ f2
        cases b with
        | false =>
          simp only [Bool.false_eq_true, if_false] at kb ⊢
          have ok4 := lcGo_ok kb
          have E5 := E4.wiped ok4
          rw [hw] at E5
          exact ⟨by omega, acc, en3, O4, xs, ⟨E5, ok4, hD3, f3, nD4, st4⟩, kb⟩
        | true =>
          simp only [if_true] at kb ⊢
          rw [endz_bnd] at kb
          refine ⟨en3, O4, E4, kb.imp (fun o en4 ko => ?_) fun _ _ _ x => x.elim⟩
          rw [endz_ite, Bool.and_eq_true, decide_eq_true_eq] at ko
          refine ⟨ko.1.1, fun y H4 O5 d => ?_⟩
          have hD4 : H4 D = some (.lst xs) := d.st.keep D _ hD3 nD4 rfl
          have nD5 : D ∉ O5 := fun z => by
            rcases d.st.sub D z with q | q
            · exact nD4 q
            · rw [hD3] at q; cases q
          have ku : Keep [D] H4 (upd H4 D (.lst (xs ++ [y]))) := keep_upd
          have mu : MutO H4 [D] := mutO_one hD4 rfl trivial
          have fu := ku.fp mu
          have f4 := FzL.mono ((d.st.keep.fp E4.env.mut).trans fu) _ _ f3
          have ok5 := lcGo_ok ko.2
          have E5 := (d.eo.wiped ok5).keep ku mu (fun b hb z => nD5 (by rw [List.mem_singleton] at z; rw [← z]; exact hb)) (Dom.upd hD4 noCode_lst)
          rw [hw] at E5
          have st5 : Step O1 H1 O5 H4 := st4.trans d.st
          refine ⟨xs, hD4, by rw [L.fz.length]; exact ko.1.2, by omega, acc ++ [o.d], en4, O5, xs ++ [y], ⟨E5, ok5, upd_same, f4.append (FzL.one (Fz.mono fu _ _ d.fz)), nD5, ⟨st5.keep.trans ku fun c hc => ?_, st5.dom.trans (Dom.upd hD4 noCode_lst), st5.sub⟩⟩, ko.2⟩
          rw [List.mem_singleton] at hc
          rw [hc]; exact .inr nD
      · exact kk.elim
    · have hil : i = ds.length := by omega
      subst hil
      refine .inl ⟨wk.stop H' (fpD L.st.keep), ?_⟩
      rw [List.drop_length] at kk
      simp only [lcGo] at kk
      rw [endz_ite] at kk
      have st := st1.trans L.st
      refine kk.2 (.ref D) H' O' [D] ⟨⟨st.keep, st.dom, fun b hb => ?_⟩, E1.undo (fpD L.st.keep) ok1 kk.1 L.eo, ?_, ?_⟩
      · rcases List.mem_append.mp hb with q | q
        · rw [List.mem_singleton] at q
          rw [q]; exact .inr (st1.dom D nD)
        · exact st.sub b q
      · simp only [Ov]
        exact ⟨D, xs, [], rfl, L.at_, ovL_frz L.fz, rfl⟩
      · exact List.nodup_cons.mpr ⟨L.nd, L.eo.nd⟩
theorem pe_lc {elt tg iter : Expr} {ifs : List Expr} {scope : Scope} {own : List (Str × Nat)} {pos : Pos} {A : E} {t : Tg} {it : PM.It} {cs : Ts} (hc : X.calm = true) (hN : X.N.Nodup) (hi : pI X J orc tg iter it) (ok : BlkOk X.N X.env.scope scope own)
    (hg : ∀ (s : Shared) (H : Hp) (C : Addr) (cl : List (Str × Addr)) (fp : List Addr), PG (X.blk s H scope (compEnvC scope cl C X.env) fp) tg (tG J.G J.LV t)) (hsl : ∀ i ∈ t.slots, i ∈ own.map (·.2))
    (ht : ∀ (s : Shared) (H : Hp) (C : Addr) (cl : List (Str × Addr)) (fp : List Addr), PTs (X.blk s H scope (compEnvC scope cl C X.env) fp) ifs (tT J.nox (evCs orc cs)))
    (he : ∀ (s : Shared) (H : Hp) (C : Addr) (cl : List (Str × Addr)) (fp : List Addr), pE (X.blk s H scope (compEnvC scope cl C X.env) fp) J.nox orc elt A) (hs : ∀ x, foldedSetIterable iter X.env x = pure x := by intro _; rfl) :
    pE X J orc (.ListComp elt [⟨tg, iter, ifs, 0⟩] scope pos) (.lc A t it cs (own.map (·.2))) := by
  exact ⟨fun pins s σ H Q I h => (L2.pe_lc hc hN hi ok hg ht (fun s H C cl fp => pz (he s H C cl fp)) hs).run pins s σ H Q I (lc_t hsl h)⟩
end
end PM

namespace PM
open PySem PySem.Spec PyProof.Rows
open L2 hiding St
variable [TC]

/-! ## arguments -/
section
variable (J : Jx) (σ : L2.St) (H : Hp)
def HoldAs : List Opd → List V → List Addr → Prop
  | [], vs, A => vs = [] ∧ A = []
  | o :: r, vs, A => ∃ v w a b, vs = v :: w ∧ Hold J σ H o v a ∧ HoldAs r w b ∧ A = a ++ b
end
section
variable {J : Jx} {σ : L2.St} {H H1 : Hp} {O O1 : List Addr}
theorem HoldAs.mut : ∀ {ps : List Opd} {vs : List V} {A : List Addr}, HoldAs J σ H ps vs A → MutO H A
  | [], vs, A, h => by obtain ⟨_, rfl⟩ := h; exact mutO_nil
  | o :: r, vs, A, h => by
    obtain ⟨v, w, a, b, rfl, h1, h2, rfl⟩ := h
    exact h1.mut.app (HoldAs.mut h2)
theorem HoldAs.step (st : Step O H O1 H1) (m : MutO H O) : ∀ {ps : List Opd} {vs : List V} {A : List Addr}, HoldAs J σ H ps vs A → (∀ b ∈ A, b ∉ O) → HoldAs J σ H1 ps vs A
  | [], vs, A, h, n => h
  | o :: r, vs, A, h, n => by
    obtain ⟨v, w, a, b, rfl, h1, h2, rfl⟩ := h
    exact ⟨v, w, a, b, rfl, h1.step st m fun c hc => n c (List.mem_append_left _ hc), HoldAs.step st m h2 fun c hc => n c (List.mem_append_right _ hc), rfl⟩
theorem HoldAs.len : ∀ {ps : List Opd} {vs : List V} {A : List Addr}, HoldAs J σ H ps vs A → vs.length = ps.length
  | [], vs, A, h => by obtain ⟨rfl, _⟩ := h; rfl
  | o :: r, vs, A, h => by
    obtain ⟨v, w, a, b, rfl, h1, h2, rfl⟩ := h
    rw [List.length_cons, List.length_cons, HoldAs.len h2]
end
section
variable (J : Jx)
def tAA (F : En → Out (List Opd)) : TA := fun σ H Q => ∃ en O, EO J.G J.LV H en σ O ∧ Endz (F en) (fun ps en' => ∀ vs H' O' A, Step O H (A ++ O') H' → EO J.G J.LV H' en' σ O' → HoldAs J σ H' ps vs A → (A ++ O').Nodup → Q vs H') (XW J σ O H)
end
section
variable {J : Jx} {X : Cx} {T : Tb} {orc : Orc}
abbrev pA (X : Cx) (J : Jx) (orc : Orc) (es : List Expr) (A : Es) (l : List Bool) : Prop := PA X es (tAA J (evA orc A l))
abbrev pArg (X : Cx) (J : Jx) (orc : Orc) (e : Expr) (A : E) (l : Bool) : Prop := PE X e (tO J (mkA A l (evE orc A)))
theorem parg_val {e : Expr} {A : E} (h : pE X J orc e A) : pArg X J orc e A false := so_val h
theorem parg_lend {e : Expr} {A : E} (h : pO X J orc e A) : pArg X J orc e A true := h
theorem paa_nil : pA X J orc [] .nil [] := ⟨fun pos pins s σ H Q I ⟨en, O, E, k⟩ => by
  simp only [evA, endz_ok] at k
  exact L2.pa_nil.run pos pins s σ H Q I (k [] H O [] Step.refl E ⟨rfl, rfl⟩ E.nd)⟩
theorem paa_cons {e : Expr} {es : List Expr} {A : E} {B : Es} {l : Bool} {ls : List Bool} (h : pArg X J orc e A l) (hr : pA X J orc es B ls) (hs : starEach (e :: es) X.env = (false, eval e X.env) :: starEach es X.env := by rfl) : pA X J orc (e :: es) (.cons A B) (l :: ls) := by
  refine ⟨fun pos pins s σ H Q I ⟨en, O, E, k⟩ => ?_⟩
  simp only [evA, endz_bnd] at k
  refine (L2.pa_cons h hr hs).run pos pins s σ H Q I ⟨en, O, E, k.imp (fun o en1 k1 v H1 O1 a d => ⟨en1, O1, d.eo, k1.imp (fun ps en2 k2 vs H2 O2 A2 st2 E2 h2 n2 => ?_) fun _ _ _ x => XW.trans d.st.right x⟩) fun _ _ _ x => x⟩
  obtain ⟨m1, m2, m3⟩ := nd_app d.nd
  obtain ⟨m4, m5, m6⟩ := nd_app n2
  have ap := st2.apart d.ov.mut m3
  rw [endz_ok] at k2
  refine k2 (v :: vs) H2 O2 (a ++ A2) ⟨?_, ?_, ?_⟩ E2 ⟨v, vs, a, A2, rfl, d.ov.step st2 d.eo.env.mut m3, h2, rfl⟩ ?_
  · exact d.st.right.keep.trans st2.keep d.st.right.sub
  · exact d.st.dom.trans st2.dom
  · intro b hb
    simp only [List.mem_append] at hb
    rcases hb with (q | q) | q
    · exact d.st.sub b (List.mem_append_left _ q)
    · exact (d.st.right.trans st2).sub b (List.mem_append_left _ q)
    · exact (d.st.right.trans st2).sub b (List.mem_append_right _ q)
  · rw [List.append_assoc]
    exact nd_mk m1 n2 fun b hb => ap b hb

/-! ## what is taken out, and put back -/
theorem EnvIs.take {G : GT} {H : Hp} {en : En} {σ : L2.St} {O : List Addr} {i : Nat} {s : Sl} {o : OV} {v : V} (h : EnvIs G H en σ O) (e : en[i]? = some s) (hs : s = .ov o ∨ s = .lent o) (hv : σ[i]? = some (some v)) :
    ∃ O1 a O2, O = O1 ++ (a ++ O2) ∧ Ov G H o v a ∧ EnvIs G H (en.set i .no) σ (O1 ++ O2) := by
  obtain ⟨O1, a, O2, sv, rfl, e2, h3, back⟩ := h.split e
  rw [hv] at e2
  cases e2
  have f : Ov G H o v a := by
    rcases hs with rfl | rfl
    · obtain ⟨v', e, h⟩ := h3; cases e; exact h
    · obtain ⟨v', e, h⟩ := h3; cases e; exact h
  have := back H .no (some v) [] (fun h _ => h) rfl
  rw [set_self hv] at this
  exact ⟨O1, a, O2, rfl, f, by simpa using this⟩
theorem takeA_ok {σ : L2.St} {H : Hp} : ∀ {ps : List Opd} {vs : List V} {A : List Addr} {en en1 : En} {O : List Addr} {sl : List Sl}, HoldAs J σ H ps vs A → EnvIs J.G H en σ O → (A ++ O).Nodup → takeA ps en = some (sl, en1) →
    ∃ Oa O1, EnvIs J.G H sl (vs.map some) Oa ∧ EnvIs J.G H en1 σ O1 ∧ (Oa ++ O1).Nodup ∧ ∀ b ∈ Oa ++ O1, b ∈ A ++ O
  | [], vs, A, en, en1, O, sl, h, E, nd, e => by
    obtain ⟨rfl, rfl⟩ := h
    simp only [takeA, Option.some.injEq, Prod.mk.injEq] at e
    obtain ⟨rfl, rfl⟩ := e
    exact ⟨[], O, ⟨rfl, rfl⟩, E, nd, fun b hb => hb⟩
  | .val o :: r, vs, A, en, en1, O, sl, h, E, nd, e => by
    obtain ⟨v, w, a, b, rfl, h1, h2, rfl⟩ := h
    simp only [takeA, Option.map_eq_some_iff] at e
    obtain ⟨⟨sl', en'⟩, e, e2⟩ := e
    simp only [Prod.mk.injEq] at e2
    obtain ⟨rfl, rfl⟩ := e2
    rw [List.append_assoc] at nd
    obtain ⟨n1, n2, n3⟩ := nd_app nd
    obtain ⟨Oa, O1, q1, q2, q3, q4⟩ := takeA_ok h2 E n2 e
    refine ⟨a ++ Oa, O1, ⟨some v, w.map some, a, Oa, rfl, ⟨v, rfl, h1⟩, q1, rfl⟩, q2, ?_, fun c hc => ?_⟩
    · rw [List.append_assoc]
      exact nd_mk n1 q3 fun c hc z => n3 c hc (q4 c z)
    · rw [List.append_assoc] at hc ⊢
      exact (List.mem_append.mp hc).elim (fun q => List.mem_append_left _ q) fun q => List.mem_append_right _ (q4 c q)
  | .slot i :: r, vs, A, en, en1, O, sl, h, E, nd, e => by
    obtain ⟨v, w, a, b, rfl, ⟨rfl, h1⟩, h2, rfl⟩ := h
    have nd : (A ++ O).Nodup := nd
    show ∃ Oa O1, EnvIs J.G H sl ((v :: w).map some) Oa ∧ EnvIs J.G H en1 σ O1 ∧ (Oa ++ O1).Nodup ∧ ∀ c ∈ Oa ++ O1, c ∈ A ++ O
    obtain ⟨n1, n2, n3⟩ := nd_app nd
    have e9 := e
    clear e
    have lend : ∀ o s, en[i]? = some s → (s = .ov o ∨ s = .lent o) → (takeA r (en.set i .no)).map (fun p => (Sl.lent o :: p.1, p.2)) = some (sl, en1) →
        ∃ Oa O1, EnvIs J.G H sl ((v :: w).map some) Oa ∧ EnvIs J.G H en1 σ O1 ∧ (Oa ++ O1).Nodup ∧ ∀ c ∈ Oa ++ O1, c ∈ A ++ O := fun o s es hs e => by
      simp only [Option.map_eq_some_iff] at e
      obtain ⟨⟨sl', en'⟩, e, e2⟩ := e
      simp only [Prod.mk.injEq] at e2
      obtain ⟨rfl, rfl⟩ := e2
      obtain ⟨P1, a, P2, rfl, f, E2⟩ := E.take es hs h1
      have nd2 : (A ++ (P1 ++ P2)).Nodup := by
        obtain ⟨m1, m2, m3⟩ := nd_app n2
        obtain ⟨m4, m5, m6⟩ := nd_app m2
        refine nd_mk n1 (nd_mk m1 m5 fun c hc z => m3 c hc (by simp [z])) fun c hc z => n3 c hc ?_
        simp only [List.mem_append] at z ⊢
        rcases z with z | z
        · exact .inl z
        · exact .inr (.inr z)
      obtain ⟨Oa, O1, q1, q2, q3, q4⟩ := takeA_ok h2 E2 nd2 e
      obtain ⟨m1, m2, m3⟩ := nd_app n2
      obtain ⟨m4, m5, m6⟩ := nd_app m2
      refine ⟨a ++ Oa, O1, ⟨some v, w.map some, a, Oa, rfl, ⟨v, rfl, f⟩, q1, rfl⟩, q2, ?_, fun c hc => ?_⟩
      · rw [List.append_assoc]
        refine nd_mk m4 q3 fun c hc z => ?_
        have := q4 c z
        simp only [List.mem_append] at this
        rcases this with q | q | q
        · exact n3 c q (by simp [hc])
        · exact m3 c q (by simp [hc])
        · exact m6 c hc q
      · rw [List.append_assoc] at hc
        rcases List.mem_append.mp hc with q | q
        · simp [q]
        · have := q4 c q
          simp only [List.mem_append] at this ⊢
          rcases this with q | q | q
          · exact .inl q
          · exact .inr (.inl q)
          · exact .inr (.inr (.inr q))
    have e := e9
    clear e9
    simp only [takeA] at e
    split at e
    · rename_i d es
      simp only [Option.map_eq_some_iff] at e
      obtain ⟨⟨sl', en'⟩, e, e2⟩ := e
      simp only [Prod.mk.injEq] at e2
      obtain ⟨rfl, rfl⟩ := e2
      obtain ⟨v', as, e1, f, _⟩ := E.at es
      rw [h1] at e1
      cases e1
      simp only [Ov] at f
      obtain ⟨Oa, O1, q1, q2, q3, q4⟩ := takeA_ok h2 E nd e
      exact ⟨Oa, O1, ⟨some v, w.map some, [], Oa, rfl, ⟨v, rfl, by simp only [Ov]; exact ⟨f.1, trivial⟩⟩, q1, rfl⟩, q2, q3, q4⟩
    · rename_i o _ es
      exact lend o _ es (.inl rfl) e
    · rename_i o es
      exact lend o _ es (.inr rfl) e
    · cases e
/-- a lent thing's slot -/
def outSl : Option OV → Sl
  | none => .no
  | some o => .ov o
theorem backA_ok {σ : L2.St} {H0 H : Hp} {en0 : En} : ∀ {ps : List Opd} {vs : List V} {A : List Addr} {outs : List (Option OV)} {en en' : En} {Oo O : List Addr}, HoldAs J σ H0 ps vs A → EnvIs J.G H (outs.map outSl) (vs.map some) Oo → EnvIs J.G H en σ O → (Oo ++ O).Nodup → backA en0 ps outs en = some en' →
    ∃ O', EnvIs J.G H en' σ O' ∧ O'.Nodup ∧ ∀ b ∈ O', b ∈ Oo ++ O
  | [], vs, A, outs, en, en', Oo, O, h, Eo, E, nd, e => by
    cases outs with
    | nil =>
      simp only [backA, Option.some.injEq] at e
      subst e
      exact ⟨O, E, (nd_app nd).2.1, fun b hb => List.mem_append_right _ hb⟩
    | cons _ _ => simp [backA] at e
  | .val o :: r, vs, A, [], en, en', Oo, O, h, Eo, E, nd, e => by simp [backA] at e
  | .val o :: r, vs, A, x :: t, en, en', Oo, O, h, Eo, E, nd, e => by
    obtain ⟨v, w, a, b, rfl, h1, h2, rfl⟩ := h
    simp only [backA] at e
    obtain ⟨sv, τ, c, d, es, q1, q2, rfl⟩ := Eo
    simp only [List.map_cons, List.cons.injEq] at es
    obtain ⟨rfl, rfl⟩ := es
    rw [List.append_assoc] at nd
    obtain ⟨O', r1, r2, r3⟩ := backA_ok h2 q2 E (nd_app nd).2.1 e
    exact ⟨O', r1, r2, fun b hb => by rw [List.append_assoc]; exact List.mem_append_right _ (r3 b hb)⟩
  | .slot i :: r, vs, A, [], en, en', Oo, O, h, Eo, E, nd, e => by simp [backA] at e
  | .slot i :: r, vs, A, none :: t, en, en', Oo, O, h, Eo, E, nd, e => by
    obtain ⟨v, w, a, b, rfl, h1, h2, rfl⟩ := h
    simp only [backA] at e
    obtain ⟨sv, τ, c, d, es, q1, q2, rfl⟩ := Eo
    simp only [List.map_cons, List.cons.injEq] at es
    obtain ⟨rfl, rfl⟩ := es
    rw [List.append_assoc] at nd
    obtain ⟨O', r1, r2, r3⟩ := backA_ok h2 q2 E (nd_app nd).2.1 e
    exact ⟨O', r1, r2, fun b hb => by rw [List.append_assoc]; exact List.mem_append_right _ (r3 b hb)⟩
  | .slot i :: r, vs, A, some o :: t, en, en', Oo, O, h, Eo, E, nd, e => by
    obtain ⟨v, w, a, b, rfl, ⟨rfl, h1⟩, h2, rfl⟩ := h
    obtain ⟨sv, τ, c, d, es, q1, q2, rfl⟩ := Eo
    simp only [List.map_cons, List.cons.injEq] at es
    obtain ⟨rfl, rfl⟩ := es
    obtain ⟨v', ev, f⟩ := q1
    cases ev
    rw [List.append_assoc] at nd
    obtain ⟨n1, n2, n3⟩ := nd_app nd
    have go : ∀ s', (s' = .ov o ∨ s' = .lent o) → backA en0 r t (en.set i s') = some en' → ∃ O', EnvIs J.G H en' σ O' ∧ O'.Nodup ∧ ∀ b ∈ O', b ∈ (c ++ d) ++ O := fun s' hs' e => by
      have hi : i < en.length := by
        have := E.len
        obtain ⟨hi, _⟩ := List.getElem?_eq_some_iff.mp h1
        omega
      obtain ⟨P1, a, P2, sv, rfl, e2, h3, back⟩ := E.split (List.getElem?_eq_getElem hi)
      rw [h1] at e2; cases e2
      have E2 := back H s' (some v) c (fun h _ => h) (by rcases hs' with rfl | rfl <;> exact ⟨v, rfl, f⟩)
      rw [set_self h1] at E2
      obtain ⟨m1, m2, m3⟩ := nd_app n2
      obtain ⟨m4, m5, m6⟩ := nd_app m2
      obtain ⟨m7, m8, m9⟩ := nd_app m5
      have nd2 : (d ++ (P1 ++ (c ++ P2))).Nodup := by
        refine nd_mk m1 (nd_mk m4 (nd_mk n1 m8 fun x hx z => n3 x hx (by simp [z])) fun x hx z => ?_) fun x hx z => ?_
        · rcases List.mem_append.mp z with z | z
          · exact n3 x z (by simp [hx])
          · exact m6 x hx (by simp [z])
        · simp only [List.mem_append] at z
          rcases z with z | z | z
          · exact m3 x hx (by simp [z])
          · exact n3 x z (by simp [hx])
          · exact m3 x hx (by simp [z])
      obtain ⟨O', r1, r2, r3⟩ := backA_ok h2 q2 E2 nd2 e
      refine ⟨O', r1, r2, fun b hb => ?_⟩
      have := r3 b hb
      simp only [List.mem_append] at this ⊢
      rcases this with q | q | q | q
      · exact .inl (.inr q)
      · exact .inr (.inl q)
      · exact .inl (.inl q)
      · exact .inr (.inr (.inr q))
    simp only [backA] at e
    split at e
    · exact go _ (.inl rfl) e
    · exact go _ (.inr rfl) e
    · cases e
theorem takeA_lent : ∀ {ps : List Opd} {en en1 : En} {sl : List Sl}, takeA ps en = some (sl, en1) → ∀ (j : Nat) (o : OV), en1[j]? = some (.lent o) → ∃ o', en[j]? = some (.lent o')
  | [], en, en1, sl, e, j, o, h => by
    simp only [takeA, Option.some.injEq, Prod.mk.injEq] at e
    obtain ⟨rfl, rfl⟩ := e
    exact ⟨o, h⟩
  | .val o0 :: r, en, en1, sl, e, j, o, h => by
    simp only [takeA, Option.map_eq_some_iff] at e
    obtain ⟨⟨sl', en'⟩, e, e2⟩ := e
    simp only [Prod.mk.injEq] at e2
    obtain ⟨rfl, rfl⟩ := e2
    exact takeA_lent e j o h
  | .slot i :: r, en, en1, sl, e, j, o, h => by
    have go : ∀ {p : List Sl × En}, takeA r (en.set i .no) = some p → p.2 = en1 → ∃ o', en[j]? = some (.lent o') := fun {p} e3 e2 => by
      subst e2
      obtain ⟨o', h'⟩ := takeA_lent (sl := p.1) e3 j o h
      by_cases hj : i = j
      · subst hj
        rw [List.getElem?_set] at h'
        simp only [if_true] at h'
        split at h' <;> cases h'
      · rw [List.getElem?_set_ne hj] at h'
        exact ⟨o', h'⟩
    simp only [takeA] at e
    split at e
    · simp only [Option.map_eq_some_iff] at e
      obtain ⟨⟨sl', en'⟩, e, e2⟩ := e
      simp only [Prod.mk.injEq] at e2
      obtain ⟨rfl, rfl⟩ := e2
      exact takeA_lent e j o h
    · simp only [Option.map_eq_some_iff] at e
      obtain ⟨p, e, e2⟩ := e
      simp only [Prod.mk.injEq] at e2
      exact go e e2.2
    · simp only [Option.map_eq_some_iff] at e
      obtain ⟨p, e, e2⟩ := e
      simp only [Prod.mk.injEq] at e2
      exact go e e2.2
    · cases e
theorem backA_lent {en0 : En} : ∀ {ps : List Opd} {outs : List (Option OV)} {en en' : En}, backA en0 ps outs en = some en' → (∀ (j : Nat) (o : OV), en[j]? = some (.lent o) → ∃ o', en0[j]? = some (.lent o')) → ∀ (j : Nat) (o : OV), en'[j]? = some (.lent o) → ∃ o', en0[j]? = some (.lent o')
  | [], [], en, en', e, h, j, o, hj => by
    simp only [backA, Option.some.injEq] at e
    subst e
    exact h j o hj
  | [], _ :: _, en, en', e, h, j, o, hj => by simp [backA] at e
  | .val _ :: r, [], en, en', e, h, j, o, hj => by simp [backA] at e
  | .slot _ :: r, [], en, en', e, h, j, o, hj => by simp [backA] at e
  | .val _ :: r, x :: t, en, en', e, h, j, o, hj => by
    simp only [backA] at e
    exact backA_lent e h j o hj
  | .slot i :: r, none :: t, en, en', e, h, j, o, hj => by
    simp only [backA] at e
    exact backA_lent e h j o hj
  | .slot i :: r, some o1 :: t, en, en', e, h, j, o, hj => by
    simp only [backA] at e
    split at e
    · rename_i o2 e2
      refine backA_lent e (fun j o hj => ?_) j o hj
      by_cases hij : i = j
      · subst hij
        rw [List.getElem?_set] at hj
        simp only [if_true] at hj
        split at hj <;> cases hj
      · rw [List.getElem?_set_ne hij] at hj
        exact h j o hj
    · rename_i o2 e2
      refine backA_lent e (fun j o hj => ?_) j o hj
      by_cases hij : i = j
      · subst hij
        exact ⟨o2, e2⟩
      · rw [List.getElem?_set_ne hij] at hj
        exact h j o hj
    · cases e
end
end PM

namespace PM
open PySem PySem.Spec PyProof.Rows
open L2 hiding St
variable [TC]

/-- a def's promise, where no repr is under way -/
structure FnG (P : Program) (w : World) (K : PySem.W.Frag) (mg : Str → Option Value) (base : Heap) (k : Nat) (f : Addr) (fd : FuncData) (ps : List Str) (sp : Sp) : Prop where
  len : ∀ vs H Q E, sp vs H Q E → vs.length = ps.length
  run : ∀ (A : Around) (outer : List Env) (s : Shared) (H : Hp) (args : Args) (us : List Value) (vs : List V) (Q : VK) (E : XK), Room k A → A.guards = some [] → Env0 P w K mg base A outer s H → BindsTo s fd args (ps.zip us) → Vals vs us → sp vs H Q E →
    codeAny (model P w) A (.call (.ref f) args) (CR (L2.CX P w) outer P w H s Q E) s
/-- what a def does, by the evaluator -/
def spF (G : GT) (fld : Nat → Str) (n : Nat) (F : List Sl → COut) : Sp := fun vs H Q E => ∃ sl O, sl.length = n ∧ EnvIs G H sl (vs.map some) O ∧ O.Nodup ∧ LamX.Tabs TC.ts H ∧ match F sl with
  | .ok o outs => ∀ v H' O' as, Step O H (as ++ O') H' → EnvIs G H' (outs.map outSl) (vs.map some) O' → Ov G H' o v as → (as ++ O').Nodup → Q v H'
  | .exc c p outs => ∀ cls d H', (∃ C dd v O', G.clsA c = some C ∧ cls = .ref C ∧ d = some dd ∧ H' dd = some (.xd [(fld c, v)]) ∧ Fz G H' p v ∧ Step O H O' H' ∧ EnvIs G H' (outs.map outSl) (vs.map some) O' ∧ O'.Nodup) → E cls d H'
  | .bad => False
theorem spF_len {G : GT} {fld : Nat → Str} {n : Nat} {F : List Sl → COut} (vs : List V) (H : Hp) (Q : VK) (E : XK) (h : spF G fld n F vs H Q E) : vs.length = n := by
  obtain ⟨sl, O, hl, e, _⟩ := h
  have := e.len
  rw [List.length_map] at this
  omega
theorem permute_range {α : Type} (xs : List α) : permute xs (List.range xs.length) = some xs := by
  have go : ∀ (n k : Nat), k + n = xs.length → permute xs ((List.range n).map (k + ·)) = some (xs.drop k) := fun n => by
    induction n with
    | zero =>
      intro k hk
      simp only [List.range_zero, List.map_nil, permute]
      rw [List.drop_eq_nil_iff.mpr (by omega)]
    | succ n ih =>
      intro k hk
      rw [List.range_succ_eq_map, List.map_cons, List.map_map]
      have e : ((fun x => k + x) ∘ Nat.succ) = fun x => (k + 1) + x := by funext x; simp; omega
      rw [e]
      have hlt : k < xs.length := by omega
      simp only [permute, Nat.add_zero, List.getElem?_eq_getElem hlt, ih (k + 1) (by omega)]
      rw [← List.drop_eq_getElem_cons hlt]
  have := go xs.length 0 (by omega)
  simpa using this
section
variable {J : Jx} {X : Cx} {T : Tb} {orc : Orc}
/-- the callee's frame and ours -/
theorem call_sp {pins : List (Addr × Obj)} {s : Shared} {σ : L2.St} {H H1 : Hp} {O O1 A : List Addr} {en1 : En} {ps : List Opd} {vs : List V} {i : Nat} {n : Nat} {Q : VK} (st : Step O H (A ++ O1) H1) (E : EO J.G J.LV H1 en1 σ O1) (h : HoldAs J σ H1 ps vs A) (nd : (A ++ O1).Nodup) (hl : ps.length = n)
    (k : Endz (match takeA ps en1 with
        | some (sl, en2) => (match orc i sl with
          | .ok o outs => (match backA en1 ps outs en2 with
            | some en' => .ok o en'
            | none => .bad)
          | .exc c p outs => (match backA en1 ps outs en2 with
            | some en' => .exc c p en'
            | none => .bad)
          | .bad => .bad)
        | none => .bad) (fun o en' => ∀ v H' O' as, VD J σ O H o en' v H' O' as → Q v H') (XW J σ O H)) : spF J.G J.fld n (orc i) vs H1 Q (fun cls d H' => J.W cls d σ H') := by
  split at k
  · rename_i sl en2 et
    obtain ⟨Oa, Or, q1, q2, q3, q4⟩ := takeA_ok h E.env nd et
    have sll : sl.length = n := by
      have := q1.len
      rw [List.length_map, h.len] at this
      omega
    obtain ⟨m1, m2, m3⟩ := nd_app q3
    have ma := q1.mut
    have mr := q2.mut
    refine ⟨sl, Oa, sll, q1, m1, E.tb, ?_⟩
    have inO : ∀ b ∈ Oa ++ Or, b ∈ O ∨ H b = none := fun b hb => st.sub b (q4 b hb)
    have lent : ∀ {outs : List (Option OV)} {en' : En}, backA en1 ps outs en2 = some en' → LentIs J.LV en' σ := fun {outs en'} eb j o hj => by
      obtain ⟨o', h'⟩ := backA_lent eb (fun j o hj => takeA_lent et j o hj) j o hj
      exact E.lent j o' h'
    have back : ∀ {outs : List (Option OV)} {en' : En} {H' : Hp} {as O' : List Addr}, backA en1 ps outs en2 = some en' → Step Oa H1 (as ++ O') H' → EnvIs J.G H' (outs.map outSl) (vs.map some) O' → (as ++ O').Nodup →
        ∃ O2, EO J.G J.LV H' en' σ O2 ∧ Step O H (as ++ O2) H' ∧ (as ++ O2).Nodup := fun {outs en' H' as O'} eb st2 Eo nd2 => by
      have E2 := q2.keep st2.keep ma fun b hb z => m3 b z hb
      obtain ⟨p1, p2, p3⟩ := nd_app nd2
      have dis : ∀ b ∈ as ++ O', b ∉ Or := fun b hb z => by
        rcases st2.sub b hb with q | q
        · exact m3 b q z
        · obtain ⟨o, e, _⟩ := mr b z
          rw [q] at e; cases e
      obtain ⟨O2, r1, r2, r3⟩ := backA_ok h Eo E2 (nd_mk p2 m2 fun b hb => dis b (List.mem_append_right _ hb)) eb
      refine ⟨O2, ⟨r1, r2, lent eb, fun p hp => st2.dom.tab p hp (E.tb p hp)⟩, ⟨?_, st.dom.trans st2.dom, fun b hb => ?_⟩, nd_mk p1 r2 fun b hb z => ?_⟩
      · exact st.keep.trans st2.keep fun c hc => inO c (List.mem_append_left _ hc)
      · rcases List.mem_append.mp hb with hb | hb
        · rcases st2.sub b (List.mem_append_left _ hb) with q | q
          · exact inO b (List.mem_append_left _ q)
          · exact .inr (st.dom b q)
        · rcases List.mem_append.mp (r3 b hb) with q | q
          · rcases st2.sub b (List.mem_append_right _ q) with q | q
            · exact inO b (List.mem_append_left _ q)
            · exact .inr (st.dom b q)
          · exact inO b (List.mem_append_right _ q)
      · rcases List.mem_append.mp (r3 b z) with q | q
        · exact p3 b hb q
        · exact dis b (List.mem_append_left _ hb) q
    split at k
    · rename_i o outs eo
      split at k
      · rename_i en' eb
        rw [endz_ok] at k
        intro v H' O' as st2 Eo fo nd2
        obtain ⟨O2, r1, r2, r3⟩ := back eb st2 Eo nd2
        exact k v H' O2 as ⟨r2, r1, fo, r3⟩
      · exact k.elim
    · rename_i c p outs eo
      split at k
      · rename_i en' eb
        rintro cls d H' ⟨C, dd, v, O', h1, h2, h3, h4, h5, st2, Eo, nd2⟩
        obtain ⟨O2, r1, r2, r3⟩ := back (as := []) eb st2 Eo nd2
        exact k cls d H' ⟨C, dd, v, O2, h1, h2, h3, h4, h5, r2, r1⟩
      · exact k.elim
    · exact k.elim
  · exact k.elim
theorem run_fnG {kk : Nat} {f : Addr} {fd : FuncData} {ps : List Str} {sp : Sp} {pins : List (Addr × Obj)} {s : Shared} {σ : L2.St} {H : Hp} {Q : VK} {us : List Value} {args : Args} {vs : List V} (F : FnG X.prog X.w X.K X.mg X.base kk f fd ps sp) (hr : Room kk X.A) (hgd : X.A.guards = some []) (tk : Takes X J.W)
    (hb : BindsTo s fd args (ps.zip us)) (I : Inv X pins σ H s) (r : Vals vs us) (h : sp vs H Q (fun cls d H' => J.W cls d σ H')) : codeAny (model X.prog X.w) X.A (.call (.ref f) args) (fun r s' => match r with
      | .ok (.ret u) => EP X pins σ Q u s'
      | .ok _ => False
      | .error e => X.xe e s') s := by
  refine codeAny_mono (F.run X.A X.stack s H args us vs Q _ hr hgd I.env0 hb r h) fun r s' hq => ?_
  cases r with
  | error e => exact tk e s' (XE.of_call I (fun _ _ _ h => h) hq)
  | ok fl =>
    cases fl with
    | ret u => exact I.after hq
    | next => exact False.elim hq
    | brk => exact False.elim hq
    | cont => exact False.elim hq
def Es.len : Es → Nat
  | .nil => 0
  | .cons _ r => Es.len r + 1
  | .star _ r => Es.len r + 1
theorem evA_len : ∀ {A : Es} {l : List Bool} {en en' : En} {as : List Opd}, evA orc A l en = .ok as en' → as.length = A.len
  | .nil, [], en, en', as, e => by simp only [evA, Out.ok.injEq] at e; rw [← e.1]; rfl
  | .nil, _ :: _, en, en', as, e => by simp [evA] at e
  | .star _ _, _, en, en', as, e => by simp [evA] at e
  | .cons _ _, [], en, en', as, e => by simp [evA] at e
  | .cons a r, b :: l, en, en', as, e => by
    simp only [evA] at e
    cases h : mkA a b (evE orc a) en with
    | ok x en1 =>
      rw [h] at e
      simp only [Out.bnd] at e
      cases h2 : evA orc r l en1 with
      | ok y en2 =>
        rw [h2] at e
        simp only [Out.ok.injEq] at e
        rw [← e.1, List.length_cons, evA_len h2]; rfl
      | exc c p q => rw [h2] at e; cases e
      | bad => rw [h2] at e; cases e
    | exc c p q => rw [h] at e; cases e
    | bad => rw [h] at e; cases e
/-- f(e, ..) -/
theorem pe_call {e : Expr} {es : List Expr} {A : Es} {l : List Bool} {i kk : Nat} {f : Addr} {fd : FuncData} {ps : List Str} {x : Str} {p pos : Pos} (F : FnG X.prog X.w X.K X.mg X.base kk f fd ps (spF J.G J.fld ps.length (orc i))) (hr : Room kk X.A) (hgd : X.A.guards = some [])
    (tk : Takes X J.W) (hg : Gl X x) (hm : X.mg x = some (.ref f)) (hk : PySem.W.keepIn X.K (.ref f) = true) (hb : Binds X.K fd ps []) (ha : pA X J orc (e :: es) A l) (hn : A.len = ps.length)
    (hdb : (x == ("__debug__" : Str)) = false := by decide) (he : starEach (e :: es) X.env = (false, eval e X.env) :: starEach es X.env := by rfl) (hpl : (backTo pos (starEach es X.env)).any (·.1) = false := by rfl) :
    pE X J orc (.Call (.Name x p) (e :: es) [] pos) (.call i A l (List.range ps.length)) := by
  refine ⟨fun pins s σ H Q I ⟨en, O, E, k⟩ => ?_⟩
  simp only [evE, endz_bnd] at k
  refine wpAny_Call_Name_kw (ld_glob I hg hm ?_ hdb)
  cases hF : evA orc A l en with
  | bad => rw [hF] at k; exact k.elim
  | exc c q en' =>
    rw [hF] at k
    refine PySem.W.callWith_K (h₀ := X.base) I.ok.mod.kin hk (thn (ha.run pos pins s σ H (fun _ _ => False) I ⟨en, O, E, by rw [hF]; exact k⟩) fun us s1 ⟨_, _, _, _, z⟩ => z.elim) he hpl
  | ok as en1 =>
    have hl := (evA_len hF).trans hn
    rw [hF, endz_ok] at k
    rw [← hl, permute_range] at k
    simp only at k
    refine PySem.W.callWith_K (h₀ := X.base) I.ok.mod.kin hk (thn (ha.run pos pins s σ H (fun vs H1 => vs.length = ps.length ∧ spF J.G J.fld ps.length (orc i) vs H1 Q (fun cls d H' => J.W cls d σ H')) I ⟨en, O, E, by
      rw [hF]
      exact fun vs H1 O1 A1 st E1 h1 nd => ⟨by rw [h1.len, hl], call_sp (pins := pins) (s := s) st E1 h1 nd hl k⟩⟩) fun us s1 ⟨vs, H1, I1, r, hv, q⟩ => ⟨I1.kIn, ?_⟩) he hpl
    have b := hb s1 us I1.kIn (by rw [List.append_nil, ← r.length]; exact hv)
    rw [List.append_nil] at b
    refine wpAny_call (codeAny_mono (run_fnG F hr hgd tk b I1 r q) fun r s' hq => ?_)
    cases r with
    | error e => exact hq
    | ok fl => cases fl <;> first | exact hq | exact False.elim hq
/-- f(k = e, ..), the keywords in the parameters' order -/
theorem pe_callK {kws : List Keyword} {A : Es} {l : List Bool} {i kk : Nat} {f : Addr} {fd : FuncData} {ps : List Str} {x : Str} {p pos : Pos} (F : FnG X.prog X.w X.K X.mg X.base kk f fd ps (spF J.G J.fld ps.length (orc i))) (hr : Room kk X.A) (hgd : X.A.guards = some [])
    (tk : Takes X J.W) (hg : Gl X x) (hm : X.mg x = some (.ref f)) (hk : PySem.W.keepIn X.K (.ref f) = true) (hb : ∀ (s : Shared) (ws : List Value), X.K.In s.heap → ws.length = ps.length → BindsTo s fd ⟨[], ps.zip ws⟩ (ps.zip ws)) (ha : PK X kws (tAA J (evA orc A l))) (hn : A.len = ps.length)
    (hall : (backToKw pos (keywordEach kws X.env)).all (·.1.isSome) = true := by rfl) (hks : (backToKw pos (keywordEach kws X.env)).filterMap (·.1) = ps := by rfl)
    (hdb : (x == ("__debug__" : Str)) = false := by decide) (hpl : (backToKw pos (keywordEach kws X.env)).any (·.1.isNone) = false := by rfl) :
    pE X J orc (.Call (.Name x p) [] kws pos) (.call i A l (List.range ps.length)) := by
  refine ⟨fun pins s σ H Q I ⟨en, O, E, k⟩ => ?_⟩
  simp only [evE, endz_bnd] at k
  refine wpAny_Call_Name_kw (ld_glob I hg hm ?_ hdb)
  refine PySem.W.callWith_KW0 (h₀ := X.base) I.ok.mod.kin hk hall ?_ hpl
  cases hF : evA orc A l en with
  | bad => rw [hF] at k; exact k.elim
  | exc c q en' =>
    rw [hF] at k
    exact thn (ha.run pos pins s σ H (fun _ _ => False) I ⟨en, O, E, by rw [hF]; exact k⟩) fun us s1 ⟨_, _, _, _, z⟩ => z.elim
  | ok as en1 =>
    have hl := (evA_len hF).trans hn
    rw [hF, endz_ok] at k
    rw [← hl, permute_range] at k
    simp only at k
    refine thn (ha.run pos pins s σ H (fun vs H1 => vs.length = ps.length ∧ spF J.G J.fld ps.length (orc i) vs H1 Q (fun cls d H' => J.W cls d σ H')) I ⟨en, O, E, by
      rw [hF]
      exact fun vs H1 O1 A1 st E1 h1 nd => ⟨by rw [h1.len, hl], call_sp (pins := pins) (s := s) st E1 h1 nd hl k⟩⟩) fun us s1 ⟨vs, H1, I1, r, hv, q⟩ => ⟨I1.kIn, ?_⟩
    rw [hks]
    refine wpAny_call (codeAny_mono (run_fnG F hr hgd tk (hb s1 us I1.kIn (by rw [← r.length]; exact hv)) I1 r q) fun r s' hq => ?_)
    cases r with
    | error e => exact hq
    | ok fl => cases fl <;> first | exact hq | exact False.elim hq
theorem pkk_nil : PK X [] (tAA J (evA orc .nil [])) := ⟨fun pos pins s σ H Q I ⟨en, O, E, k⟩ => by
  simp only [evA, endz_ok] at k
  exact L2.pk_nil.run pos pins s σ H Q I (k [] H O [] Step.refl E ⟨rfl, rfl⟩ E.nd)⟩
theorem pkk_cons {nm : Option Str} {kpos : Pos} {e : Expr} {kws : List Keyword} {A : E} {B : Es} {l : Bool} {ls : List Bool} (h : pArg X J orc e A l) (hr : PK X kws (tAA J (evA orc B ls))) : PK X (⟨nm, e, kpos⟩ :: kws) (tAA J (evA orc (.cons A B) (l :: ls))) := by
  refine ⟨fun pos pins s σ H Q I ⟨en, O, E, k⟩ => ?_⟩
  simp only [evA, endz_bnd] at k
  refine (L2.pk_cons h hr).run pos pins s σ H Q I ⟨en, O, E, k.imp (fun o en1 k1 v H1 O1 a d => ⟨en1, O1, d.eo, k1.imp (fun ps en2 k2 vs H2 O2 A2 st2 E2 h2 n2 => ?_) fun _ _ _ x => XW.trans d.st.right x⟩) fun _ _ _ x => x⟩
  obtain ⟨m1, m2, m3⟩ := nd_app d.nd
  obtain ⟨m4, m5, m6⟩ := nd_app n2
  have ap := st2.apart d.ov.mut m3
  rw [endz_ok] at k2
  refine k2 (v :: vs) H2 O2 (a ++ A2) ⟨?_, ?_, ?_⟩ E2 ⟨v, vs, a, A2, rfl, d.ov.step st2 d.eo.env.mut m3, h2, rfl⟩ ?_
  · exact d.st.right.keep.trans st2.keep d.st.right.sub
  · exact d.st.dom.trans st2.dom
  · intro b hb
    simp only [List.mem_append] at hb
    rcases hb with (q | q) | q
    · exact d.st.sub b (List.mem_append_left _ q)
    · exact (d.st.right.trans st2).sub b (List.mem_append_left _ q)
    · exact (d.st.right.trans st2).sub b (List.mem_append_right _ q)
  · rw [List.append_assoc]
    exact nd_mk m1 n2 fun b hb => ap b hb
end
end PM

namespace PM
open PySem PySem.Spec PyProof.Rows
open L2 hiding St
variable [TC]

section
variable (J : Jx) (O : List Addr) (H : Hp) (D : Ends)
/-- behind a statement -/
def FlOk (fl : Fl) (en' : En) : Prop := match fl with
  | .nx => ∀ σ' H' O', Step O H O' H' → EO J.G J.LV H' en' σ' O' → D.nx σ' H'
  | .brk => ∀ σ' H' O', Step O H O' H' → EO J.G J.LV H' en' σ' O' → D.bk σ' H'
  | .ct => ∀ σ' H' O', Step O H O' H' → EO J.G J.LV H' en' σ' O' → D.ct σ' H'
  | .ret o => ∀ v σ' H' O' as, VD J σ' O H o en' v H' O' as → D.rt v H'
/-- an error leaves a statement -/
abbrev XS : Nat → PM.D → En → Prop := fun c p en' => ∀ cls d σ' H', ExW J σ' O H c p en' cls d H' → J.W cls d σ' H'
def tS (F : En → Out Fl) : TS := fun D σ H => ∃ en O, EO J.G J.LV H en σ O ∧ Endz (F en) (FlOk J O H D) (XS J O H)
end
section
variable {J : Jx} {X : Cx} {T : Tb} {orc : Orc}
abbrev pS (X : Cx) (J : Jx) (orc : Orc) (st : Stmt) (A : S) : Prop := PS X st (tS J (evS orc A))
abbrev pSs (X : Cx) (J : Jx) (orc : Orc) (st : List Stmt) (A : Ss) : Prop := PSs X st (tS J (evSs orc A))
theorem XS.trans {O O1 : List Addr} {H H1 : Hp} {c : Nat} {p : PM.D} {en' : En} (st : Step O H O1 H1) (x : XS J O H c p en') : XS J O1 H1 c p en' := fun cls d σ' H' h => x cls d σ' H' (h.trans st)
theorem XS.at {O : List Addr} {H : Hp} {σ : L2.St} {c : Nat} {p : PM.D} {en' : En} (x : XS J O H c p en') : XW J σ O H c p en' := fun cls d H' h => x cls d σ H' h
theorem FlOk.trans {O O1 : List Addr} {H H1 : Hp} {D : Ends} {fl : Fl} {en' : En} (st : Step O H O1 H1) (x : FlOk J O H D fl en') : FlOk J O1 H1 D fl en' := by
  cases fl with
  | nx => exact fun σ' H' O' s e => x σ' H' O' (st.trans s) e
  | brk => exact fun σ' H' O' s e => x σ' H' O' (st.trans s) e
  | ct => exact fun σ' H' O' s e => x σ' H' O' (st.trans s) e
  | ret o => exact fun v σ' H' O' as d => x v σ' H' O' as (d.trans st)
theorem pss_nil : pSs X J orc [] .nil := ⟨fun pins s σ H D I ⟨en, O, E, k⟩ => by
  simp only [evSs, endz_ok] at k
  exact L2.pss_nil.run pins s σ H D I (k σ H O Step.refl E)⟩
theorem pss_cons {st : Stmt} {rest : List Stmt} {A : S} {B : Ss} (h : pS X J orc st A) (hr : pSs X J orc rest B) : pSs X J orc (st :: rest) (.cons A B) := by
  refine ⟨fun pins s σ H D I ⟨en, O, E, k⟩ => ?_⟩
  simp only [evSs, endz_bnd] at k
  refine (L2.pss_cons h hr).run pins s σ H D I ⟨en, O, E, k.imp (fun fl en1 k1 => ?_) fun _ _ _ x => x⟩
  cases fl with
  | nx => exact fun σ1 H1 O1 st1 E1 => ⟨en1, O1, E1, k1.imp (fun _ _ h => h.trans st1) fun _ _ _ h => XS.trans st1 h⟩
  | brk => rw [endz_ok] at k1; exact k1
  | ct => rw [endz_ok] at k1; exact k1
  | ret o => rw [endz_ok] at k1; exact k1
/-- from an expression's end -/
theorem tE_of {F : En → Out OV} {σ : L2.St} {H : Hp} {en : En} {O : List Addr} {Q : VK} {k : OV → En → Prop} (E : EO J.G J.LV H en σ O) (ez : Endz (F en) k (XS J O H)) (hk : ∀ o en' v H' O' as, k o en' → VD J σ O H o en' v H' O' as → Q v H') : tE J F σ H Q :=
  ⟨en, O, E, ez.imp (fun o en' h v H' O' as d => hk o en' v H' O' as h d) fun _ _ _ x => XS.at x⟩
theorem ps_ret {e : Expr} {A : E} {pos : Pos} (h : pE X J orc e A) : pS X J orc (.Return (some e) pos) (.ret A) := by
  refine ⟨fun pins s σ H D I ⟨en, O, E, k⟩ => ?_⟩
  simp only [evS, endz_bnd, endz_ok] at k
  exact (L2.ps_ret h).run pins s σ H D I (tE_of E k fun o en' v H' O' as hk d => hk v σ H' O' as d)
theorem ps_retN {pos : Pos} : pS X J orc (.Return none pos) .retN := by
  refine ⟨fun pins s σ H D I ⟨en, O, E, k⟩ => ?_⟩
  simp only [evS, endz_ok] at k
  exact L2.ps_retN.run pins s σ H D I (k .non σ H O [] ⟨Step.refl, E, by simp [Ov, Fz], E.nd⟩)
theorem ps_pass {pos : Pos} : pS X J orc (.Pass pos) .pass := by
  refine ⟨fun pins s σ H D I ⟨en, O, E, k⟩ => ?_⟩
  simp only [evS, endz_ok] at k
  exact L2.ps_pass.run pins s σ H D I (k σ H O Step.refl E)
theorem ps_break {pos : Pos} : pS X J orc (.Break pos) .brk := by
  refine ⟨fun pins s σ H D I ⟨en, O, E, k⟩ => ?_⟩
  simp only [evS, endz_ok] at k
  exact L2.ps_break.run pins s σ H D I (k σ H O Step.refl E)
theorem ps_continue {pos : Pos} : pS X J orc (.Continue pos) .cont := by
  refine ⟨fun pins s σ H D I ⟨en, O, E, k⟩ => ?_⟩
  simp only [evS, endz_ok] at k
  exact L2.ps_continue.run pins s σ H D I (k σ H O Step.refl E)
theorem ps_expr {e : Expr} {A : E} {pos : Pos} (h : pE X J orc e A) (hs : swapsWith e none pos.line X.env = pure false := by rfl) : pS X J orc (.Expr e pos) (.expr A) := by
  refine ⟨fun pins s σ H D I ⟨en, O, E, k⟩ => ?_⟩
  simp only [evS, endz_bnd, endz_ok] at k
  exact (L2.ps_expr h hs).run pins s σ H D I (tE_of E k fun o en' v H' O' as hk d => hk σ H' O' d.st.right d.eo)
theorem ps_if {c : Expr} {a b : List Stmt} {C : PM.T} {A B : Ss} {pos : Pos} (hc : pT X J orc c C) (ha : pSs X J orc a A) (hb : pSs X J orc b B) : pS X J orc (.If c a b pos) (.if_ C A B) := by
  refine ⟨fun pins s σ H D I ⟨en, O, E, k⟩ => ?_⟩
  simp only [evS, endz_bnd] at k
  refine (L2.ps_if hc ha hb).run pins s σ H D I ⟨en, O, E, k.imp (fun t en1 k1 H1 O1 st1 E1 => ?_) fun _ _ _ x => XS.at x⟩
  cases t with
  | true => exact ⟨en1, O1, E1, Endz.imp k1 (fun _ _ h => h.trans st1) fun _ _ _ h => XS.trans st1 h⟩
  | false => exact ⟨en1, O1, E1, Endz.imp k1 (fun _ _ h => h.trans st1) fun _ _ _ h => XS.trans st1 h⟩
/-- a value stored in a name -/
theorem set_end {σ : L2.St} {H H' : Hp} {O O' as : List Addr} {D : Ends} {i : Nat} {o : OV} {en' : En} {v : V} (d : VD J σ O H o en' v H' O' as) (k : Endz (match putS i o en' with
    | some en' => Out.ok Fl.nx en'
    | none => .bad) (FlOk J O H D) (XS J O H)) : D.nx (σ.set i (some v)) H' := by
  split at k
  · rename_i en2 e2
    rw [endz_ok] at k
    obtain ⟨O2, E2, sub⟩ := d.eo.put e2 d.ov d.nd
    exact k _ H' O2 (d.st.less sub) E2
  · exact k.elim
theorem ps_set {i : Nat} {x : Str} {e : Expr} {A : E} {pos pos' : Pos} (hN : X.N.Nodup) (hi : X.N[i]? = some x) (hx : Loc X.env.scope x) (h : pE X J orc e A) (hf : X.fn x = true ∨ X.env.scope.names.lookup x = some .local) (hs : swapsWith e (some (.Name x pos')) pos.line X.env = pure false := by rfl) : pS X J orc (.Assign [.Name x pos'] e pos) (.set i A) := by
  refine ⟨fun pins s σ H D I ⟨en, O, E, k⟩ => ?_⟩
  simp only [evS, endz_bnd] at k
  exact (L2.ps_set hN hi hx h hs hf).run pins s σ H D I (tE_of E k fun o en' v H' O' as hk d => set_end d hk)
/-- name = [..] on one line -/
theorem ps_setLc {i : Nat} {y : Str} {py : Pos} {elt tg iter : Expr} {ifs : List Expr} {scope : Scope} {own : List (Str × Nat)} {pos spos : Pos} {A : E} {t : Tg} {it : PM.It} {cs : Ts} (hc : X.calm = true) (hN : X.N.Nodup) (hy : X.N[i]? = some y) (hyl : X.env.scope.names.lookup y = some .local)
    (hsw : swapsWith (.ListComp elt [⟨tg, iter, ifs, 0⟩] scope pos) (some (.Name y py)) spos.line X.env = pure true) (hi : pI X J orc tg iter it) (ok : BlkOk X.N X.env.scope scope own)
    (hg : ∀ (s : Shared) (H : Hp) (C : Addr) (cl : List (Str × Addr)) (fp : List Addr), PG (X.blk s H scope (compEnvC scope cl C X.env) fp) tg (tG J.G J.LV t)) (hsl : ∀ i ∈ t.slots, i ∈ own.map (·.2))
    (ht : ∀ (s : Shared) (H : Hp) (C : Addr) (cl : List (Str × Addr)) (fp : List Addr), PTs (X.blk s H scope (compEnvC scope cl C X.env) fp) ifs (tT J.nox (evCs orc cs)))
    (he : ∀ (s : Shared) (H : Hp) (C : Addr) (cl : List (Str × Addr)) (fp : List Addr), pE (X.blk s H scope (compEnvC scope cl C X.env) fp) J.nox orc elt A) (hs : ∀ x, foldedSetIterable iter X.env x = pure x := by intro _; rfl) :
    pS X J orc (.Assign [.Name y py] (.ListComp elt [⟨tg, iter, ifs, 0⟩] scope pos) spos) (.set i (.lc A t it cs (own.map (·.2)))) := by
  refine ⟨fun pins s σ H D I ⟨en, O, E, k⟩ => ?_⟩
  simp only [evS, endz_bnd] at k
  exact (L2.ps_setLc hc hN hy hyl hsw hi ok hg ht (fun s H C cl fp => pz (he s H C cl fp)) hs).run pins s σ H D I (lc_t hsl (tE_of E k fun o en' v H' O' as hk d => set_end d hk))
/-- targets = value -/
theorem ps_asg {tg e : Expr} {t : Tg} {A : E} {pos : Pos} (h : pE X J orc e A) (hg : PG X tg (tG J.G J.LV t)) (hs : swapsWithSole [tg] e pos.line X.env = pure false := by rfl) (hw : swappedStores [tg] e X.env = pure none := by rfl)
    (h1 : (assignEach [tg] X.env).map (·.2) = [assign tg X.env] := by rfl) : pS X J orc (.Assign [tg] e pos) (.asg t A) := by
  refine ⟨fun pins s σ H D I ⟨en, O, E, k⟩ => ?_⟩
  simp only [evS, endz_bnd, endz_ite] at k
  refine (L2.ps_asg (pz h) hg hs hw h1).run pins s σ H D I ⟨en, O, E, k.imp (fun o en1 k1 => ⟨k1.1, fun v H1 O1 d => ?_⟩) fun _ _ _ x => XS.at x⟩
  have k1 := k1.2
  split at k1
  · rename_i en2 e2
    rw [endz_ok] at k1
    exact ⟨en1, O1, o.d, en2, d.eo, d.fz, e2, fun σ2 O2 E2 sub w => k1 σ2 H1 O2 (d.st.less sub) E2⟩
  · exact k1.elim
/-! ## for -/
theorem forGo_ok {bnd : PM.D → En → Option En} {body : En → Out Fl} : True := trivial
theorem ps_for {tg iter : Expr} {body : List Stmt} {t : Tg} {it : PM.It} {B : Ss} {pos : Pos} (hp : PassesOwn (model X.prog X.w) X.A X.env X.xe) (hc : X.calm = true) (hi : pI X J orc tg iter it) (hg : PG X tg (tG J.G J.LV t)) (hb : pSs X J orc body B)
    (hs : ∀ x, foldedSetIterable iter X.env x = pure x := by intro _; rfl) : pS X J orc (.For tg iter body [] pos) (.for_ t it B) := by
  refine ⟨fun pins s σ H D I ⟨en, O, E, k⟩ => ?_⟩
  simp only [evS, endz_bnd] at k
  refine (L2.ps_for hp hc hi hg hb hs).run pins s σ H D I ⟨en, O, E, k.imp (fun ds en1 k1 It H1 O1 st1 E1 wk => ?_) fun _ _ _ x => XS.at x⟩
  have fp1 : ∀ {H' : Hp}, Keep O1 H1 H' → FP H1 H' := fun k => k.fp E1.env.mut
  refine ⟨fun i m σ' H' => m = ds.length - i ∧ i ≤ ds.length ∧ ∃ en' O', EO J.G J.LV H' en' σ' O' ∧ Step O1 H1 O' H' ∧ Endz (forGo (bind1 t) (evSs orc B) (ds.drop i) en') (FlOk J O H D) (XS J O H),
    ⟨ds.length, by simp, Nat.zero_le _, en1, O1, E1, Step.refl, by rw [List.drop_zero]; exact k1⟩, ?_⟩
  rintro i m σ' H' ⟨rfl, hi', en', O', E', st', kk⟩
  by_cases hlt : i < ds.length
  · refine .inr ⟨wk.go i ds[i] H' (fp1 st'.keep) (List.getElem?_eq_getElem hlt), fun σ2 H2 => (i + 1 ≤ ds.length ∧ ∃ en' O', EO J.G J.LV H2 en' σ2 O' ∧ Step O1 H1 O' H2 ∧ Endz (forGo (bind1 t) (evSs orc B) (ds.drop (i + 1)) en') (FlOk J O H D) (XS J O H)),
      fun σ2 H2 ⟨h1, h2⟩ => ⟨ds.length - (i + 1), by omega, rfl, h1, h2⟩, fun x H2 y => ?_⟩
    obtain ⟨kp, dm, fx⟩ := wk.yld i ds[i] H' x H2 (fp1 st'.keep) (List.getElem?_eq_getElem hlt) y
    rw [List.drop_eq_getElem_cons hlt] at kk
    simp only [forGo] at kk
    have E2 := E'.keep kp mutO_nil (fun b _ z => by cases z) dm
    have st2 : Step O1 H1 O' H2 := ⟨st'.keep.trans (kp.mono fun b hb => by cases hb) st'.sub, st'.dom.trans dm, st'.sub⟩
    split at kk
    · rename_i en2 eb
      rw [endz_bnd] at kk
      refine ⟨en', O', ds[i], en2, E2, fx, eb, fun σ3 O3 E3 sub3 _ => ⟨en2, O3, E3, kk.imp (fun fl en4 k4 => ?_) fun c p e4 x => ?_⟩⟩
      · have st3 := st2.less sub3
        cases fl with
        | nx => exact fun σ4 H4 O4 st4 E4 => ⟨by omega, en4, O4, E4, st3.trans st4, k4⟩
        | ct => exact fun σ4 H4 O4 st4 E4 => ⟨by omega, en4, O4, E4, st3.trans st4, k4⟩
        | brk =>
          rw [endz_ok] at k4
          exact fun σ4 H4 O4 st4 E4 => k4 σ4 H4 O4 (st1.trans (st3.trans st4)) E4
        | ret o =>
          rw [endz_ok] at k4
          exact fun v σ4 H4 O4 as d => k4 v σ4 H4 O4 as (d.trans (st1.trans st3))
      · exact XS.trans (st1.trans (st2.less sub3)) x
    · exact kk.elim
  · have hil : i = ds.length := by omega
    subst hil
    refine .inl ⟨wk.stop H' (fp1 st'.keep), ?_⟩
    rw [List.drop_length] at kk
    simp only [forGo, endz_ok] at kk
    exact kk σ' H' O' (st1.trans st') E'
end
end PM

namespace PM
open PySem PySem.Spec PyProof.Rows
open L2 hiding St
variable [TC]

theorem guards_deeper {A : Around} {env : Env} (h : A.guards = some []) : (A.deeper env).guards = some [] := by
  first | exact h | (unfold Around.deeper; exact h) | (simp [Around.deeper, h])
section
variable {G : GT} {H : Hp} {LV : Nat → Option V}
theorem envIs_no : ∀ {en : En} {σ : L2.St} {O : List Addr} (n : Nat), EnvIs G H en σ O → EnvIs G H (en ++ List.replicate n .no) (σ ++ List.replicate n none) O
  | [], σ, O, n, h => by
    obtain ⟨rfl, rfl⟩ := h
    induction n with
    | zero => exact ⟨rfl, rfl⟩
    | succ n ih => exact ⟨none, _, [], [], rfl, rfl, by simpa using ih, rfl⟩
  | s :: en, σ, O, n, h => by
    obtain ⟨sv, τ, a, b, rfl, h1z, h2z, rfl⟩ := h
    exact ⟨sv, _, a, b, rfl, h1z, envIs_no n h2z, rfl⟩
theorem outs_ok : ∀ {sl : List Sl} {en : En} {σ : L2.St} {vs : List V} {O : List Addr} {outs : List (Option OV)}, EnvIs G H en σ O → O.Nodup → vs.length = sl.length → (∀ (i : Nat) (o : OV), i < sl.length → en[i]? = some (.lent o) → ∃ v, vs[i]? = some v ∧ σ[i]? = some (some v)) → outsOf sl en = some outs →
    ∃ O', EnvIs G H (outs.map outSl) (vs.map some) O' ∧ O'.Nodup ∧ ∀ b ∈ O', b ∈ O
  | [], en, σ, vs, O, outs, E, nd, hl, ht, e => by
    simp only [outsOf, Option.some.injEq] at e
    subst e
    have : vs = [] := List.length_eq_zero_iff.mp hl
    subst this
    exact ⟨[], ⟨rfl, rfl⟩, .nil, fun b hb => by cases hb⟩
  | s0z :: sl, en, σ, vs, O, outs, E, nd, hl, ht, e => by
    cases vs with
    | nil => simp at hl
    | cons v vs =>
      cases en with
      | nil => cases s0z <;> simp [outsOf] at e
      | cons s en =>
        obtain ⟨sv, τ, a, b, rfl, h1z, h2z, rfl⟩ := E
        obtain ⟨n1z, n2z, n3z⟩ := nd_app nd
        have ih : ∀ {outs : List (Option OV)}, outsOf sl en = some outs → ∃ O', EnvIs G H (outs.map outSl) (vs.map some) O' ∧ O'.Nodup ∧ ∀ c ∈ O', c ∈ b := fun e => outs_ok h2z n2z (by simpa using hl) (fun i o hi h => by
          obtain ⟨v', q1z, q2z⟩ := ht (i + 1) o (by simpa using hi) (by simpa using h)
          exact ⟨v', by simpa using q1z, by simpa using q2z⟩) e
        cases s0z with
        | no => simp [outsOf] at e
        | ov o0z =>
          simp only [outsOf, Option.map_eq_some_iff] at e
          obtain ⟨t, e, rfl⟩ := e
          obtain ⟨O', q1z, q2z, q3z⟩ := ih e
          exact ⟨O', ⟨some v, vs.map some, [], O', rfl, rfl, q1z, rfl⟩, q2z, fun c hc => List.mem_append_right _ (q3z c hc)⟩
        | lent o0z =>
          cases s with
          | lent o =>
            simp only [outsOf, Option.map_eq_some_iff] at e
            obtain ⟨t, e, rfl⟩ := e
            obtain ⟨O', q1z, q2z, q3z⟩ := ih e
            obtain ⟨v', r1z, r2z⟩ := ht 0 o (by simp) rfl
            simp only [List.getElem?_cons_zero, Option.some.injEq] at r1z r2z
            subst r1z r2z
            obtain ⟨v2z, ev, f⟩ := h1z
            cases ev
            refine ⟨a ++ O', ⟨some v, vs.map some, a, O', rfl, ⟨v, rfl, f⟩, q1z, rfl⟩, nd_mk n1z q2z fun c hc z => n3z c hc (q3z c z), fun c hc => ?_⟩
            exact (List.mem_append.mp hc).elim (List.mem_append_left _) fun q => List.mem_append_right _ (q3z c q)
          | _ => simp [outsOf] at e
end
/-- a def's body's context -/
structure Bd (X : Cx) (J : Jx) (T : Tb) (k : Nat) : Prop where
  hG : J.G = Cxg X T
  room : Room k X.A
  gd : X.A.guards = some []
  tk : Takes X J.W
  calm : X.calm = true
  nd : X.N.Nodup
theorem Bd.hu {X : Cx} {J : Jx} {T : Tb} {k : Nat} (b : Bd X J T k) : X.A.units + 100 < cLine := by have := b.room.un; omega
theorem Bd.blk {X : Cx} {J : Jx} {T : Tb} {k : Nat} (b : Bd X J T k) (s : Shared) (H : Hp) (scope : Scope) (env : Env) (fp : List Addr) : Bd (X.blk s H scope env fp) J.nox T k :=
  ⟨b.hG, b.room, b.gd, fun u s' ⟨_, _, _, _, _, _, _, _, _, _, _, _, _, _, _, _, w⟩ => w.elim, b.calm, b.nd⟩
/-- THE RULE: a def, by its body -/
theorem fn_g {P : Program} {w : World} {K : PySem.W.Frag} {mg : Str → Option Value} {base : Heap} {k n m : Nat} {f : Addr} {name qual : Str} {params : Arguments} {body : List Stmt} {scope : Scope} {dV kV doc pm cdv ct oc : Value} {an od : Option Addr}
    {osl : Array (Option Value)} {N ps : List Str} {T : Tb} {fld : Nat → Str} {orc : Orc} {B : Ss} (lk : K.lookup f = some ⟨oc, od, .func (PySem.W.fnOf name qual params body scope dV kV doc pm an cdv ct), osl⟩) (hcd : PySem.W.codeIn K cdv qual = true) (S : FnScope N ps scope) (hn : ps.length = n) (hm : N.length = m)
    (hbody : ∀ (X : Cx) (J : Jx), Bd X J T k → PassesOwn (model X.prog X.w) X.A X.env X.xe → X.N = N → X.prog = P → X.w = w → X.K = K → X.mg = mg → X.base = base → (∃ L, X.env = envOfC qual scope L f cdv) → X.fn = (fun _ => true) → X.stack = X.env :: X.outer → X.env.frame = some X.env.locals → J.fld = fld → pSs X J orc body B) :
    FnG P w K mg base (k + 1) f (PySem.W.fnOf name qual params body scope dV kV doc pm an cdv ct) ps (spF ⟨P, w, K, T.fnA, T.clsA, T.tabs⟩ fld n (callOf orc n m B)) := by
  refine ⟨fun vs H Q E h => by rw [spF_len vs H Q E h, hn], fun A outer s H args us vs Q E hr hgd e0z hb r hsp => ?_⟩
  have hl : vs.length = ps.length := by rw [spF_len vs H Q E hsp, hn]
  have KX : K.In s.heap := e0z.mod.kin.keeps fun b o e => (e0z.bs b o e).1
  have lim : s.heap.NoLimit := e0z.mod.nolimit.keeps fun b o e => (e0z.bs b o e).1
  have hkind : ∀ y ∈ ps.zip us, scope.names.lookup y.1 = some .local ∨ (scope.names.lookup y.1 = some .cell ∧ ((cellsFrom (s.heap.objs.size + 1) scope.names []).lookup y.1).isSome = true) := fun ⟨n, v⟩ hy => by
    rcases S.par n (List.of_mem_zip hy).1 with q | q
    · exact .inl q
    · exact .inr ⟨q, PySem.W.cellsFrom_some _ _ _ (.inl q)⟩
  refine codeAny_call_function hr.depth (KX _ _ lk) rfl S.co S.gen rfl (PySem.W.codeRec_of KX hcd) (hb _ _ _ _ ?_)
  refine wpAny_newFunctionEnv_cells S.kind hkind fun env he s1z x => ?_
  subst he
  refine ⟨lim.keeps x.toInCall.keep, codeAny_func ?_⟩
  generalize hX : cxOf (L2.CX P w) P w K mg base N qual scope f cdv A outer s H E = X
  have I : Inv X [] (L2.start N vs) H s1z := by rw [← hX]; exact inv_start S hr.hd e0z hl r x
  let J : Jx := ⟨⟨P, w, K, T.fnA, T.clsA, T.tabs⟩, fld, fun i => vs[i]?, fun cls d _ H => E cls d H⟩
  have b : Bd X J T k := by
    subst hX
    exact ⟨rfl, hr.deeper _, guards_deeper hgd, takes_of rfl rfl rfl rfl, rfl, S.nd⟩
  have hp : PassesOwn (model X.prog X.w) X.A X.env X.xe := by subst hX; exact passes_of rfl
  have ht := hbody X J b hp (by subst hX; rfl) (by subst hX; rfl) (by subst hX; rfl) (by subst hX; rfl) (by subst hX; rfl) (by subst hX; rfl) ⟨s.heap.objs.size, by subst hX; rfl⟩ (by subst hX; rfl) (by subst hX; rfl) (by subst hX; rfl) rfl
  have fin : ∀ {σ' : L2.St} {H' : Hp} {v : V} {u : Value} {s' : Shared}, Inv X [] σ' H' s' → RelV v u → Q v H' → CE outer P w H s Q u s' := fun {σ' H' v u s'} J rv q => by
    subst hX
    exact ⟨v, H', J.os, J.bare, J.base, J.hok, rv, q⟩
  have hq : tS J (evSs orc B) { nx := fun _ H' => Q .non H', rt := Q } (L2.start N vs) H := by
    obtain ⟨sl, O, sll, Ea, nd, htb, hsp⟩ := hsp
    refine ⟨sl ++ List.replicate (m - n) .no, O, ⟨?_, nd, fun i o e => ?_, htb⟩, ?_⟩
    · have := envIs_no (m - n) Ea
      unfold L2.start
      rw [hl, hn, hm]
      exact this
    · have hi : i < sl.length := by
        by_cases hi : i < sl.length
        · exact hi
        · rw [List.getElem?_append_right (by omega), List.getElem?_replicate] at e
          split at e <;> cases e
      have hi2z : i < vs.length := by omega
      refine ⟨vs[i], List.getElem?_eq_getElem hi2z, ?_⟩
      unfold L2.start
      rw [List.getElem?_append_left (by simpa using hi2z), List.getElem?_map, List.getElem?_eq_getElem hi2z]
      rfl
    · have go : ∀ {en' : En} {outs : List (Option OV)} {σ' : L2.St} {H' : Hp} {O' as : List Addr}, outsOf sl en' = some outs → EO J.G J.LV H' en' σ' O' → (as ++ O').Nodup → ∃ O2, EnvIs J.G H' (outs.map outSl) (vs.map some) O2 ∧ (as ++ O2).Nodup ∧ ∀ c ∈ O2, c ∈ O' := fun {en' outs σ' H' O' as} eo E' nd2z => by
        obtain ⟨n1z, n2z, n3z⟩ := nd_app nd2z
        obtain ⟨O2, q1z, q2z, q3z⟩ := outs_ok (vs := vs) E'.env n2z (by omega) (fun i o hi h => by
          obtain ⟨v, h1z, h2z⟩ := E'.lent i o h
          exact ⟨v, h1z, h2z⟩) eo
        exact ⟨O2, q1z, nd_mk n1z q2z fun c hc z => n3z c hc (q3z c z), q3z⟩
      unfold callOf at hsp
      rw [if_pos sll] at hsp
      cases hF : evSs orc B (sl ++ List.replicate (m - n) .no) with
      | bad => rw [hF] at hsp; exact hsp.elim
      | exc c p en' =>
        rw [hF] at hsp
        simp only at hsp
        split at hsp
        · rename_i o outs eo h
          split at h
          · cases h
          · cases h
        · rename_i c' p' outs h
          split at h
          · rename_i outs' eo
            cases h
            rintro cls d σ' H' ⟨C, dd, v, O', h1z, h2z, h3z, h4z, h5z, h6z, h7z⟩
            obtain ⟨O2, q1z, q2z, q3z⟩ := go (as := []) eo h7z h7z.nd
            exact hsp cls d H' ⟨C, dd, v, O2, h1z, h2z, h3z, h4z, h5z, h6z.less q3z, q1z, q2z⟩
          · cases h
        · exact hsp.elim
      | ok fl en' =>
        rw [hF] at hsp
        cases fl with
        | ret o =>
          simp only at hsp
          split at hsp
          · rename_i o' outs h
            split at h
            · rename_i outs' eo
              cases h
              intro v σ' H' O' as d
              obtain ⟨O2, q1z, q2z, q3z⟩ := go eo d.eo d.nd
              exact hsp v H' O2 as (d.st.less fun c hc => (List.mem_append.mp hc).elim (List.mem_append_left _) fun q => List.mem_append_right _ (q3z c q)) q1z d.ov q2z
            · cases h
          · rename_i h
            split at h
            · cases h
            · cases h
          · exact hsp.elim
        | nx =>
          simp only at hsp
          split at hsp
          · rename_i o' outs h
            split at h
            · rename_i outs' eo
              cases h
              intro σ' H' O' st' E'
              obtain ⟨O2, q1z, q2z, q3z⟩ := go (as := []) eo E' E'.nd
              exact hsp .non H' O2 [] (st'.less q3z) q1z (by simp [Ov, Fz]) q2z
            · cases h
          · rename_i h
            split at h
            · cases h
            · cases h
          · exact hsp.elim
        | brk => exact hsp.elim
        | ct => exact hsp.elim
  have hxe : ∀ e s', X.xe e s' → wpAny (model P w) (A.deeper (envOfC qual scope s.heap.objs.size f cdv)) (leaving (envOfC qual scope s.heap.objs.size f cdv) e) (fun _ s'' => L2.CX P w outer H s E e s'') (fun e' s'' => L2.CX P w outer H s E e' s'') s' := fun e s' h => by
    subst hX
    exact h
  have hrun := ht.run [] s1z (L2.start N vs) H _ I hq
  subst hX
  refine wpAny_mono hrun (fun fl s' hs => ?_) fun e s' hs => hs
  cases fl with
  | ret u =>
    obtain ⟨v, σ', H', J, rv, q⟩ := hs
    exact fin J rv q
  | next =>
    obtain ⟨σ', H', J, q⟩ := hs
    exact fin (v := V.non) (u := Value.none) J rfl q
  | brk =>
    obtain ⟨_, _, _, q⟩ := hs
    exact False.elim q
  | cont =>
    obtain ⟨_, _, _, q⟩ := hs
    exact False.elim q
end PM

namespace PM
open PySem PySem.Spec PyProof.Rows
open L2 hiding St
variable [TC]

/-- an owned dict of frozen entries -/
def RawD (G : GT) (H : Hp) (a : Addr) (kvs : List (PM.D × PM.D)) : Prop := ∃ o es ep, H a = some (raw a o) ∧ (a == sysModules) = false ∧ o.ExactDict ∧ o.data = .dict es ep ∧ FzKV G H kvs es.toList ∧
      (kvs.map (fun p => p.1.key)).Nodup ∧ ((∀ p ∈ kvs, p.1.isLeaf = true) ∨ (∀ p ∈ kvs, p.1.isTup = true)) ∧ kvs.length ≤ sizeLine
theorem flatKV_map (ds : List (PM.D × PM.D)) : OV.flatKV (ds.map fun p => (p.1, .frz p.2)) = some ds := by
  induction ds with
  | nil => rfl
  | cons p r ih => obtain ⟨k, d⟩ := p; simp only [List.map_cons, OV.flatKV, ih, Option.map_some]
theorem ovKV_frz {G : GT} {H : Hp} : ∀ {ds : List (PM.D × PM.D)} {es : List DictEntry}, FzKV G H ds es → OvKV G H (ds.map fun p => (p.1, .frz p.2)) es []
  | [], es, f => by simp only [FzKV] at f; simp [OvKV, f]
  | (k, d) :: r, es, f => by
    simp only [FzKV] at f
    obtain ⟨en, s, kv, vv, nk, rfl, h1, h2, h3, h4, h5, h6, h7, h8⟩ := f
    simp only [List.map_cons, OvKV, Ov]
    exact ⟨en, s, kv, vv, nk, [], [], rfl, h1, h2, h3, h4, h5, h6, ⟨h7, rfl⟩, ovKV_frz h8, rfl⟩
theorem RawD.ov {G : GT} {H : Hp} {a : Addr} {kvs : List (PM.D × PM.D)} (h : RawD G H a kvs) : Ov G H (.dic (kvs.map fun p => (p.1, .frz p.2))) (.ref a) [a] := by
  obtain ⟨o, es, ep, h1, h2, h3, h4, h5, h6, h7, h8⟩ := h
  simp only [Ov]
  refine ⟨a, o, es, ep, [], rfl, h1, h2, h3, h4, ovKV_frz h5, ?_, ?_, ?_, rfl⟩
  · rw [List.map_map]; exact h6
  · refine h7.imp (fun h p hp => ?_) fun h p hp => ?_
    · obtain ⟨q, hq, rfl⟩ := List.mem_map.mp hp; exact h q hq
    · obtain ⟨q, hq, rfl⟩ := List.mem_map.mp hp; exact h q hq
  · rw [List.length_map]; exact h8
theorem RawD.of_ov {G : GT} {H : Hp} {kvs : List (PM.D × OV)} {ds : List (PM.D × PM.D)} {v : V} {as : List Addr} (h : Ov G H (.dic kvs) v as) (e : OV.flatKV kvs = some ds) : ∃ a, v = .ref a ∧ as = [a] ∧ RawD G H a ds := by
  simp only [Ov] at h
  obtain ⟨a, o, es, ep, bs, rfl, h1, h2, h3, h4, h5, h6, h7, h8, rfl⟩ := h
  obtain ⟨f, rfl, em⟩ := ovKV_flats h5 e
  have e1 : ∀ (q : PM.D → Bool), (∀ p ∈ kvs, q p.1 = true) → ∀ p ∈ ds, q p.1 = true := fun q hq p hp => by
    have z : p.1 ∈ kvs.map (fun p => p.1) := by rw [← em]; exact List.mem_map.mpr ⟨p, hp, rfl⟩
    obtain ⟨p', hp', e'⟩ := List.mem_map.mp z
    rw [← e']; exact hq p' hp'
  refine ⟨a, rfl, rfl, o, es, ep, h1, h2, h3, h4, f, ?_, h7.imp (e1 _) (e1 _), ?_⟩
  · have : ds.map (fun p => p.1.key) = kvs.map (fun p => p.1.key) := by
      have := congrArg (List.map PM.D.key) em
      simpa [List.map_map, Function.comp_def] using this
    rw [this]; exact h6
  · have := congrArg List.length em
    simp only [List.length_map] at this
    omega
section
variable {X : Cx} {T : Tb} {pins : List (Addr × Obj)} {σ : L2.St} {H : Hp} {s : Shared}
theorem RawD.dicAt {h : Heap} {a : Addr} {kvs : List (PM.D × PM.D)} (d : RawD (Cxg X T) H a kvs) (ok : HOk X.prog X.w H h) : DicAt (Cxg X T) H h a kvs := by
  obtain ⟨o, es, ep, h1, h2, h3, h4, h5, h6, h7, h8⟩ := d
  exact ⟨⟨o, es, ep, raw_at ok h1, h3, h4, h5⟩, h2, h6, h7, h8⟩
theorem raw_mut {a : Addr} {o : Obj} (e : H a = some (raw a o)) : MutO H [a] := mutO_one e rfl trivial
theorem putD_length (kvs : List (PM.D × PM.D)) (k d : PM.D) : (putD kvs k d).length ≤ kvs.length + 1 := by
  unfold putD
  split
  · rw [List.length_map]; omega
  · rw [List.length_append]; simp
/-- behind the write -/
theorem put_done {a : Addr} {o o' : Obj} {h' : Heap} {t' : Nat} {kvs' : List (PM.D × PM.D)} {es' : Array DictEntry} {ep' : Nat} (I : Inv X pins σ H s) (e : H a = some (raw a o)) (hs : Heap.SameBut a s.heap h') (hsys : (a == sysModules) = false)
    (ho : h'.get? a = some o') (hx : o'.ExactDict) (hd : o'.data = .dict es' ep') (f : FzKV (Cxg X T) H kvs' es'.toList) (hn : (kvs'.map (fun p => p.1.key)).Nodup) (hl : (∀ p ∈ kvs', p.1.isLeaf = true) ∨ (∀ p ∈ kvs', p.1.isTup = true)) (hz : kvs'.length ≤ sizeLine) :
    Inv X pins σ (upd H a (raw a o')) { s with heap := h', toks := t' } ∧ RawD (Cxg X T) (upd H a (raw a o')) a kvs' := by
  have fp : FP H (upd H a (raw a o')) := (keep_upd (a := a)).fp (raw_mut e)
  exact ⟨d_write I (by rw [e]; trivial) hs ⟨o', ho⟩ (raw_ok ho), o', es', ep', upd_same, hsys, hx, hd, FzKV.mono fp _ _ f, hn, hl, hz⟩
theorem put_core {a : Addr} {kvs : List (PM.D × PM.D)} {k d : PM.D} {v w : V} {u z : Value} {t : Sem Unit} {Q : Unit → Shared → Prop} {E : Value → Shared → Prop} (I : Inv X pins σ H s) (hu : X.A.units + 100 < cLine) (R : RawD (Cxg X T) H a kvs) (fk : Fz (Cxg X T) H k v) (fd : Fz (Cxg X T) H d w) (rk : RelV v u) (rd : RelV w z)
    (hk : askOk (kvs.map (·.1)) k = true) (hl : kvs.length < sizeLine)
    (h1 : ∀ (ls : List (Key × Value)) (key : Key) (Q : Unit → Shared → Prop), keyIs key u = true → s.heap.DictOf (mixKind X.prog X.w) a ls → ls.length ≤ sizeLine → (∀ h', h'.DictOf (mixKind X.prog X.w) a (stored ls key z) → Heap.SameBut a s.heap h' → Q () { s with heap := h', toks := s.toks + 1 }) → wpAny (model X.prog X.w) X.A t Q E s)
    (h2 : ∀ (ls : List (NestedKey × Addr × Value)) (nk : NestedKey) (b : Addr) (Q : Unit → Shared → Prop), u = .ref b → (nestedKind X.prog X.w).is s.heap nk b → s.heap.DictOfH (nestedKind X.prog X.w) a ls → ls.length ≤ sizeLine → (∀ h', h'.DictOfH (nestedKind X.prog X.w) a (storedH ls nk b z) → Heap.SameBut a s.heap h' → Q () { s with heap := h', toks := s.toks + (nestedKind X.prog X.w).draws nk }) → wpAny (model X.prog X.w) X.A t Q E s)
    (hq : ∀ s' o', Inv X pins σ (upd H a (raw a o')) s' → RawD (Cxg X T) (upd H a (raw a o')) a (putD kvs k d) → Q () s') : wpAny (model X.prog X.w) X.A t Q E s := by
  obtain ⟨nk, e1, e2, e3⟩ := askOk_cases hk
  have da := R.dicAt I.hok
  obtain ⟨o, es, ep, r1, r2, r3, r4, r5, r6, r7, r8⟩ := R
  have hz : (putD kvs k d).length ≤ sizeLine := by have := putD_length kvs k d; omega
  rcases e3 with ⟨g1, g2⟩ | ⟨g1, g2⟩
  · obtain ⟨ls, q, dd⟩ := da.leaf g2
    have ev := keyS_V g1 fk
    subst ev
    refine h1 ls (keyS k) Q (relV_kV rk) dd (by rw [q.length]; exact r8) fun h' dd' sb => ?_
    have q' := q.put (d := d) g1 rd fd
    obtain ⟨o', es', ep', ho, hx, hd, hks, hp, hn⟩ := dd'
    obtain ⟨I', R'⟩ := put_done (t' := s.toks + 1) (T := T) I r1 sb r2 ho hx hd (LK.back (G := Cxg X T) q' hp fun e he => hks e (Array.mem_toList_iff.mp he)) (q'.nodup.mp hn) (.inl q'.leaf) hz
    exact hq _ o' I' R'
  · obtain ⟨ls, q, dd⟩ := da.tup I.hok I.kIn g2
    obtain ⟨b, rfl⟩ := fz_tup_ref g1 fk
    cases rk
    have is1 : (nestedKind X.prog X.w).is s.heap nk b := ⟨Fz.nested (G := Cxg X T) I.hok I.kIn k _ _ nk e1 fk rfl, e2⟩
    refine h2 ls nk b Q rfl is1 dd (by rw [q.length]; exact r8) fun h' dd' sb => ?_
    have q' := q.put (d := d) g1 e1 e2 fk rd fd
    obtain ⟨o', es', ep', ho, hx, hd, he, his, hn⟩ := dd'
    have ht : ∀ p ∈ putD kvs k d, p.1.isTup = true := by
      intro p hp
      unfold putD at hp
      split at hp
      · obtain ⟨p', hp', rfl⟩ := List.mem_map.mp hp
        split
        · exact g2 p' hp'
        · exact g2 p' hp'
      · rcases List.mem_append.mp hp with hp | hp
        · exact g2 p hp
        · rw [List.mem_singleton] at hp; rw [hp]; exact g1
    obtain ⟨I', R'⟩ := put_done (t' := s.toks + (nestedKind X.prog X.w).draws nk) (T := T) I r1 sb r2 ho hx hd (by rw [he]; exact TK.back (G := Cxg X T) q') (q'.nodup.mp hn) (.inr ht) hz
    exact hq _ o' I' R'
/-- a[k] = d -/
theorem put_item {a : Addr} {kvs : List (PM.D × PM.D)} {k d : PM.D} {v w : V} {u z : Value} {Q : Unit → Shared → Prop} {E : Value → Shared → Prop} (I : Inv X pins σ H s) (hu : X.A.units + 100 < cLine) (R : RawD (Cxg X T) H a kvs) (fk : Fz (Cxg X T) H k v) (fd : Fz (Cxg X T) H d w) (rk : RelV v u) (rd : RelV w z)
    (hk : askOk (kvs.map (·.1)) k = true) (hl : kvs.length < sizeLine)
    (hq : ∀ s' o', Inv X pins σ (upd H a (raw a o')) s' → RawD (Cxg X T) (upd H a (raw a o')) a (putD kvs k d) → Q () s') : wpAny (model X.prog X.w) X.A (setItem (.ref a) u z) Q E s :=
  put_core I hu R fk fd rk rd hk hl (fun ls key Q hi dd hz h => wpAny_setItem_pairs (hsz := hz) hi dd h) (fun ls nk b Q eb hi dd hz h => by
    subst eb
    exact wpAny_setItem_heap (hsz := hz) (by show X.A.units + 1 + 8 < cLine; omega) hi dd h) hq
theorem put_dict {a : Addr} {kvs : List (PM.D × PM.D)} {k d : PM.D} {v w : V} {u z : Value} {Q : Unit → Shared → Prop} {E : Value → Shared → Prop} (I : Inv X pins σ H s) (hu : X.A.units + 100 < cLine) (R : RawD (Cxg X T) H a kvs) (fk : Fz (Cxg X T) H k v) (fd : Fz (Cxg X T) H d w) (rk : RelV v u) (rd : RelV w z)
    (hk : askOk (kvs.map (·.1)) k = true) (hl : kvs.length < sizeLine)
    (hq : ∀ s' o', Inv X pins σ (upd H a (raw a o')) s' → RawD (Cxg X T) (upd H a (raw a o')) a (putD kvs k d) → Q () s') : wpAny (model X.prog X.w) X.A (dictSet a u z) Q E s :=
  put_core I hu R fk fd rk rd hk hl (fun ls key Q hi dd hz h => wpAny_dictSet_pairs (hsz := hz) hi dd h) (fun ls nk b Q eb hi dd hz h => by
    subst eb
    exact wpAny_dictSet_heap (hsz := hz) (by show X.A.units + 8 < cLine; omega) hi dd h) hq
end
section
variable {J : Jx} {X : Cx} {T : Tb} {orc : Orc}
/-- x[k] = v, x a name that owns a dict -/
theorem ps_setk {x : Str} {i : Nat} {idx value : Expr} {px pos pos' : Pos} {K V' : E} (hG : J.G = Cxg X T) (hu : X.A.units + 100 < cLine) (hN : X.N[i]? = some x) (hv : Vis X.env.scope x) (hd : (x == ("__debug__" : Str)) = false) (hcd : (x == ("__classdict__" : Str)) = false)
    (hval : pE X J orc value V') (hk : pE X J orc idx K) (hs : swapsWith value (some (.Subscript (.Name x px) idx pos')) pos.line X.env = pure false := by rfl) : pS X J orc (.Assign [.Subscript (.Name x px) idx pos'] value pos) (.setk i K V') := by
  refine ⟨fun pins s σ H D I ⟨en, O, E, k⟩ => ?_⟩
  simp only [evS, endz_bnd, endz_ite] at k
  have kx : Endz (evE orc V' en) _ (XW J σ O H) := k.imp (fun _ _ h => h) fun _ _ _ h => XS.at h
  refine wpAny_Assign_Subscript (runF hval I E kx fun ov en1 r s1 w O1 k1 hf1 rw1 => ?_) hs
  obtain ⟨hc1, k1⟩ := k1
  obtain ⟨H1, I1, d1⟩ := hf1 hc1
  refine runO (po_var (orc := orc) hN hv hd hcd) I1 d1.eo (k1.imp (fun _ _ h => h) fun _ _ _ h => XS.at (XS.trans d1.st h)) fun od en2 uo s2 vo H2 O2 as2 k2 I2 r2 d2 => ?_
  have st2 : Step O H O2 H2 := d1.st.trans d2.st.right
  split at k2
  · rename_i j
    obtain ⟨rfl, hsl⟩ := d2.ov
    have f1 : Fz J.G H2 ov.d w := Fz.mono (d2.st.keep.fp d1.eo.env.mut) _ _ d1.fz
    rw [endz_bnd] at k2
    refine runE hk I2 d2.eo (k2.imp (fun _ _ h => h) fun _ _ _ h => XS.at (XS.trans st2 h)) fun ok en3 uk s3 vk H3 O3 as3 k3 I3 r3 d3 => ?_
    have st3 : Step O H O3 H3 := st2.trans d3.st.right
    have f1 := Fz.mono (d3.st.keep.fp d2.eo.env.mut) _ _ f1
    split at k3
    · rename_i kd
      have hkv := d3.ov
      simp only [Ov] at hkv
      obtain ⟨fk, rfl⟩ := hkv
      have fin : ∀ (kvs : List (PM.D × OV)) (s0 : Sl), en3[j]? = some s0 → (s0 = .ov (.dic kvs) ∨ s0 = .lent (.dic kvs)) → ∀ ds, OV.flatKV kvs = some ds → askOk (ds.map (·.1)) kd = true → ds.length < sizeLine →
          (∀ s', (s' = Sl.ov (.dic ((putD ds kd ov.d).map fun p => (p.1, .frz p.2))) ∨ s' = Sl.lent (.dic ((putD ds kd ov.d).map fun p => (p.1, .frz p.2)))) → (∀ o', s' = .lent o' → ∃ o'', s0 = .lent o'') → (∀ o', s0 = .lent o' → ∃ o'', s' = .lent o'') → FlOk J O H D .nx (en3.set j s') →
          wpAny (model X.prog X.w) X.A (setItem uo uk r) (fun _ => SP X pins D .next) X.xe s3) := fun kvs s0 e0 hs0 ds ef hask hlen s' hs' hl1 hl2 k4 => by
        obtain ⟨P1, a0, P2, sv, hO, e2, h3, back⟩ := d3.eo.env.split e0
        rw [hsl] at e2; cases e2
        have fo : Ov J.G H3 (.dic kvs) vo a0 := by
          rcases hs0 with rfl | rfl
          · obtain ⟨v', e, h⟩ := h3; cases e; exact h
          · obtain ⟨v', e, h⟩ := h3; cases e; exact h
        obtain ⟨a, rfl, rfl, R⟩ := RawD.of_ov fo ef
        cases r2
        have R0 := R
        obtain ⟨o0, _, _, ha0, _, _, hd0, _⟩ := R0
        rw [hG] at R fk f1
        refine put_item I3 hu R fk f1 r3 rw1 hask hlen fun s4 o' I4 R4 => ?_
        rw [← hG] at R4
        have ndO := d3.eo.nd
        rw [hO] at ndO
        obtain ⟨m1, m2, m3⟩ := nd_app ndO
        obtain ⟨m4, m5, m6⟩ := nd_app m2
        have ku : Keep [a] H3 (upd H3 a (raw a o')) := keep_upd
        have mu := raw_mut ha0
        have E4 := back (upd H3 a (raw a o')) s' (some (.ref a)) [a] (fun {t tv as} ht hn => ht.keep ku mu fun b hb z => by
          rw [List.mem_singleton] at z
          subst z
          rcases List.mem_append.mp (hn b hb) with q | q
          · exact m3 b q (by simp)
          · exact m6 b (by simp) q) (by rcases hs' with rfl | rfl <;> exact ⟨.ref a, rfl, R4.ov⟩)
        rw [set_self hsl] at E4
        refine ⟨σ, _, I4, k4 σ _ (P1 ++ ([a] ++ P2)) ⟨st3.keep.trans (ku.mono (O1 := O3) fun c hc => by rw [List.mem_singleton] at hc; rw [hc, hO]; simp) st3.sub, st3.dom.trans (Dom.upd ha0 (noCode_raw hd0)), fun b hb => st3.sub b (by rw [hO]; exact hb)⟩ ⟨E4, ndO, fun j' o1 e1 => ?_, fun p hp => (Dom.upd ha0 (noCode_raw hd0)).tab p hp (d3.eo.tb p hp)⟩⟩
        by_cases hj : j = j'
        · subst hj
          rw [List.getElem?_set] at e1
          simp only [if_true] at e1
          split at e1
          · simp only [Option.some.injEq] at e1
            obtain ⟨o'', h''⟩ := hl1 o1 e1
            exact d3.eo.lent j o'' (by rw [e0, h''])
          · cases e1
        · rw [List.getElem?_set_ne hj] at e1
          exact d3.eo.lent j' o1 e1
      unfold setK at k3
      split at k3
      · rename_i en' es
        split at es
        · rename_i kvs e0
          obtain ⟨ds, ef, es⟩ := Option.bind_eq_some_iff.mp es
          obtain ⟨⟨ha, hl⟩, rfl⟩ := gd_some.mp es
          rw [endz_ok] at k3
          exact fin kvs _ e0 (.inl rfl) ds ef ha hl _ (.inl rfl) (fun _ z => by cases z) (fun _ z => by cases z) k3
        · rename_i kvs e0
          obtain ⟨ds, ef, es⟩ := Option.bind_eq_some_iff.mp es
          obtain ⟨⟨ha, hl⟩, rfl⟩ := gd_some.mp es
          rw [endz_ok] at k3
          exact fin kvs _ e0 (.inr rfl) ds ef ha hl _ (.inr rfl) (fun o' z => ⟨_, rfl⟩) (fun o' z => ⟨_, rfl⟩) k3
        · cases es
      · exact k3.elim
    · exact k3.elim
  · exact k2.elim
end
end PM

namespace PM
open PySem PySem.Spec PyProof.Rows
open L2 hiding St
variable [TC]

/-- __init__(self, given): self.f = given -/
def spInit (C : Addr) (f : Str) : Sp := fun vs H Q _ => ∃ a y, vs = [.ref a, y] ∧ H a = some (exo a C none) ∧ ∀ dx, H dx = none → dx ≠ a → Q .non (upd (upd H dx (exd dx [(f, y)])) a (exo a C (some dx)))
theorem spInit_len {C : Addr} {f : Str} (vs : List V) (H : Hp) (Q : VK) (E : XK) (h : spInit C f vs H Q E) : vs.length = 2 := by
  obtain ⟨a, y, rfl, _⟩ := h; rfl
/-- what is known of an error's class -/
structure ExC (K : PySem.W.Frag) (C : Addr) (f : Str) (fI : Addr) : Prop where
  oex : OexC K C
  no : PySem.W.findIn K (.ref C) f = some none
  init : PySem.W.findIn K (.ref C) "__init__" = some (some (.ref fI))
  ty : PySem.W.typeIn K (.ref fI) = some (.type "function")
section
variable {J : Jx} {X : Cx} {T : Tb} {orc : Orc}
theorem ps_raise {e : Expr} {A : E} {c kk : Nat} {C fI : Addr} {fd : FuncData} {ps : List Str} {x : Str} {p pos pos2 : Pos} {CX : CXT} (hG : J.G = Cxg X T) (hc : X.calm = true) (tk : Takes X J.W) (T1 : ExC X.K C (J.fld c) fI) (F1 : FnOk X.prog X.w X.K X.mg X.base CX kk fI fd ps (spInit C (J.fld c))) (hr : Room (kk + 1) X.A) (hb : Binds X.K fd ps []) (hx : Passes CX X (fun _ _ _ => False))
    (hcls : J.G.clsA c = some C) (hg : Gl X x) (hm : X.mg x = some (.ref C)) (ha : pE X J orc e A) (hdb : (x == ("__debug__" : Str)) = false := by decide) (he : starEach [e] X.env = (false, eval e X.env) :: starEach [] X.env := by rfl) (hpl : (backTo pos (starEach ([] : List Expr) X.env)).any (·.1) = false := by rfl) :
    pS X J orc (.Raise (some (.Call (.Name x p) [e] [] pos)) none pos2) (.raise c A) := by
  refine ⟨fun pins s σ H D I ⟨en, O, E, k⟩ => ?_⟩
  simp only [evS, endz_bnd, endz_ite] at k
  refine (L2.ps_raise hc tk (pmk_oex T1.oex T1.init T1.ty F1 hr hb .nil hx hg hm (L2.pa_cons (pz ha) L2.pa_nil he) hdb he hpl)).run pins s σ H D I ?_
  refine ⟨en, O, E, k.imp (fun o en1 k1 => ⟨k1.1, fun v H1 O1 d => ⟨by simp, fun a na => ⟨a, v, rfl, upd_same, fun dx ndx nea => ⟨rfl, dx, [(J.fld c, v)], upd_same, ?_, ?_, ?_⟩⟩⟩⟩) fun _ _ _ x => XS.at x⟩
  · rw [upd_ne nea, upd_same]
  · rw [upd_ne nea] at ndx; exact ndx
  · have nd1 : H1 dx = none := by rw [upd_ne nea] at ndx; exact ndx
    have eq : ∀ b, b ≠ a → b ≠ dx → (upd (del (upd (upd (upd H1 a (exo a C none)) dx (exd dx [(J.fld c, v)])) a (exo a C (some dx))) a) dx (.xd [(J.fld c, v)])) b = H1 b := fun b h1 h2 => by
      rw [upd_ne h2, del_ne h1, upd_ne h1, upd_ne h2, upd_ne h1]
    have kp : Keep [] H1 (upd (del (upd (upd (upd H1 a (exo a C none)) dx (exd dx [(J.fld c, v)])) a (exo a C (some dx))) a) dx (.xd [(J.fld c, v)])) := fun b o e _ _ => by
      rw [eq b (fun z => by rw [z, na] at e; cases e) (fun z => by rw [z, nd1] at e; cases e)]; exact e
    have dm : Dom H1 (upd (del (upd (upd (upd H1 a (exo a C none)) dx (exd dx [(J.fld c, v)])) a (exo a C (some dx))) a) dx (.xd [(J.fld c, v)])) := .all (fun b e => by
      by_cases h1 : b = a
      · rw [h1]; exact na
      · by_cases h2 : b = dx
        · rw [h2, upd_same] at e; cases e
        · rw [eq b h1 h2] at e; exact e) fun b o e => by
      rw [eq b (fun z => by rw [z, na] at e; cases e) (fun z => by rw [z, nd1] at e; cases e)]; exact e
    have k2 := k1.2
    have st : Step O1 H1 O1 (upd (del (upd (upd (upd H1 a (exo a C none)) dx (exd dx [(J.fld c, v)])) a (exo a C (some dx))) a) dx (.xd [(J.fld c, v)])) := ⟨kp.mono fun b hb => (by cases hb), dm, fun b hb => .inl hb⟩
    exact k2 (.ref C) (some dx) σ _ ⟨C, dx, v, O1, hcls, rfl, rfl, upd_same, Fz.mono (kp.fp mutO_nil) _ _ d.fz, d.st.trans st, d.eo.keep kp mutO_nil (fun b _ z => by cases z) dm⟩
end
end PM

namespace PM
open PySem PySem.Spec PyProof.Rows
open L2 hiding St
variable [TC]

/-! ## clauses, with a name or without -/
/-- what is wanted behind a clause that has a name -/
def asD (D : Ends) (i : Nat) : Ends := { nx := fun σ' H' => D.nx (σ'.set i none) H', rt := D.rt, bk := fun σ' H' => D.bk (σ'.set i none) H', ct := fun σ' H' => D.ct (σ'.set i none) H' }
def wMix (K : PySem.W.Frag) (Wout : WX) (D : Ends) : List (Value × Option Nat × (Addr → Value → Option Addr → TS)) → WX
  | [] => Wout
  | (c, none, ts) :: r => fun cls d σ H => ∃ b, PySem.W.exmOne K cls c = some b ∧ (b = true → ∀ a, H a = none → ts a cls d D σ H) ∧ (b = false → wMix K Wout D r cls d σ H)
  | (c, some i, ts) :: r => fun cls d σ H => ∃ b, PySem.W.exmOne K cls c = some b ∧ (b = true → ∀ a, H a = none → ts a cls d (asD D i) (σ.set i (some (.ref a))) H) ∧ (b = false → wMix K Wout D r cls d σ H)
inductive MixOk (X : Cx) : List ExceptHandler → List (Value × Option Nat × (Addr → Value → Option Addr → TS)) → Prop
  | nil : MixOk X [] []
  | cons {x : Str} {c : Value} {ts : Addr → Value → Option Addr → TS} {b₀ : Stmt} {suite : List Stmt} {np pos' : Pos} {hds : List ExceptHandler} {l : List (Value × Option Nat × (Addr → Value → Option Addr → TS))} (hc : Names X x c)
      (hsu : ∀ (a : Addr) (oe : Obj) (cls : Value) (d : Option Addr) (pn : List (Addr × Obj)), Zc cls d oe → (∃ vs, oe.data = .fields vs) → PSs (X.suite a ((a, oe) :: pn)) (b₀ :: suite) (ts a cls d)) (r : MixOk X hds l) :
      MixOk X (.ExceptHandler (some (.Name x np)) none (b₀ :: suite) pos' :: hds) ((c, none, ts) :: l)
  | as {x n : Str} {i : Nat} {c : Value} {ts : Addr → Value → Option Addr → TS} {b₀ : Stmt} {suite : List Stmt} {np pos' : Pos} {hds : List ExceptHandler} {l : List (Value × Option Nat × (Addr → Value → Option Addr → TS))} (hc : Names X x c) (hi : X.N[i]? = some n) (hln : X.env.kindOf n = some .local)
      (hsu : ∀ (a : Addr) (oe : Obj) (cls : Value) (d : Option Addr) (pn : List (Addr × Obj)), Zc cls d oe → (∃ vs, oe.data = .fields vs) → PSs (X.suite a ((a, oe) :: pn)) (b₀ :: suite) (ts a cls d)) (r : MixOk X hds l) :
      MixOk X (.ExceptHandler (some (.Name x np)) (some n) (b₀ :: suite) pos' :: hds) ((c, some i, ts) :: l)
section
variable {X : Cx} {body : List Stmt} {h₀ : ExceptHandler} {hds : List ExceptHandler} {l : List (Value × Option Nat × (Addr → Value → Option Addr → TS))} {pos : Pos} {tb : WX → TS} {Wout : WX}
theorem ps_try_mix (hs : X.stack = X.env :: X.outer) (hf : X.env.frame = some X.env.locals) (hN : X.N.Nodup) (tk : Takes X Wout)
    (hb : ∀ (W : WX) (pn : List (Addr × Obj)) (xe : Value → Shared → Prop), Takes (X.tr pn xe) W → PassesOwn (model X.prog X.w) X.A X.env xe → PSs (X.tr pn xe) body (tb W))
    (hh : MixOk X (h₀ :: hds) l) : PS X (.Try body (h₀ :: hds) [] [] pos) (fun D σ H => tb (wMix X.K Wout D l) D σ H) := by
  refine ⟨fun pins s σ H D I h => ?_⟩
  have ok := I.ok
  have hfr : X.A.frames = some (X.env :: X.outer) := by rw [ok.frames, hs]
  refine wpAny_Try_except ?_
  refine wpAny_mono ((hb (wMix X.K Wout D l) (X.pn ++ pins) (fun e s₁ => wpAny (model X.prog X.w) X.A (noteFrame e X.env) (fun _ s₂ => wpAny (model X.prog X.w) X.A (setFlight e none) (fun _ s₃ =>
    wpAny (model X.prog X.w) X.A (handleBy e X.env (h₀ :: hds)) (SP X pins D) X.xe s₃) X.xe s₂) X.xe s₁) (fun u s' xx => ?_) PassesOwn.looking).run [] s σ H D (I.toTry _) h) (fun f s1z hsp => ?_) (fun e s1z he => he)
  · obtain ⟨a, B, sI, pins', σ', H', cls, d, rfl, J', nb, up, sky, na, os, ag, w⟩ := xx
    have J : Inv X pins σ' H' sI := J'.ofTry ok
    have sky' : Sky B (X.env :: X.outer) a (Zc cls d) X.env.locals s'.heap := by rw [← hs]; exact sky
    show wpAny (model X.prog X.w) X.A (noteFrame (.ref a) X.env) _ _ _
    refine Sky.land Zc.steady hfr hf sky' fun h3z fl3z up3z => ?_
    have J3z : Inv X pins σ' H' { s' with heap := h3z } := J.landed nb fl3z.1 (up.trans up3z) os ag
    obtain ⟨oe3z, vs3z, he3z, hz3z, hd3z⟩ := fl3z.there
    have notFr : ∀ {h : Heap} {o : Obj} {vs : Array Value}, h.FunFrames B (X.env :: X.outer) → h.get? a = some o → o.data = .fields vs → a ∉ frs (X.env :: X.outer) := fun {h o vs} ff e dd hm => by
      obtain ⟨_, o', e', hnf⟩ := ff.mem hm
      rw [e] at e'; cases e'
      exact hnf _ dd
    have nfr := notFr fl3z.2.2.1 he3z hd3z
    have nL : a ≠ X.env.locals := fun z => nfr (List.mem_filterMap.mpr ⟨X.env, List.mem_cons_self, by rw [hf, z]⟩)
    have nF : a ∉ X.fs := fun hm => by
      obtain ⟨e, he, q⟩ := List.mem_filterMap.mp hm
      exact nfr (List.mem_filterMap.mpr ⟨e, List.mem_cons_of_mem _ he, q⟩)
    have S3z := J3z.suite he3z hd3z na nL nF
    have test : ∀ {x : Str} {c : Value} {np : Pos} {Q : Value → Shared → Prop} {E : Value → Shared → Prop}, Names X x c → Q c { s' with heap := h3z } → wpAny (model X.prog X.w) (X.A.mark (some (.ref a))) (eval (.Name x np) X.env) Q E { s' with heap := h3z } := fun {x c np Q E} hc q => by
      obtain ⟨hg, hdbg, hm | ⟨hm, hv, hnn⟩⟩ := hc
      · exact ld_glob (X := X.suite a ((a, oe3z) :: (X.pn ++ pins))) S3z hg hm q hdbg
      · exact ld_blt (X := X.suite a ((a, oe3z) :: (X.pn ++ pins))) S3z hg hm hv q hnn hdbg
    have LT : PySem.W.Looks (model X.prog X.w) h3z (typeOf (.ref a)) cls := fun A Q E s k q => wpAny_typeOf_ref (k _ _ he3z) (by rw [hz3z.1]; exact q)
    have go : ∀ {hds' : List ExceptHandler} {l' : List (Value × Option Nat × (Addr → Value → Option Addr → TS))}, MixOk X hds' l' → wMix X.K Wout D l' cls d σ' H' →
        wpAny (model X.prog X.w) X.A (handleBy (.ref a) X.env hds') (SP X pins D) X.xe { s' with heap := h3z } := by
      intro hds' l' hk
      induction hk with
      | nil =>
        intro w
        refine wpAny_handleBy_nil ?_
        obtain ⟨k1z, k2z, k3z, oe, vs, T, oT, ts', he, hz, hd, h1z, hr⟩ := id fl3z
        unfold PySem.passOn
        refine wpAny_bind (wpAny_field he hd h1z ?_)
        rw [if_neg (show ¬ ((Value.ref T == Value.none) = true) from by simp)]
        have fin : wpAny (model X.prog X.w) X.A (setFlight (.ref a) X.env.frame) (fun _ s4z => wpAny (model X.prog X.w) X.A (throw (.ref a) : Sem Flow) (SP X pins D) X.xe s4z) X.xe { s' with heap := h3z } := by
          rw [hf]
          refine HandSPX.setFlight_upZ fl3z fun h4z hh4z up4z => wpAny_throw (tk _ _ ?_)
          exact ⟨a, B, sI, pins, σ', H', cls, d, rfl, J, nb, (up.trans up3z).trans up4z, .inr (.inr (by rw [hs]; exact hh4z)), na, os, ag, w⟩
        first
          | exact wpAny_bind (wpAny_pure (wpAny_bind fin))
          | exact wpAny_bind fin
      | @cons x c ts b₀ suite np pos' hds2z l2z hc hsu r ih =>
        intro w
        obtain ⟨b, hb1z, hyes, hno⟩ := w
        refine wpAny_handleBy_cons (codeAny_handlers_test ?_) (by intro q; cases q)
        have LM := PySem.W.exm_one (M := model X.prog X.w) (J3z.kIn) LT hb1z
        refine test hc (LM.here ?_)
        cases b with
        | true =>
          refine codeAny_handlers_suite ?_
          refine HandSPX.lands_againZ fl3z fun h4z fl4z up4z => ?_
          have J4z : Inv X pins σ' H' { s' with heap := h4z } := J.landed nb fl4z.1 ((up.trans up3z).trans up4z) os ag
          obtain ⟨oe4z, vs4z, he4z, hz4z, hd4z⟩ := fl4z.there
          have S4z := J4z.suite he4z hd4z na nL nF
          refine wpAny_mono ((hsu a oe4z cls d (X.pn ++ pins) hz4z ⟨_, hd4z⟩).run [] _ _ H' _ S4z (hyes rfl a na)) (fun f s6z hsp => ?_) (fun _ _ z => False.elim z)
          cases f with
          | next =>
            obtain ⟨σ6, H6z, S6z, q6z⟩ := hsp
            exact ⟨_, _, S6z.unsuite ok, q6z⟩
          | brk =>
            obtain ⟨σ6, H6z, S6z, q6z⟩ := hsp
            exact ⟨_, _, S6z.unsuite ok, q6z⟩
          | cont =>
            obtain ⟨σ6, H6z, S6z, q6z⟩ := hsp
            exact ⟨_, _, S6z.unsuite ok, q6z⟩
          | ret u =>
            obtain ⟨v6z, σ6, H6z, S6z, r6z, q6z⟩ := hsp
            exact ⟨_, _, _, S6z.unsuite ok, r6z, q6z⟩
        | false =>
          show wpAny _ X.A (handleBy (.ref a) X.env hds2z) _ _ _
          exact ih (hno rfl)
      | @as x n i c ts b₀ suite np pos' hds2z l2z hc hi hln hsu r ih =>
        intro w
        obtain ⟨b, hb1z, hyes, hno⟩ := w
        have hloc : Loc X.env.scope n := .inl hln
        refine wpAny_handleBy_cons (codeAny_handlers_test ?_) (by intro q; cases q)
        have LM := PySem.W.exm_one (M := model X.prog X.w) (J3z.kIn) LT hb1z
        refine test hc (LM.here ?_)
        cases b with
        | true =>
          refine codeAny_handlers_suite_as ?_
          refine HandSPX.lands_againZ fl3z fun h4z fl4z up4z => ?_
          have J4z : Inv X pins σ' H' { s' with heap := h4z } := J.landed nb fl4z.1 ((up.trans up3z).trans up4z) os ag
          obtain ⟨oe4z, vs4z, he4z, hz4z, hd4z⟩ := fl4z.there
          have S4z := J4z.suite he4z hd4z na nL nF
          refine store_ok (X := X.suite a ((a, oe4z) :: (X.pn ++ pins))) (v := .ref a) S4z hN hi hloc rfl (fun s5z S5z => ?_) (.inr hln)
          refine wpAny_mono ((hsu a oe4z cls d (X.pn ++ pins) hz4z ⟨_, hd4z⟩).run [] s5z _ H' _ S5z (hyes rfl a na)) (fun f s6z hsp => ?_) (fun _ _ z => False.elim z)
          have end_ : ∀ {σ6 : L2.St} {H6z : Hp} {Q : Shared → Prop}, Inv (X.suite a ((a, oe4z) :: (X.pn ++ pins))) [] σ6 H6z s6z → (∀ s7z, Inv X pins (σ6.set i none) H6z s7z → Q s7z) →
              wpAny (model X.prog X.w) X.A (do bindName X.env n .none; unbindBehindTheSuite X.env n pos') (fun _ s7z => Q s7z) X.xe s6z := fun {σ6 H6z Q} S6z hq => gone_ok (S6z.unsuite ok) hN hi hln hq
          cases f with
          | next =>
            obtain ⟨σ6, H6z, S6z, q6z⟩ := hsp
            exact end_ S6z fun s7z J7z => ⟨_, _, J7z, q6z⟩
          | brk =>
            obtain ⟨σ6, H6z, S6z, q6z⟩ := hsp
            exact end_ S6z fun s7z J7z => ⟨_, _, J7z, q6z⟩
          | cont =>
            obtain ⟨σ6, H6z, S6z, q6z⟩ := hsp
            exact end_ S6z fun s7z J7z => ⟨_, _, J7z, q6z⟩
          | ret u =>
            obtain ⟨v6z, σ6, H6z, S6z, r6z, q6z⟩ := hsp
            exact end_ S6z fun s7z J7z => ⟨_, _, _, J7z, r6z, q6z⟩
        | false =>
          show wpAny _ X.A (handleBy (.ref a) X.env hds2z) _ _ _
          exact ih (hno rfl)
    exact go hh w
  · cases f with
    | next =>
      obtain ⟨σ', H', J', q⟩ := hsp
      exact wpAny_execs_nil ⟨σ', H', J'.ofTry ok, q⟩
    | brk =>
      obtain ⟨σ', H', J', q⟩ := hsp
      exact ⟨σ', H', J'.ofTry ok, q⟩
    | cont =>
      obtain ⟨σ', H', J', q⟩ := hsp
      exact ⟨σ', H', J'.ofTry ok, q⟩
    | ret u =>
      obtain ⟨v, σ', H', J', r, q⟩ := hsp
      exact ⟨v, σ', H', J'.ofTry ok, r, q⟩
end
end PM

namespace PM
open PySem PySem.Spec PyProof.Rows
open L2 hiding St
variable [TC]

/-- what is known of the classes that a clause takes -/
structure HCls (X : Cx) (J : Jx) (hc : Value) (cs : List Nat) (f : Str) : Prop where
  is : ∀ i C, J.G.clsA i = some C → PySem.W.exmOne X.K (.ref C) hc = some (decide (i ∈ cs))
  xf : ∀ i C, J.G.clsA i = some C → i ∈ cs → XfC X.K C ∧ PySem.W.findIn X.K (.ref C) f = some none ∧ J.fld i = f
section
variable {J : Jx} {X : Cx} {T : Tb} {orc : Orc}
/-- e.f, e the caught error -/
def tXfA (a : Addr) (cls : Value) (d : Option Addr) (f : Str) (te : TE) (X : Cx) : TE := fun σ H Q => ∃ C, XfC X.K C ∧ PySem.W.findIn X.K (.ref C) f = some none ∧ tXf a cls d C f te σ H Q
theorem pe_xfA {a : Addr} {oe : Obj} {cls : Value} {d : Option Addr} {pn : List (Addr × Obj)} {e : Expr} {te : TE} {pos : Pos} {n : Str} (hz : Zc cls d oe) (hf : ∃ vs, oe.data = .fields vs) (he : PE (X.suite a ((a, oe) :: pn)) e te) (hb : attributeBase e n X.env (eval e X.env) = eval e X.env := by rfl) :
    PE (X.suite a ((a, oe) :: pn)) (.Attribute e n pos) (tXfA a cls d n te X) := ⟨fun pins s σ H Q I ⟨C, h1, h2, h3⟩ => (pe_xf h1 h2 hz hf he hb).run pins s σ H Q I h3⟩
/-- the field of the caught error -/
theorem xf_run {σ : L2.St} {H H' : Hp} {O : List Addr} {a : Addr} {i c : Nat} {p : PM.D} {en' : En} {cls : Value} {d : Option Addr} {hc : Value} {cs : List Nat} {f : Str} {Q : VK} (h : HCls X J hc cs f) (hic : c ∈ cs) (x : ExW J σ O H c p en' cls d H') (hi : i < σ.length)
    (hq : ∀ v, Fz J.G H' p v → Q v H') : tXfA a cls d f (tVar i) X (σ.set i (some (.ref a))) H' Q := by
  obtain ⟨C, dd, v, O', h1, rfl, rfl, h4, h5, h6, h7⟩ := x
  obtain ⟨g1, g2, g3⟩ := h.xf c C h1 hic
  refine ⟨C, g1, g2, .ref a, by rw [List.getElem?_set]; simp [hi], rfl, rfl, dd, _, v, rfl, h4, ?_, hq v h5⟩
  rw [g3]
  simp [List.lookup]
inductive HRel (X : Cx) (J : Jx) (orc : Orc) : List ExceptHandler → Hs → List (Value × Option Nat × (Addr → Value → Option Addr → TS)) → Prop
  | nil : HRel X J orc [] .nil []
  | pair {x n tag f : Str} {i : Nat} {hc : Value} {cs : List Nat} {np p1 p2 p3 p4 p5 p6 : Pos} {j c : Nat} {hds : List ExceptHandler} {r : Hs} {l : List (Value × Option Nat × (Addr → Value → Option Addr → TS))} (hn : Names X x hc) (hi : X.N[i]? = some n) (hln : X.env.kindOf n = some .local) (hd : (n == ("__debug__" : Str)) = false) (hcd : (n == ("__classdict__" : Str)) = false) (h : HCls X J hc cs f) (rr : HRel X J orc hds r l) :
      HRel X J orc (.ExceptHandler (some (.Name x np)) (some n) [.Return (some (.Tuple [.Constant (.str tag) j p1, .Attribute (.Name n p2) f p3] c p4)) p5] p6 :: hds) (.cons cs (.pair i tag) r)
        ((hc, some i, fun a cls d => tRet (tTup (tCons (tC (.str tag)) (tCons (tXfA a cls d f (tVar i) X) tNil)))) :: l)
  | self {x n f : Str} {i : Nat} {hc : Value} {cs : List Nat} {np p2 p3 p5 p6 : Pos} {hds : List ExceptHandler} {r : Hs} {l : List (Value × Option Nat × (Addr → Value → Option Addr → TS))} (hn : Names X x hc) (hi : X.N[i]? = some n) (hln : X.env.kindOf n = some .local) (hd : (n == ("__debug__" : Str)) = false) (hcd : (n == ("__classdict__" : Str)) = false) (h : HCls X J hc cs f) (rr : HRel X J orc hds r l) :
      HRel X J orc (.ExceptHandler (some (.Name x np)) (some n) [.Return (some (.Attribute (.Name n p2) f p3)) p5] p6 :: hds) (.cons cs (.self i) r)
        ((hc, some i, fun a cls d => tRet (tXfA a cls d f (tVar i) X)) :: l)
  | one {x n f : Str} {i : Nat} {hc : Value} {cs : List Nat} {np p2 p3 p4 p5 p6 : Pos} {hds : List ExceptHandler} {r : Hs} {l : List (Value × Option Nat × (Addr → Value → Option Addr → TS))} (hn : Names X x hc) (hi : X.N[i]? = some n) (hln : X.env.kindOf n = some .local) (hd : (n == ("__debug__" : Str)) = false) (hcd : (n == ("__classdict__" : Str)) = false) (h : HCls X J hc cs f) (rr : HRel X J orc hds r l) :
      HRel X J orc (.ExceptHandler (some (.Name x np)) (some n) [.Return (some (.List [.Attribute (.Name n p2) f p3] p4)) p5] p6 :: hds) (.cons cs (.one i) r)
        ((hc, some i, fun a cls d => tRet (tLst (tCons (tXfA a cls d f (tVar i) X) tNil))) :: l)
  | plain {x : Str} {e : Expr} {A : E} {hc : Value} {cs : List Nat} {np p5 p6 : Pos} {hds : List ExceptHandler} {r : Hs} {l : List (Value × Option Nat × (Addr → Value → Option Addr → TS))} (hn : Names X x hc) (h : ∀ i C, J.G.clsA i = some C → PySem.W.exmOne X.K (.ref C) hc = some (decide (i ∈ cs)))
      (he : ∀ (a : Addr) (pn : List (Addr × Obj)), pE (X.suite a pn) J.nox orc e A) (rr : HRel X J orc hds r l) :
      HRel X J orc (.ExceptHandler (some (.Name x np)) none [.Return (some e) p5] p6 :: hds) (.cons cs (.plain A) r)
        ((hc, none, fun _ _ _ => tRet (tE J.nox (evE orc A))) :: l)
theorem HRel.mix {hds : List ExceptHandler} {hs : Hs} {l : List (Value × Option Nat × (Addr → Value → Option Addr → TS))} (h : HRel X J orc hds hs l) : MixOk X hds l := by
  induction h with
  | nil => exact .nil
  | pair hn hi hln hd hcd h rr ih =>
    exact .as hn hi hln (fun a oe cls d pn hz hf => pss_one (L2.ps_ret (L2.pe_tup (L2.pa_cons L2.pe_str (L2.pa_cons (pe_xfA hz hf (pe_var hi (.inl hln) hd hcd)) L2.pa_nil))))) ih
  | self hn hi hln hd hcd h rr ih =>
    exact .as hn hi hln (fun a oe cls d pn hz hf => pss_one (L2.ps_ret (pe_xfA hz hf (pe_var hi (.inl hln) hd hcd)))) ih
  | one hn hi hln hd hcd h rr ih =>
    exact .as hn hi hln (fun a oe cls d pn hz hf => pss_one (L2.ps_ret (L2.pe_lst (L2.pa_cons (pe_xfA hz hf (pe_var hi (.inl hln) hd hcd)) L2.pa_nil)))) ih
  | plain hn h he rr ih =>
    exact .cons hn (fun a oe cls d pn hz hf => pss_one (L2.ps_ret (he a _))) ih
/-- the names at a handler's return -/
theorem EO.gone {σ : L2.St} {H : Hp} {O : List Addr} {en : En} {i : Nat} {v : Option V} (E : EO J.G J.LV H en σ O) (hok : okOwn en [i] = true) : i < σ.length ∧ EO J.G J.LV H (en.set i .no) (σ.set i v) O := by
  obtain ⟨s, e, c⟩ := okOwn_at hok (i := i) (by simp)
  have hl := E.env.len
  obtain ⟨hi, _⟩ := List.getElem?_eq_some_iff.mp e
  refine ⟨by omega, E.env.cold e c rfl, E.nd, fun j o ej => ?_, E.tb⟩
  by_cases hj : i = j
  · subst hj
    rw [List.getElem?_set] at ej
    simp only [if_true] at ej
    split at ej <;> cases ej
  · rw [List.getElem?_set_ne hj] at ej
    obtain ⟨v, h1, h2⟩ := E.lent j o ej
    exact ⟨v, h1, by rw [List.getElem?_set_ne hj]; exact h2⟩
theorem wmix_ok {O : List Addr} {H : Hp} {D : Ends} {c : Nat} {p : PM.D} {en' : En} {hds : List ExceptHandler} {hs : Hs} {l : List (Value × Option Nat × (Addr → Value → Option Addr → TS))} (h : HRel X J orc hds hs l)
    (k : Endz (match pick c hs with
      | some h => hkRes orc p h en'
      | none => .exc c p en') (FlOk J O H D) (XS J O H)) (cls : Value) (d : Option Addr) (σ' : L2.St) (H' : Hp) (x : ExW J σ' O H c p en' cls d H') : wMix X.K J.W D l cls d σ' H' := by
  have x0 := x
  obtain ⟨C, dd, v, O', h1, rfl, rfl, h4, h5, h6, h7⟩ := x0
  induction h with
  | nil => exact k (.ref C) (some dd) σ' H' x
  | @pair x1 n1 tag f1 i1 hc1 cs1 np p1 p2 p3 p4 p5 p6 j1 c1 hds1 r1 l1 hn hi hln hd hcd h rr ih =>
    refine ⟨_, h.is c C h1, fun hb a na => ?_, fun hb => ih ?_⟩
    · have hic := of_decide_eq_true hb
      simp only [pick, if_pos hic, hkRes, endz_ite] at k
      obtain ⟨hok, k⟩ := k
      rw [endz_ok] at k
      obtain ⟨hlt, E2⟩ := h7.gone (v := some (.ref a)) hok
      refine xf_run h hic x hlt fun v fv => ⟨by show 2 ≤ sizeLine; decide, fun q nq => ?_⟩
      obtain ⟨as, dv⟩ := VD.of_nr E2 h6 (nq_tup nq (FzL.cons (show Fz J.G H' (.str tag) (.str tag) by simp [Fz]) (FzL.one fv)))
      exact k _ _ _ O' as dv
    · have hic := of_decide_eq_false hb
      simp only [pick, if_neg hic] at k
      exact k
  | self hn hi hln hd hcd h rr ih =>
    refine ⟨_, h.is c C h1, fun hb a na => ?_, fun hb => ih ?_⟩
    · have hic := of_decide_eq_true hb
      simp only [pick, if_pos hic, hkRes, endz_ite] at k
      obtain ⟨hok, k⟩ := k
      rw [endz_ok] at k
      obtain ⟨hlt, E2⟩ := h7.gone (v := some (.ref a)) hok
      exact xf_run h hic x hlt fun v fv => k _ _ _ O' [] ⟨h6, E2, by simp only [Ov]; exact ⟨fv, trivial⟩, E2.nd⟩
    · have hic := of_decide_eq_false hb
      simp only [pick, if_neg hic] at k
      exact k
  | one hn hi hln hd hcd h rr ih =>
    refine ⟨_, h.is c C h1, fun hb a na => ?_, fun hb => ih ?_⟩
    · have hic := of_decide_eq_true hb
      simp only [pick, if_pos hic, hkRes, endz_ite] at k
      obtain ⟨hok, k⟩ := k
      rw [endz_ok] at k
      obtain ⟨hlt, E2⟩ := h7.gone (v := some (.ref a)) hok
      refine xf_run h hic x hlt fun v fv => ⟨by show 1 ≤ sizeLine; decide, fun q nq => ?_⟩
      obtain ⟨as, dv⟩ := VD.of_nr E2 h6 (nq_lst nq (FzL.one fv))
      exact k _ _ _ O' as dv
    · have hic := of_decide_eq_false hb
      simp only [pick, if_neg hic] at k
      exact k
  | plain hn h he rr ih =>
    refine ⟨_, h c C h1, fun hb a na => ?_, fun hb => ih ?_⟩
    · have hic := of_decide_eq_true hb
      simp only [pick, if_pos hic, hkRes, endz_bnd, endz_nx, endz_ok] at k
      exact ⟨en', O', h7, k.imp (fun o en2 k2 v H2 O2 as dv => k2 v _ H2 O2 as ((show VD J σ' O' H' o en2 v H2 O2 as from ⟨dv.st, dv.eo, dv.ov, dv.nd⟩).trans h6)) fun _ _ _ x => x.elim⟩
    · have hic := of_decide_eq_false hb
      simp only [pick, if_neg hic] at k
      exact k
/-- try: body, handlers that return -/
theorem ps_try {body : List Stmt} {h₀ : ExceptHandler} {hds : List ExceptHandler} {B : Ss} {hs : Hs} {l : List (Value × Option Nat × (Addr → Value → Option Addr → TS))} {pos : Pos} (hst : X.stack = X.env :: X.outer) (hf : X.env.frame = some X.env.locals) (hN : X.N.Nodup) (tk : Takes X J.W)
    (hb : ∀ (W : WX) (pn : List (Addr × Obj)) (xe : Value → Shared → Prop), Takes (X.tr pn xe) W → PassesOwn (model X.prog X.w) X.A X.env xe → pSs (X.tr pn xe) { J with W := W } orc body B) (hh : HRel X J orc (h₀ :: hds) hs l) : pS X J orc (.Try body (h₀ :: hds) [] [] pos) (.try_ B hs) := by
  refine ⟨fun pins s σ H D I ⟨en, O, E, k⟩ => ?_⟩
  simp only [evS] at k
  refine (ps_try_mix (tb := fun W => tS { J with W := W } (evSs orc B)) hst hf hN tk hb hh.mix).run pins s σ H D I ⟨en, O, E, ?_⟩
  cases hF : evSs orc B en with
  | ok fl en1 =>
    rw [hF] at k
    simp only [endz_ok] at k ⊢
    cases fl with
    | ret o => exact fun v σ1 H1 O1 as d => k v σ1 H1 O1 as ⟨d.st, d.eo, d.ov, d.nd⟩
    | nx => exact k
    | brk => exact k
    | ct => exact k
  | exc c p en1 =>
    rw [hF] at k
    exact fun cls d σ' H' x => wmix_ok hh k cls d σ' H' x
  | bad => rw [hF] at k; exact k.elim
end
end PM

namespace PM
open PySem PySem.Spec PyProof.Rows
open L2 hiding St
variable [TC]

/-- the empty dict's object -/
def dObj : Obj := { cls := .type "dict", data := .dict #[] }
section
variable {J : Jx} {X : Cx} {T : Tb} {orc : Orc}
theorem lay_dict {pins : List (Addr × Obj)} {s : Shared} {σ : L2.St} {H : Hp} (I : Inv X pins σ H s) : Inv X pins σ (upd H s.heap.objs.size (raw s.heap.objs.size dObj)) { s with heap := s.heap.push dObj } ∧ RawD (Cxg X T) (upd H s.heap.objs.size (raw s.heap.objs.size dObj)) s.heap.objs.size [] := by
  refine ⟨I.laid (t' := s.toks) (a := s.heap.objs.size) (fun b u e => Heap.get?_push_of_some _ e) (Nat.le_refl _) (raw_ok (Heap.get?_push_size _ rfl)), dObj, #[], 0, upd_same, ?_, ⟨rfl, rfl, rfl⟩, rfl, by simp [FzKV], by simp, .inl (fun p hp => by cases hp), Nat.zero_le _⟩
  exact beq_eq_false_iff_ne.mpr (Ne.symm (Nat.ne_of_lt I.big))
/-- a new owned dict -/
theorem VD.dict {σ : L2.St} {O O1 : List Addr} {H H' : Hp} {en1 : En} {p : Addr} {kvs : List (PM.D × PM.D)} (E : EO J.G J.LV H' en1 σ O1) (st : Step O H O1 H') (np : p ∉ O1) (n0 : H p = none) (R : RawD J.G H' p kvs) : VD J σ O H (.dic (kvs.map fun p => (p.1, .frz p.2))) en1 (.ref p) H' O1 [p] :=
  ⟨⟨st.keep, st.dom, fun b hb => by
    rcases List.mem_append.mp hb with q | q
    · rw [List.mem_singleton] at q; rw [q]; exact .inr n0
    · exact st.sub b q⟩, E, R.ov, List.nodup_cons.mpr ⟨np, E.nd⟩⟩
theorem pe_dict0 {pos : Pos} (hG : J.G = Cxg X T) : pE X J orc (.Dict [] [] pos) (.dict .nil) := by
  refine ⟨fun pins s σ H Q I ⟨en, O, E, k⟩ => ?_⟩
  simp only [evE, evKV, endz_bnd, endz_ok, endz_ite', List.foldl_nil, List.map_nil] at k
  have np := I.hok.fresh (Nat.le_refl s.heap.objs.size)
  obtain ⟨I1, R⟩ := lay_dict (T := T) I
  rw [← hG] at R
  have npO : s.heap.objs.size ∉ O := fun z => by
    obtain ⟨o, e, _⟩ := E.env.mut _ z
    rw [np] at e; cases e
  refine wpAny_Dict_empty ⟨.ref s.heap.objs.size, _, I1, rfl, k.2 _ _ O [s.heap.objs.size] (VD.dict (kvs := []) (E.keep (keep_new np) mutO_nil (fun b _ z => by cases z) (Dom.new np)) ⟨(keep_new np).mono fun b hb => (by cases hb), Dom.new np, fun b hb => .inl hb⟩ npO np R)⟩
/-- the pairs of a display -/
def PKV (G : GT) (H : Hp) : List (PM.D × PM.D) → List (Value × Value) → Prop
  | [], ws => ws = []
  | (k, d) :: r, ws => ∃ u z v t, ws = (u, z) :: t ∧ k.isLeaf = true ∧ RelV (kV (keyS k)) u ∧ RelV v z ∧ Fz G H d v ∧ PKV G H r t
theorem PKV.mono {G : GT} {H H' : Hp} (fp : FP H H') : ∀ {ps : List (PM.D × PM.D)} {ws : List (Value × Value)}, PKV G H ps ws → PKV G H' ps ws
  | [], ws, h => h
  | (k, d) :: r, ws, h => by
    obtain ⟨u, z, v, t, e, h1, h2, h3, h4, h5⟩ := h
    exact ⟨u, z, v, t, e, h1, h2, h3, Fz.mono fp _ _ h4, PKV.mono fp h5⟩
theorem PKV.carries {P : Program} {w : World} {G : GT} {H : Hp} : ∀ {ps : List (PM.D × PM.D)} {ws : List (Value × Value)} {acc : List (PM.D × PM.D)} {ls : List (Key × Value)}, PKV G H ps ws → LK G H acc ls → ∃ rs, Carries (mixKind P w) ws rs ∧ rs.length = ps.length ∧ LK G H (ps.foldl (fun acc p => putD acc p.1 p.2) acc) (merged ls rs)
  | [], ws, acc, ls, h, q => by
    simp only [PKV] at h
    subst h
    exact ⟨[], trivial, rfl, q⟩
  | (k, d) :: r, ws, acc, ls, h, q => by
    obtain ⟨u, z, v, t, rfl, h1, h2, h3, h4, h5⟩ := h
    obtain ⟨rs, c, l, q2⟩ := PKV.carries (P := P) (w := w) h5 (q.put h1 h3 h4)
    exact ⟨(keyS k, z) :: rs, ⟨relV_kV h2, rfl, c⟩, by rw [List.length_cons, List.length_cons, l], q2⟩
def pKV (X : Cx) (J : Jx) (orc : Orc) (pos : Pos) (keys : List (Option Expr)) (values : List Expr) (A : Es) : Prop := ∀ (pins : List (Addr × Obj)) (s : Shared) (σ : L2.St) (H : Hp) (en : En) (O : List Addr) (Q : List (Value × Value) → Shared → Prop) (k : List (PM.D × PM.D) → En → Prop), Inv X pins σ H s → EO J.G J.LV H en σ O → Endz (evKV orc A en) k (XW J σ O H) →
  (∀ ps en' ws s' H' O', k ps en' → Inv X pins σ H' s' → Step O H O' H' → EO J.G J.LV H' en' σ O' → PKV J.G H' ps ws → Q ws s') → wpAny (model X.prog X.w) X.A (evalPairs (pairTrees keys values X.env pos)) Q X.xe s
theorem pkv_nil {pos : Pos} : pKV X J orc pos [] [] .nil := by
  intro pins s σ H en O Q k I E ez hq
  simp only [evKV, endz_ok] at ez
  exact pairTrees_nil_walk (hq [] en [] s H O ez I Step.refl E rfl)
theorem pkv_cons {pos : Pos} {k v : Expr} {ks : List (Option Expr)} {vs : List Expr} {A B : E} {C : Es} (hk : pE X J orc k A) (hv : pE X J orc v B) (hr : pKV X J orc pos ks vs C) : pKV X J orc pos (some k :: ks) (v :: vs) (.cons A (.cons B C)) := by
  intro pins s σ H en O Q kk I E ez hq
  simp only [evKV, endz_bnd] at ez
  refine pairTrees_cons_walk (runE hk I E ez fun ok en1 u s1 kv H1 O1 as1 k1 I1 r1 d1 => ?_)
  have st1 : Step O H O1 H1 := d1.st.right
  split at k1
  · rename_i kd
    rw [endz_bnd] at k1
    refine runF hv I1 d1.eo (k1.imp (fun _ _ h => h) fun _ _ _ h => XW.trans st1 h) fun o en2 z s2 w O2 k2 hf r2 => ?_
    rw [endz_ite, Bool.and_eq_true, endz_bnd] at k2
    obtain ⟨⟨hc, hl⟩, k2⟩ := k2
    obtain ⟨H2, I2, d2⟩ := hf hc
    have hkv := d1.ov
    simp only [Ov] at hkv
    obtain ⟨fk, _⟩ := hkv
    have ev := keyS_V hl fk
    subst ev
    have st2 : Step O H O2 H2 := st1.trans d2.st
    refine hr pins s2 σ H2 en2 O2 _ _ I2 d2.eo (k2.imp (fun _ _ h => h) fun _ _ _ h => XW.trans st2 h) fun ps en3 ws s3 H3 O3 k3 I3 st3 E3 pk => ?_
    rw [endz_ok] at k3
    exact hq _ en3 _ s3 H3 O3 k3 I3 (st2.trans st3) E3 ⟨u, z, w, ws, rfl, hl, r1, r2, Fz.mono (st3.keep.fp d2.eo.env.mut) _ _ d2.fz, pk⟩
  · exact k1.elim
theorem pe_dict {pos : Pos} {keys : List (Option Expr)} {values : List Expr} {A : Es} (hG : J.G = Cxg X T) (h : pKV X J orc pos keys values A) (hall : keys.all (·.isSome) = true) (hl : keys.length = values.length) (h0 : keys ≠ []) (h15 : keys.length ≤ 15) : pE X J orc (.Dict keys values pos) (.dict A) := by
  refine ⟨fun pins s σ H Q I ⟨en, O, E, k⟩ => ?_⟩
  simp only [evE, endz_bnd, endz_ite', endz_ok] at k
  have np := I.hok.fresh (Nat.le_refl s.heap.objs.size)
  obtain ⟨I1, R⟩ := lay_dict (T := T) I
  have npO : s.heap.objs.size ∉ O := fun z => by
    obtain ⟨o, e, _⟩ := E.env.mut _ z
    rw [np] at e; cases e
  have st0 : Step O H O (upd H s.heap.objs.size (raw s.heap.objs.size dObj)) := ⟨(keep_new np).mono fun b hb => (by cases hb), Dom.new np, fun b hb => .inl hb⟩
  have E1 := E.keep (keep_new (o := raw s.heap.objs.size dObj) np) mutO_nil (fun b _ z => by cases z) (Dom.new np)
  refine wpAny_Dict_walk (knd := mixKind X.prog X.w) hall hl h0 h15 (h pins _ σ _ en O _ _ I1 E1 (k.imp (fun _ _ h => h) fun _ _ _ h => XW.trans st0 h) fun ps en2 ws s2 H2 O2 k2 I2 st2 E2 pk => ?_)
  have hD2 : H2 s.heap.objs.size = some (raw s.heap.objs.size dObj) := st2.keep _ _ upd_same npO rfl
  have npO2 : s.heap.objs.size ∉ O2 := fun z => by
    rcases st2.sub _ z with q | q
    · exact npO q
    · rw [upd_same] at q; cases q
  obtain ⟨rs, c, l, q⟩ := PKV.carries (P := X.prog) (w := X.w) (acc := []) (ls := []) pk rfl
  refine ⟨rs, c, ⟨dObj, #[], 0, raw_at I2.hok hD2, ⟨rfl, rfl, rfl⟩, rfl, fun _ he => by simp at he, .nil, List.nodup_nil⟩, fun h' dd' sb => ?_⟩
  obtain ⟨o', es', ep', ho, hx, hd, hks, hp, hn⟩ := dd'
  have hlen : ∀ (ps acc : List (PM.D × PM.D)), (ps.foldl (fun acc p => putD acc p.1 p.2) acc).length ≤ acc.length + ps.length := fun ps => by
    induction ps with
    | nil => intro acc; exact Nat.le_refl _
    | cons p r ih =>
      intro acc
      have h1 := ih (putD acc p.1 p.2)
      have h2 := putD_length acc p.1 p.2
      simp only [List.foldl_cons, List.length_cons]
      omega
  have hz := hlen ps []
  rw [hG] at q
  obtain ⟨I', R'⟩ := put_done (t' := s2.toks + ws.length) (T := T) I2 hD2 sb (beq_eq_false_iff_ne.mpr (Ne.symm (Nat.ne_of_lt I.big))) ho hx hd (LK.back (G := Cxg X T) q hp fun e he => hks e (Array.mem_toList_iff.mp he)) (q.nodup.mp hn) (.inl q.leaf) (by have := k2.1; rw [sizeLine_eq]; simp at hz; omega)
  rw [← hG] at R'
  have ku : Keep [s.heap.objs.size] H2 (upd H2 s.heap.objs.size (raw s.heap.objs.size o')) := keep_upd
  have st3 := st0.trans st2
  refine ⟨.ref s.heap.objs.size, _, I', rfl, k2.2 _ _ O2 _ (VD.dict (E2.keep ku (raw_mut hD2) (fun b hb z => by rw [List.mem_singleton] at z; rw [z] at hb; exact npO2 hb) (Dom.upd hD2 (noCode_raw (es := #[]) (ep := 0) rfl))) ⟨st3.keep.trans ku fun c hc => by rw [List.mem_singleton] at hc; rw [hc]; exact .inr np, st3.dom.trans (Dom.upd hD2 (noCode_raw (es := #[]) (ep := 0) rfl)), st3.sub⟩ npO2 np R')⟩
/-- a, b = e, f -/
theorem ps_par2 {i j : Nat} {x y : Str} {a b : Expr} {A B : E} {px py pt pos : Pos} {kt k2 pt2} (hc : X.calm = true) (hN : X.N.Nodup) (hi : X.N[i]? = some x) (hj : X.N[j]? = some y) (hij : i ≠ j)
    (hx : X.env.scope.names.lookup x = some .local) (hy : X.env.scope.names.lookup y = some .local) (ha : pE X J orc a A) (hb : pE X J orc b B)
    (hw : swappedStores [.Tuple [.Name x px, .Name y py] kt pt] (.Tuple [a, b] k2 pt2) X.env = pure (some [x, y]))
    (hs : swapsWithSole [.Tuple [.Name x px, .Name y py] kt pt] (.Tuple [a, b] k2 pt2) pos.line X.env = pure false := by rfl) (hs1 : starEach [a, b] X.env = (false, eval a X.env) :: starEach [b] X.env := by rfl) (hs2 : starEach [b] X.env = (false, eval b X.env) :: starEach [] X.env := by rfl) :
    pS X J orc (.Assign [.Tuple [.Name x px, .Name y py] kt pt] (.Tuple [a, b] k2 pt2) pos) (.par2 i j A B) := by
  refine ⟨fun pins s σ H D I ⟨en, O, E, k⟩ => ?_⟩
  simp only [evS, endz_bnd, endz_ite] at k
  refine (L2.ps_par hc hN hi hj hij hx hy (L2.pa_cons (pz ha) (L2.pa_cons (pz hb) L2.pa_nil hs2) hs1) hw hs).run pins s σ H D I ⟨en, O, E, k.imp (fun o1 en1 k1 => ⟨k1.1, fun v H1 O1 d1 => ?_⟩) fun _ _ _ x => XS.at x⟩
  refine ⟨en1, O1, d1.eo, k1.2.imp (fun o2 en2 kz => ?_) fun _ _ _ x => XS.at (XS.trans d1.st x)⟩
  rw [Bool.and_eq_true] at kz
  refine ⟨kz.1.1, fun w H2 O2 d2 => ⟨v, w, rfl, ?_⟩⟩
  have k3 := kz.2
  have f1 := Fz.mono (d2.st.keep.fp d1.eo.env.mut) _ _ d1.fz
  split at k3
  · rename_i en3 e3
    obtain ⟨O3, E3, s3⟩ := d2.eo.put (o := .frz o1.d) (v := v) (as := []) e3 (by simp only [Ov]; exact ⟨f1, trivial⟩) d2.eo.nd
    split at k3
    · rename_i en4 e4
      obtain ⟨O4, E4, s4⟩ := E3.put (o := .frz o2.d) (v := w) (as := []) e4 (by simp only [Ov]; exact ⟨d2.fz, trivial⟩) E3.nd
      rw [endz_ok] at k3
      exact k3 _ H2 O4 ((d1.st.trans d2.st).less fun b hb => s3 b (s4 b hb)) E4
    · exact k3.elim
  · exact k3.elim
end
end PM

namespace PM
open PySem PySem.Spec PyProof.Rows
open L2 hiding St
variable [TC]

/-! ## dict comprehensions, keys of any kind (the steps follow HandS.DictComp's core, the dict being ours) -/
section
variable {X : Cx}
def tDcR (G : GT) (wi : TI) (g : TG) (tt : TT) (tk tv : TE) (vs : List Nat) : TE := fun σ H Q => wi σ H fun J H1z => ∀ D, H1z D = none → RawD G (upd H1z D (raw D dObj)) D [] → ∃ W : Nat → Nat → Hp → Prop, (∃ m, W 0 m (upd H1z D (raw D dObj))) ∧ ∀ i m H, W i m H →
  (J.stop i H ∧ Q (.ref D) H) ∨ (J.go i H ∧ ∃ Nx : Hp → Prop, (∀ H', Nx H' → ∃ m', m' < m ∧ W (i + 1) m' H') ∧ ∀ x H', J.yld i H x H' → g x (wipe σ vs) H' fun σ2 H2z => wipe σ2 vs = wipe σ vs ∧ tt σ2 H2z fun b H3z =>
    if b = true then tk σ2 H3z fun y H4z => tv σ2 H4z fun z H5z => ∃ kvs k d, RawD G H5z D kvs ∧ Fz G H5z k y ∧ Fz G H5z d z ∧ askOk (kvs.map (·.1)) k = true ∧ kvs.length < sizeLine ∧ (∀ o', RawD G (upd H5z D (raw D o')) D (putD kvs k d) → Nx (upd H5z D (raw D o'))) else Nx H3z)
theorem dcr_core {TB : Tb} {pins : List (Addr × Obj)} {s : Shared} {σ : L2.St} {H : Hp} {Q : VK} {kx vx tg iter : Expr} {ifs : List Expr} {scope : Scope} {own : List (Str × Nat)} {pos pos' : Pos} {wi : TI} {g : TG} {tt : TT} {tk tv : TE} (hu : X.A.units + 100 < cLine) {use : Option (Value → Sem Unit)} {Qf : Value → Shared → Prop}
    (hc : X.calm = true) (hN : X.N.Nodup) (I : Inv X pins σ H s) (hi : PI X tg iter wi) (ok : BlkOk X.N X.env.scope scope own)
    (hg : ∀ (s : Shared) (H : Hp) (C : Addr) (cl : List (Str × Addr)) (fp : List Addr), PG (X.blk s H scope (compEnvC scope cl C X.env) fp) tg g) (ht : ∀ (s : Shared) (H : Hp) (C : Addr) (cl : List (Str × Addr)) (fp : List Addr), PTs (X.blk s H scope (compEnvC scope cl C X.env) fp) ifs tt)
    (hk : ∀ (s : Shared) (H : Hp) (C : Addr) (cl : List (Str × Addr)) (fp : List Addr), PE (X.blk s H scope (compEnvC scope cl C X.env) fp) kx tk)
    (he : ∀ (s : Shared) (H : Hp) (C : Addr) (cl : List (Str × Addr)) (fp : List Addr), PE (X.blk s H scope (compEnvC scope cl C X.env) fp) vx tv) (hs : ∀ x, foldedSetIterable iter X.env x = pure x)
    (h : tDcR (Cxg X TB) wi g tt tk tv (own.map (·.2)) σ H Q)
    (hRR : ∀ D C s' m H', Inv X pins σ H' s' → Q (.ref D) H' → s'.heap.Ns C m → FpOk X pins H' C → compPost (model X.prog X.w) X.A X.xe use Qf (.ref D) C (.ok .next) s') :
    wpAny (model X.prog X.w) X.A (comprehension (.DictComp kx vx [⟨tg, iter, ifs, 0⟩] scope pos) scope X.env pos' newDict false (eval iter X.env) use) Qf X.xe s := by
  have hfree : ∀ y ∈ scope.names, y.2 = .free → ∃ c, X.env.cells.lookup y.1 = some c := fun y hy e => by
    rcases ok.free y hy e with k | k
    · exact I.ok.has _ (.inl k)
    · exact I.ok.has _ (.inr k)
  refine wpAny_comprehension_free (use := use) rfl hs (closure_ok hfree) ok.kind (fun y hy e => by rw [ok.uniq y hy, e])
    (thn (hi.run pins s σ H _ I h) fun xv s1z hx => thn hx fun itv s2z h2z => ?_)
  obtain ⟨it, fp, tn, J, H2z, e, I2z, T, st2z, f2z, q⟩ := h2z
  subst e
  refine wpAny_newObj_type (newEnv_comp ?_)
  generalize hD : s2z.heap.objs.size = D
  have hDn : H2z D = none := I2z.hok.fresh (Nat.le_of_eq hD)
  have hlay := lay_dict (T := TB) I2z
  rw [hD] at hlay
  obtain ⟨hlay, hR⟩ := hlay
  obtain ⟨W, ⟨m0z, w0z⟩, turn⟩ := q D hDn hR
  -- the new list
  generalize hs3z : ({ s2z with heap := s2z.heap.push { cls := .type "dict", data := .dict #[] } } : Shared) = s3z
  have I3z : Inv X pins σ (upd H2z D (raw D dObj)) s3z := by
    rw [← hs3z]
    exact hlay
  have h3z : s3z.heap = s2z.heap.push { cls := .type "dict", data := .dict #[] } := by rw [← hs3z]
  have sz : ∀ b ∈ fp, b < s2z.heap.objs.size := fun b hb => by
    obtain ⟨o, e, _⟩ := T.obj _ _ st2z b hb
    exact Heap.lt_size e
  have f3z : ∀ b ∈ fp, FpOk X pins (upd H2z D (raw D dObj)) b ∧ b < s3z.heap.objs.size := fun b hb => by
    have hlt := sz b hb
    refine ⟨⟨?_, (f2z b hb).2⟩, by rw [h3z, Heap.size_push]; exact Nat.lt_succ_of_lt hlt⟩
    rw [upd_ne (by rw [← hD]; exact Nat.ne_of_lt hlt)]
    exact (f2z b hb).1
  have st3z : tn 0 s3z.heap := T.keep _ _ _ st2z fun b _ o e => by rw [h3z]; exact Heap.get?_push_of_some _ e
  have I4z := block_start I3z ok hN f3z
  have pg := hg s3z (upd H2z D (raw D dObj)) s3z.heap.objs.size (cellsFrom (s3z.heap.objs.size + 1) scope.names (cloFrom X.env.cells scope.names [])) fp
  have pt := ht s3z (upd H2z D (raw D dObj)) s3z.heap.objs.size (cellsFrom (s3z.heap.objs.size + 1) scope.names (cloFrom X.env.cells scope.names [])) fp
  have pk := hk s3z (upd H2z D (raw D dObj)) s3z.heap.objs.size (cellsFrom (s3z.heap.objs.size + 1) scope.names (cloFrom X.env.cells scope.names [])) fp
  have pe := he s3z (upd H2z D (raw D dObj)) s3z.heap.objs.size (cellsFrom (s3z.heap.objs.size + 1) scope.names (cloFrom X.env.cells scope.names [])) fp
  show codeAny _ _ (.compStart (.DictComp kx vx [⟨tg, iter, ifs, 0⟩] scope pos) 0 (.ref it) (.ref D) (compEnvC scope (cellsFrom (s3z.heap.objs.size + 1) scope.names (cloFrom X.env.cells scope.names [])) s3z.heap.objs.size X.env)) (compPost (model X.prog X.w) X.A X.xe use Qf (.ref D) s3z.heap.objs.size) { s3z with heap := pushCells (s3z.heap.push { cls := .type "dict", data := .dict #[] }) scope.names }
  have nfp : ∀ b ∈ fp, (upd H2z D (raw D dObj)) b = none := fun b hb => (f3z b hb).1.1
  generalize hce : compEnvC scope (cellsFrom (s3z.heap.objs.size + 1) scope.names (cloFrom X.env.cells scope.names [])) s3z.heap.objs.size X.env = ce at I4z pg pt pk pe ⊢
  have cL : ce.locals = s3z.heap.objs.size := by subst hce; rfl
  generalize hH3 : upd H2z D (raw D dObj) = H3z at I3z I4z pg pt pk pe w0z nfp f3z
  generalize hs4z : ({ s3z with heap := pushCells (s3z.heap.push { cls := .type "dict", data := .dict #[] }) scope.names } : Shared) = s4z at I4z ⊢
  have st4z : tn 0 s4z.heap := T.keep _ _ _ st3z fun b _ o e => by rw [← hs4z]; exact pushCells_keeps _ _ _ _ (Heap.get?_push_of_some _ e)
  have stat : ∀ {σ' : L2.St} {H' : Hp} {s' : Shared}, Inv (X.blk s3z H3z scope ce fp) [] σ' H' s' → (∀ b ∈ fp, H' b = none) → ∀ b ∈ fp, FpOk (X.blk s3z H3z scope ce fp) [] H' b := fun {σ' H' s'} I' hn b hb =>
    ⟨hn b hb, (I'.ok.exf b hb).1, I'.ok.exfs b hb, .inl hb, fun x c e => (I'.ok.exf b hb).2 x c e, fun p hp => absurd (show p ∈ ([] : List (Addr × Obj)) ++ [] from hp) (by simp)⟩
  have loop : codeAny (model X.prog X.w) X.A (.compLoop (.DictComp kx vx [⟨tg, iter, ifs, 0⟩] scope pos) 0 (.ref it) (.ref D) ce) (compPost (model X.prog X.w) X.A X.xe use Qf (.ref D) s3z.heap.objs.size) s4z := by
    refine compLoop_anyD (fun n s' => ∃ i H', Inv (X.blk s3z H3z scope ce fp) [] (wipe σ (own.map (·.2))) H' s' ∧ tn i s'.heap ∧ (∀ b ∈ fp, H' b = none) ∧ W i n H') ?_ m0z ⟨0, H3z, I4z, st4z, nfp, w0z⟩
    rintro n s5z ⟨i, H5z, I5z, st5z, n5z, w5z⟩
    rcases turn i n H5z w5z with ⟨stop, qq⟩ | ⟨go, Nx, hNx, step⟩
    · have td := T.done (X.blk s3z H3z scope ce fp) rfl rfl rfl hc i [] s5z _ H5z (fun _ _ => False) I5z (stat I5z n5z) st5z stop
      refine thnF td fun r s6z ⟨hr, I6z⟩ => ?_
      subst hr
      -- back in the def's context
      have I7z : Inv X pins σ H5z s6z := I3z.call' (ch := fp) I6z.os I6z.base I6z.hok I6z.bare fun b hb => ⟨(f3z b hb).1.2.2.2.1, (f3z b hb).1.2.1, (f3z b hb).1.2.2.2.2.1, (f3z b hb).1.2.2.2.2.2⟩
      have nC : H5z s3z.heap.objs.size = none := by
        have z : H5z ce.locals = none := I6z.free
        rw [cL] at z
        exact z
      obtain ⟨m, hn, _⟩ := I6z.loc
      have hn : s6z.heap.Ns ce.locals m := hn
      rw [cL] at hn
      exact hRR D s3z.heap.objs.size s6z m H5z I7z qq hn (I3z.fpOk (Nat.le_refl _) nC)
    · have ti := T.item (X.blk s3z H3z scope ce fp) rfl rfl rfl hc i [] s5z _ H5z (fun _ _ => False) I5z (stat I5z n5z) st5z go
      refine thnF ti fun r s6z ⟨u, hr, h6z⟩ => ?_
      subst hr
      refine thnF h6z fun _ s7z ⟨x, H7z, I7z, r7z, y7z, st7z, n7z⟩ => ?_
      have I7' := I7z.pinned (stat I7z n7z) (T.obj _ _ st7z)
      refine thnF (pg.run _ s7z _ H7z x u _ I7' r7z (step x H7z y7z)) fun _ s8z ⟨σ8, H8z, I8z, hw8z, q8z⟩ => ?_
      refine thnF (pt.run _ s8z σ8 H8z _ I8z q8z) fun b s9z ⟨H9z, I9z, q9z⟩ => ?_
      -- the turn's end
      have fin : ∀ {s' : Shared} {H' : Hp}, Inv (X.blk s3z H3z scope ce fp) ([] ++ pinsAt fp s7z.heap) σ8 H' s' → Nx H' → ∃ m, m < n ∧ ∃ i H', Inv (X.blk s3z H3z scope ce fp) [] (wipe σ (own.map (·.2))) H' s' ∧ tn i s'.heap ∧ (∀ b ∈ fp, H' b = none) ∧ W i m H' := fun {s' H'} I' nx => by
        obtain ⟨m', hm, w'⟩ := hNx H' nx
        have pin' : ∀ b ∈ fp, ∀ o, s7z.heap.get? b = some o → s'.heap.get? b = some o ∧ H' b = none := fun b hb o e =>
          let z := I'.pin (b, o) (List.mem_append_right _ (List.mem_append_right _ (mem_pinsAt hb e)))
          ⟨z.1, z.2.1⟩
        have hl : (wipe σ (own.map (·.2))).length = σ8.length := by rw [← hw8z, wipe_length]
        refine ⟨m', hm, i + 1, H', (I'.unpinned (pins := [])).weak hl (fun j v e => ?_), T.keep _ _ _ st7z fun b hb o e => (pin' b hb o e).1, fun b hb => ?_, w'⟩
        · rw [← hw8z] at e
          exact (wipe_some e).1
        · obtain ⟨o, e, _⟩ := T.obj _ _ st7z b hb
          exact (pin' b hb o e).2
      cases b with
      | false =>
        simp only [Bool.false_eq_true, if_false] at q9z ⊢
        exact fin I9z q9z
      | true =>
        simp only [if_true] at q9z ⊢
        refine thnF (pk.run _ s9z σ8 H9z _ I9z q9z) fun z s10 ⟨yk, H10, I10, r10, q10⟩ => ?_
        refine thnF (pe.run _ s10 σ8 H10 _ I10 q10) fun z2z s11 ⟨yv, H11, I11, r11, kvs, k, dd, R11, fk11, fd11, hk11, hz11, nx⟩ => ?_
        exact put_dict (X := X.blk s3z H3z scope ce fp) (T := TB) I11 hu R11 fk11 fd11 r10 r11 hk11 hz11 fun s12 o12 I12 R12 => fin I12 (nx o12 R12)
  exact codeAny_compStart_dict loop (T.self X.A 0 _ _ _ st4z loop)
end
section
variable {J : Jx} {X : Cx} {T : Tb} {orc : Orc}
theorem dcGo_ok {b : PM.D → En → Option En} {cF : En → Out Bool} {kF vF : En → Out OV} {own : List Nat} {ds : List PM.D} {acc : List (PM.D × PM.D)} {en : En} {k : List (PM.D × PM.D) → En → Prop} {w : Nat → PM.D → En → Prop} (h : Endz (dcGo b cF kF vF own ds acc en) k w) : okOwn en own = true := by
  cases ds with
  | nil => simp only [dcGo, endz_ite] at h; exact h.1
  | cons d ds => simp only [dcGo, endz_ite] at h; exact h.1
/-- what stands at a turn -/
structure DcAt (G : GT) (LV : Nat → Option V) (own : List Nat) (σ : L2.St) (O1 : List Addr) (H1z : Hp) (D : Addr) (acc : List (PM.D × PM.D)) (en : En) (H : Hp) (O : List Addr) : Prop where
  eo : EO G LV H (wipeE en own) (wipe σ own) O
  ok : okOwn en own = true
  raw : RawD G H D acc
  nd : D ∉ O
  st : Step O1 H1z O H
/-- it stays -/
theorem RawD.keep {G : GT} {H H' : Hp} {O : List Addr} {D : Addr} {acc : List (PM.D × PM.D)} (R : RawD G H D acc) (k : Keep O H H') (m : MutO H O) (n : D ∉ O) : RawD G H' D acc := by
  obtain ⟨o, es, ep, h1z, h2z, h3z, h4z, h5z, h6z⟩ := R
  exact ⟨o, es, ep, k D _ h1z n rfl, h2z, h3z, h4z, FzKV.mono (k.fp m) _ _ h5z, h6z⟩
theorem RawD.at_ {G : GT} {H : Hp} {D : Addr} {acc : List (PM.D × PM.D)} (R : RawD G H D acc) : ∃ o, H D = some (PM.raw D o) := let ⟨o, _, _, h, _⟩ := R; ⟨o, h⟩
theorem dc_t {own : List (Str × Nat)} {K V' : E} {t : Tg} {it : PM.It} {cs : Ts} (hsl : ∀ i ∈ t.slots, i ∈ own.map (·.2)) {σ : L2.St} {H : Hp} {Q : VK} (h0z : tE J (evE orc (.dc K V' t it cs (own.map (·.2)))) σ H Q) :
    tDcR J.G (tI J (evI orc it)) (tG J.G J.LV t) (tT J.nox (evCs orc cs)) (tE J.nox (evE orc K)) (tZ J.nox (evE orc V')) (own.map (·.2)) σ H Q := by
  obtain ⟨en, O, E, k⟩ := h0z
  simp only [evE, endz_bnd] at k
  refine ⟨en, O, E, k.imp (fun ds en1z k1z It H1z O1 st1z E1 wk D nD hR => ?_) fun _ _ _ x => x⟩
  rw [endz_ite, endz_bnd, endz_nx] at k1z
  obtain ⟨ok1z, k1z⟩ := k1z
  generalize hv : own.map (·.2) = vs at *
  have fpD : ∀ {H' : Hp}, Keep O1 H1z H' → FP H1z H' := fun k => k.fp E1.env.mut
  have nDO : D ∉ O1 := fun z => by
    obtain ⟨o, e, _⟩ := E1.env.mut D z
    rw [nD] at e; cases e
  refine ⟨fun i m H' => m = ds.length - i ∧ i ≤ ds.length ∧ ∃ acc en' O', DcAt J.G J.LV vs σ O1 H1z D acc en' H' O' ∧ Endz (dcGo (bind1 t) (evCs orc cs) (evE orc K) (evE orc V') vs (ds.drop i) acc en') (fun acc en' => ∀ v H' O' as, VD J σ O H (.dic (acc.map fun p => (p.1, .frz p.2))) (undo en1z (wipeE en' vs) vs) v H' O' as → Q v H') (fun _ _ _ => False),
    ⟨ds.length, by simp, Nat.zero_le _, [], en1z, O1, ⟨?_, ok1z, hR, nDO, ⟨?_, Dom.new nD, fun b hb => .inl hb⟩⟩, ?_⟩, ?_⟩
  · exact (E1.keep (keep_new nD) mutO_nil (fun b _ z => by cases z) (Dom.new nD)).wiped ok1z
  · exact (keep_new nD).mono fun b hb => by cases hb
  · rw [List.drop_zero]
    exact k1z
  · rintro i m H' ⟨rfl, hi', acc, en', O', L, kk⟩
    by_cases hlt : i < ds.length
    · refine .inr ⟨wk.go i ds[i] H' (fpD L.st.keep) (List.getElem?_eq_getElem hlt), fun H2z => (i + 1 ≤ ds.length ∧ ∃ acc en' O', DcAt J.G J.LV vs σ O1 H1z D acc en' H2z O' ∧ Endz (dcGo (bind1 t) (evCs orc cs) (evE orc K) (evE orc V') vs (ds.drop (i + 1)) acc en') (fun acc en' => ∀ v H' O' as, VD J σ O H (.dic (acc.map fun p => (p.1, .frz p.2))) (undo en1z (wipeE en' vs) vs) v H' O' as → Q v H') (fun _ _ _ => False)),
        fun H2z ⟨h1z, h2z⟩ => ⟨ds.length - (i + 1), by omega, rfl, h1z, h2z⟩, fun x H2z y => ?_⟩
      obtain ⟨kp, dm, fx⟩ := wk.yld i ds[i] H' x H2z (fpD L.st.keep) (List.getElem?_eq_getElem hlt) y
      rw [List.drop_eq_getElem_cons hlt] at kk
      simp only [dcGo] at kk
      rw [endz_ite] at kk
      obtain ⟨_, kk⟩ := kk
      have E2 := L.eo.keep kp mutO_nil (fun b _ z => by cases z) dm
      have R2 := L.raw.keep kp mutO_nil (fun z => by cases z)
      have st2z : Step O1 H1z O' H2z := ⟨L.st.keep.trans (kp.mono fun b hb => by cases hb) L.st.sub, L.st.dom.trans dm, L.st.sub⟩
      split at kk
      · rename_i en2z eb
        refine ⟨_, O', ds[i], en2z, E2, fx, eb, fun σ3 O3 E3 sub3z w3z => ?_⟩
        have hw : wipe σ3 vs = wipe σ vs := (w3z vs hsl).trans wipe_wipe
        refine ⟨hw, ?_⟩
        rw [endz_bnd] at kk
        have nD3 : D ∉ O3 := fun z => L.nd (sub3z D z)
        refine ⟨en2z, O3, E3, kk.imp (fun b en3z kb H3z O4 st3z E4 => ?_) fun _ _ _ x => x.elim⟩
        have R3 := R2.keep st3z.keep E3.env.mut nD3
        have nD4 : D ∉ O4 := fun z => by
          rcases st3z.sub D z with q | q
          · exact nD3 q
          · obtain ⟨o, e⟩ := R2.at_; rw [q] at e; cases e
        have st4z : Step O1 H1z O4 H3z := (st2z.less sub3z).trans st3z
        cases b with
        | false =>
          simp only [Bool.false_eq_true, if_false] at kb ⊢
          have ok4z := dcGo_ok kb
          have E5 := E4.wiped ok4z
          rw [hw] at E5
          exact ⟨by omega, acc, en3z, O4, ⟨E5, ok4z, R3, nD4, st4z⟩, kb⟩
        | true =>
          simp only [if_true] at kb ⊢
          rw [endz_bnd] at kb
          refine ⟨en3z, O4, E4, kb.imp (fun ok en4z ko kv H4z O5 as5z d => ?_) fun _ _ _ x => x.elim⟩
          split at ko
          · rename_i kd
            rw [endz_bnd] at ko
            have hkv := d.ov
            simp only [Ov] at hkv
            obtain ⟨fk, rfl⟩ := hkv
            have st5z : Step O4 H3z O5 H4z := d.st
            have R4 := R3.keep st5z.keep E4.env.mut nD4
            have nD5 : D ∉ O5 := fun z => by
              rcases st5z.sub D z with q | q
              · exact nD4 q
              · obtain ⟨o, e⟩ := R3.at_; rw [q] at e; cases e
            refine ⟨en4z, O5, d.eo, ko.imp (fun o en5z ko2z => ?_) fun _ _ _ x => x.elim⟩
            rw [endz_ite, Bool.and_eq_true, Bool.and_eq_true, decide_eq_true_eq] at ko2z
            refine ⟨ko2z.1.1.1, fun y H5z O6 d2z => ?_⟩
            have R5 := R4.keep d2z.st.keep d.eo.env.mut nD5
            have nD6 : D ∉ O6 := fun z => by
              rcases d2z.st.sub D z with q | q
              · exact nD5 q
              · obtain ⟨o, e⟩ := R4.at_; rw [q] at e; cases e
            have fk5z := Fz.mono (d2z.st.keep.fp d.eo.env.mut) _ _ fk
            refine ⟨acc, kd, o.d, R5, fk5z, d2z.fz, ko2z.1.1.2, ko2z.1.2, fun o' R6 => ?_⟩
            have R5' := R5
            obtain ⟨o5z, _, _, h5z, _, _, hd5z, _⟩ := R5'
            have ku : Keep [D] H5z (upd H5z D (raw D o')) := keep_upd
            have ok6z := dcGo_ok ko2z.2
            have E6 := (d2z.eo.wiped ok6z).keep ku (raw_mut h5z) (fun b hb z => nD6 (by rw [List.mem_singleton] at z; rw [← z]; exact hb)) (Dom.upd h5z (noCode_raw hd5z))
            rw [hw] at E6
            have st6z : Step O1 H1z O6 H5z := (st4z.trans st5z).trans d2z.st
            refine ⟨by omega, _, en5z, O6, ⟨E6, ok6z, R6, nD6, ⟨st6z.keep.trans ku fun c hc => ?_, st6z.dom.trans (Dom.upd h5z (noCode_raw hd5z)), st6z.sub⟩⟩, ko2z.2⟩
            rw [List.mem_singleton] at hc
            rw [hc]; exact .inr nD
          · exact ko.elim
      · exact kk.elim
    · have hil : i = ds.length := by omega
      subst hil
      refine .inl ⟨wk.stop H' (fpD L.st.keep), ?_⟩
      rw [List.drop_length] at kk
      simp only [dcGo] at kk
      rw [endz_ite] at kk
      have st := st1z.trans L.st
      exact kk.2 (.ref D) H' O' [D] (VD.dict (E1.undo (fpD L.st.keep) ok1z kk.1 L.eo) st L.nd (st1z.dom D nD) L.raw)
theorem pe_dc {kx vx tg iter : Expr} {ifs : List Expr} {scope : Scope} {own : List (Str × Nat)} {pos : Pos} {K V' : E} {t : Tg} {it : PM.It} {cs : Ts} (hG : J.G = Cxg X T) (hu : X.A.units + 100 < cLine) (hc : X.calm = true) (hN : X.N.Nodup) (hi : pI X J orc tg iter it) (ok : BlkOk X.N X.env.scope scope own)
    (hg : ∀ (s : Shared) (H : Hp) (C : Addr) (cl : List (Str × Addr)) (fp : List Addr), PG (X.blk s H scope (compEnvC scope cl C X.env) fp) tg (tG J.G J.LV t)) (hsl : ∀ i ∈ t.slots, i ∈ own.map (·.2))
    (ht : ∀ (s : Shared) (H : Hp) (C : Addr) (cl : List (Str × Addr)) (fp : List Addr), PTs (X.blk s H scope (compEnvC scope cl C X.env) fp) ifs (tT J.nox (evCs orc cs)))
    (hk : ∀ (s : Shared) (H : Hp) (C : Addr) (cl : List (Str × Addr)) (fp : List Addr), pE (X.blk s H scope (compEnvC scope cl C X.env) fp) J.nox orc kx K)
    (he : ∀ (s : Shared) (H : Hp) (C : Addr) (cl : List (Str × Addr)) (fp : List Addr), pE (X.blk s H scope (compEnvC scope cl C X.env) fp) J.nox orc vx V') (hs : ∀ x, foldedSetIterable iter X.env x = pure x := by intro _; rfl) :
    pE X J orc (.DictComp kx vx [⟨tg, iter, ifs, 0⟩] scope pos) (.dc K V' t it cs (own.map (·.2))) := by
  refine ⟨fun pins s σ H Q I h => ?_⟩
  have h := dc_t hsl h
  rw [hG] at h
  rw [arm_eval_DictComp]
  refine dcr_core hu hc hN I hi ok (by rw [← hG]; exact hg) ht hk (fun s H C cl fp => pz (he s H C cl fp)) hs h fun D C s' m H' I' q hn f => ⟨m, hn, fun h'' sb => ?_⟩
  obtain ⟨f0z, f1z, f2z, f3z, f4z, f5z⟩ := f
  exact ⟨.ref D, H', I'.turned (t' := s'.toks) (fun b o hb e => (sb.2 b hb).trans e) f0z f1z f3z f4z f5z, rfl, q⟩
end
end PM

namespace PM
open PySem PySem.Spec PyProof.Rows
open L2 hiding St
variable [TC]

/-! ## a lambda is made: all stays, the table may grow -/
section
variable {X : Cx} {pins : List (Addr × Obj)} {σ : L2.St} {H : Hp} {s : Shared}
/-- the lambda's function object -/
abbrev lamObj (X : Cx) (params : Arguments) (body : Expr) (scope : Scope) (pm : Value) (c' : Addr) (ctv : Value) : Obj :=
  PySem.W.kla_obj "<lambda>" (X.env.qual ++ "<lambda>") params body scope (cloFrom X.env.cells scope.names []) pm c' ctv
/-- what is told of the made lambda -/
structure Made (X : Cx) (H : Hp) (params : Arguments) (body : Expr) (scope : Scope) (f c' : Addr) (pm ctv : Value) (H1 : Hp) (h : Heap) : Prop where
  keep : Keep [] H H1
  dom : Dom H H1
  obj : h.get? f = some (lamObj X params body scope pm c' ctv)
  fr : H1 f = none
  nf : f ∉ frs X.stack
  code : H1 c' = some (LamX.CodeO c' (X.env.qual ++ "<lambda>"))
theorem lam_make {c P : Addr} {params : Arguments} {body : Expr} {scope : Scope} {pos : Pos} {E : Value → Shared → Prop} {Q : Value → Shared → Prop} (I : Inv X pins σ H s) (B : LamX.TabB X.base X.mg c P) (ec : X.env.code = .ref c)
    (mem : (P, X.env.qual ++ "<lambda>") ∈ TC.ts) (uni : ∀ p ∈ TC.ts, p.1 = P → p.2 = X.env.qual ++ "<lambda>") (tb : LamX.Tabs TC.ts H) (nodef : defaultsOf params X.env = ([], [])) (hfree : ∀ y ∈ scope.names, y.2 = .free → ∃ c, X.env.cells.lookup y.1 = some c)
    (k : ∀ (f c' : Addr) (pm ctv : Value) (H1 : Hp) (s' : Shared), Inv X pins σ H1 s' → Made X H params body scope f c' pm ctv H1 s'.heap → Q (.ref f) s') :
    wpAny (model X.prog X.w) X.A (eval (.Lambda params body scope pos) X.env) Q E s := by
  obtain ⟨tr, hTr, trs, known⟩ := tb _ mem
  have tabAt : s.heap.get? P = some { cls := .none, data := .fields tr } := I.hok P _ hTr
  have outer : ∀ g, s.heap.objs.size ≤ g → g ∉ frs X.stack := fun g big inn => (List.mem_cons.mp (I.stkSub _ inn)).elim (fun w => by have := I.lt; rw [← w] at this; exact Nat.lt_irrefl _ (Nat.lt_of_lt_of_le this big)) (I.nofs big)
  refine PySem.W.kla_eval nodef ?_
  cases seen : codeAmong pos tr.toList with
  | some cv =>
    obtain ⟨co, rfl, hco⟩ := known pos cv seen
    refine PySem.W.kla_makeFunctionHit (mg := X.mg) (c := c) (P := P) (ps := tr) (closure_ok hfree) I.ok.glob (I.mod.glob.keeps I.bk) ec (B.code.keeps I.bk) tabAt trs seen (B.bm.keeps I.bk) fun ctv h' tk old sz => ?_
    exact k _ co _ ctv H _ (I.kept fun b o e => Heap.get?_push_of_some _ (old b o e)) ⟨.refl, .refl H, Heap.get?_push_size _ rfl, I.hok.fresh sz, outer _ sz, hco⟩
  | none =>
    refine PySem.W.kla_makeFunction (mg := X.mg) (c := c) (P := P) (ps := tr) (closure_ok hfree) I.ok.glob (I.mod.glob.keeps I.bk) ec (B.code.keeps I.bk) tabAt trs seen B.gP (B.bm.keeps I.bk) fun co ctv h' tk old new lt rec tab' => ?_
    obtain ⟨co', oc, vs, t, eqc, r1, r2, r3⟩ := rec
    cases eqc
    have co0 : H co = none := I.hok.fresh new
    have pc : P ≠ co := ne_of_none hTr co0
    have sz : s.heap.objs.size ≤ h'.objs.size := Nat.le_trans new (Nat.le_of_lt lt)
    have J := LamX.inv_table (t' := tk) (more := #[rawInt pos.line, rawInt pos.col, .ref co]) (h' := h'.push (lamObj X params body scope ((X.mg "__name__").getD .none) co ctv)) I hTr
      (fun b o nb e => Heap.get?_push_of_some _ (old b o nb e)) (Heap.get?_push_of_some _ tab') new ⟨oc, vs, t, Heap.get?_push_of_some _ r1, r2, r3⟩
    have stay : ∀ b o, H b = some o → b ≠ P → upd (upd H P (.tbl (tr ++ #[rawInt pos.line, rawInt pos.col, .ref co]))) co (LamX.CodeO co (X.env.qual ++ "<lambda>")) b = some o := fun b o e nb => by
      rw [upd_ne (ne_of_none e co0), upd_ne nb, e]
    refine k h'.objs.size co _ ctv _ _ J ⟨fun b o e _ nt => stay b o e fun w => ?_, ⟨fun b e => upd_no b (upd_no b e), fun p hp old' => ?_⟩, Heap.get?_push_size _ rfl, ?_, outer _ sz, upd_same⟩
    · subst w; rw [hTr] at e; cases e; cases nt
    · obtain ⟨ps', a1, a2, a3⟩ := old'
      have lift : ∀ {d : Addr} {q : Str}, H d = some (LamX.CodeO d q) → upd (upd H P (.tbl (tr ++ #[rawInt pos.line, rawInt pos.col, .ref co]))) co (LamX.CodeO co (X.env.qual ++ "<lambda>")) d = some (LamX.CodeO d q) := fun {d q} e => stay d _ e fun w => by
        subst w; rw [hTr] at e; exact LamX.codeO_ne tr (Option.some.inj e).symm
      by_cases at_ : p.1 = P
      · have eq := uni p hp at_
        rw [eq, at_]
        have eL : (tr ++ #[rawInt pos.line, rawInt pos.col, .ref co]).toList = tr.toList ++ [rawInt pos.line, rawInt pos.col, .ref co] := Array.toList_append
        refine ⟨_, by rw [upd_ne pc, upd_same], by rw [eL]; exact PySem.TriplesOk_snoc _ _ _ _ trs, fun q cv hcv => ?_⟩
        rw [eL] at hcv
        rcases LamX.among_app _ trs hcv with w | w
        · obtain ⟨d, e1, e2⟩ := known q cv w
          exact ⟨d, e1, lift e2⟩
        · exact ⟨co, w, upd_same⟩
      · refine ⟨ps', stay _ _ a1 at_, a2, fun q cv hcv => ?_⟩
        obtain ⟨d, e1, e2⟩ := a3 q cv hcv
        exact ⟨d, e1, lift e2⟩
    · have n1 : h'.objs.size ≠ co := Nat.ne_of_gt lt
      have n2 : h'.objs.size ≠ P := Nat.ne_of_gt (Nat.lt_of_lt_of_le (Heap.lt_size tabAt) sz)
      rw [upd_ne n1, upd_ne n2]
      exact I.hok.fresh sz
end
end PM

namespace PM
open PySem PySem.Spec PyProof.Rows
open L2 hiding St
variable [TC]

/-! ## the lambda's body, run where the def that got it calls it -/
section
variable {X : Cx} {J : Jx} {T : Tb} {orc : Orc}
/-- its context, its wish -/
abbrev lamJ (J : Jx) (E : XK) : Jx := { J with W := fun cls d _ H => E cls d H }
theorem lam_bd {A : Around} {out : List Env} {s : Shared} {H : Hp} {E : XK} {sc : Scope} {f c' : Addr} {k : Nat} (hG : J.G = Cxg X T) (nd : X.N.Nodup) (hr : Room k (A.deeper (LamX.lamEnv X sc s.heap.objs.size f c'))) (gd : A.guards = some []) :
    Bd (LamX.lamCx X A out s H E sc f c') (lamJ J E) T k := ⟨hG, hr, guards_deeper gd, takes_of rfl rfl rfl rfl, rfl, nd⟩
/-- the def's context that got the lambda f -/
abbrev earCx (X : Cx) (Ng : List Str) (x : Str) (sg : Scope) (g : Addr) (cdg : Value) (s : Shared) (H : Hp) : Cx := cxOf C8.CX0 X.prog X.w X.K X.mg X.base Ng x sg g cdg X.A X.stack s H C8.E0
/-- a() there: f stands at its first name -/
def actT (f c' : Addr) (q : Str) (tl : Hp → VK → Prop) : TE := fun τ K Q => τ[0]? = some (some (.ref f)) ∧ K c' = some (LamX.CodeO c' q) ∧ tl K Q
def Acts (X : Cx) (Ng : List Str) (x : Str) (sg : Scope) (g : Addr) (cdg : Value) (a : Str) (f c' : Addr) (q : Str) (s : Shared) (H : Hp) (tl : XK → Hp → VK → Prop) : Prop :=
  ∀ (W : WX) (pn : List (Addr × Obj)) (xe : Value → Shared → Prop) (E : XK) (p1 p2 : Pos), Takes ((earCx X Ng x sg g cdg s H).tr pn xe) W → (∀ cls d τ K, E cls d K → W cls d τ K) →
    PE ((earCx X Ng x sg g cdg s H).tr pn xe) (.Call (.Name a p1) [] [] p2) (actT f c' q (tl E))
theorem acts {pins : List (Addr × Obj)} {σ : L2.St} {H : Hp} {s : Shared} {Ng : List Str} {x a : Str} {sg sc : Scope} {g f c' : Addr} {cdg pm ctv : Value} {params : Arguments} {body : Expr} {k : Nat} {tb : XK → TE}
    (I : Inv X pins σ H s) (L : LamX.LamS X.env.scope sc) {H0 : Hp} (M : Made X H0 params body sc f c' pm ctv H s.heap) (hbind : bindArgs (PySem.W.kla_fn "<lambda>" (X.env.qual ++ "<lambda>") params body sc (cloFrom X.env.cells sc.names []) pm (.ref c') ctv) ⟨[], []⟩ = pure [])
    (hr : Room (k + 1) (X.A.deeper (envOfC x sg s.heap.objs.size g cdg))) (gd : X.A.guards = some [])
    (hb : ∀ (A : Around) (out : List Env) (s : Shared) (H : Hp) (E : XK), A.guards = some [] → Room k (A.deeper (LamX.lamEnv X sc s.heap.objs.size f c')) → PE (LamX.lamCx X A out s H E sc f c') body (tb E))
    (hN : Ng[0]? = some a) (hv : Vis sg a) (hd : (a == ("__debug__" : Str)) = false) (hcd : (a == ("__classdict__" : Str)) = false) :
    Acts X Ng x sg g cdg a f c' (X.env.qual ++ "<lambda>") s H (fun E K Q => tb E σ K Q) := by
  intro W pn xe E p1 p2 tk hW
  refine ⟨fun pinsZ t τ K Q IZ ⟨at0, atc, run⟩ => ?_⟩
  refine wpAny_Call_Name_kw (thn ((pe_var (pos := p1) (i := 0) hN hv hd hcd).run pinsZ t τ K (fun v K1 => v = .ref f ∧ K1 = K) IZ ⟨.ref f, at0, rfl, rfl⟩) ?_)
  rintro u t1 ⟨v, K1, I1, rv, rfl, rfl⟩
  cases (rv : u = Value.ref f)
  have here : t1.heap.get? f = some (lamObj X params body sc pm c' ctv) := I1.base.keep f _ M.obj M.fr M.nf fun z => by cases z
  obtain ⟨⟨oc, vs, tk0, code1, code2, code3⟩, _⟩ := I1.hok c' _ atc
  refine PySem.W.callWith_F0 ⟨_, _, _, _, here⟩ (wpAny_call (codeAny_mono (R := CR (L2.CX X.prog X.w) (envOfC x sg s.heap.objs.size g cdg :: X.stack) X.prog X.w K1 t1 Q E) ?_ ?_))
  · show codeAny _ _ (.call (.ref f) ⟨[], []⟩) _ _
    refine PySem.W.kla_callFunE hr.depth here rfl L.co L.gen rfl ⟨c', oc, vs, tk0, rfl, code1, code2, code3⟩ ?_
    rw [hbind]
    refine wpAny_pure (wpAny_newFunctionEnv (fun y hy => (L.own y hy).2) (fun y hy => by cases hy) (fun h1 ns fresh => ⟨I1.nolimit.fresh _ fresh, ?_⟩) L.kind)
    have old : ∀ b o, t1.heap.get? b = some o → h1.get? b = some o := fun b o e => fresh.extBut b o (Nat.ne_of_lt (Heap.lt_size e)) (Heap.get?_push_of_some _ e)
    have J1 := LamX.lam_start2 (tk := t1.toks + ([] : List (Str × Value)).length) (E := E) (f := f) (c' := c') I L I1.env0 hr.hd I1.base ns old
    refine PySem.W.kla_codeExpr (wpAny_mono ((hb _ _ t1 K1 E (guards_deeper gd) (hr.deeper _)).run [] _ _ K1 Q J1 run) (fun w t2 ⟨w', K2, J2, r2, q2⟩ => ?_) fun _ _ z => z)
    exact ⟨w', K2, J2.os, J2.bare, J2.base, J2.hok, r2, q2⟩
  · intro r t2 res
    cases r with
    | error e => exact passes_call tk hW pinsZ τ K1 t1 e t2 I1 res
    | ok fl => cases fl <;> first | exact I1.after res | exact False.elim res
end

/-! ## what the def makes of it -/
section
variable {X : Cx} {J : Jx} {T : Tb} {orc : Orc}
/-- the answer r arrives, whatever else is new -/
def Ans (J : Jx) (H : Hp) (r : OV) (Q : VK) : Prop := ∀ v H2, NRq J.G H r v H2 → Q v H2
def EarOk (J : Jx) (okk : OK0) (Q : VK) : VK := fun v H1 => ∃ d, Fz J.G H1 d v ∧ LamX.Tabs TC.ts H1 ∧ Ans J H1 (okk.res d) Q
def EarEx (J : Jx) (hs : List (List Nat × HK0)) (Q : VK) : XK := fun cls dx H1 => ∃ c p C dd v h, J.G.clsA c = some C ∧ cls = .ref C ∧ dx = some dd ∧ H1 dd = some (.xd [(J.fld c, v)]) ∧ Fz J.G H1 p v ∧ pick0 c hs = some h ∧ LamX.Tabs TC.ts H1 ∧ Ans J H1 (h.res p) Q
def Ears (X : Cx) (J : Jx) (Ng : List Str) (x : Str) (sg : Scope) (g : Addr) (cdg : Value) (bg : List Stmt) (a : Str) (okk : OK0) (hs : List (List Nat × HK0)) : Prop :=
  ∀ (f c' : Addr) (q : Str) (s : Shared) (H : Hp) (Q : VK) (tl : XK → Hp → VK → Prop), Acts X Ng x sg g cdg a f c' q s H tl → H c' = some (LamX.CodeO c' q) →
    (∀ (E : XK) (R : VK), (∀ cls d H1, EarEx J hs Q cls d H1 → E cls d H1) → (∀ v H1, EarOk J okk Q v H1 → R v H1) → tl E H R) →
    ∃ t, PSs (earCx X Ng x sg g cdg s H).nox bg t ∧ t { nx := fun _ H' => Q .non H', rt := Q } (L2.start Ng [.ref f]) H
/-- the clauses and what they come to -/
inductive HSame (orc : Orc) (n : Nat) : Hs → List (List Nat × HK0) → Prop
  | nil : HSame orc n .nil []
  | cons {cs : List Nat} {h : HK} {h0 : HK0} {r : Hs} {l : List (List Nat × HK0)} (e : ∀ p, ∃ en', hkRes orc p h (List.replicate n .no) = .ok (.ret (h0.res p)) en') (rr : HSame orc n r l) : HSame orc n (.cons cs h r) ((cs, h0) :: l)
theorem HSame.pick {n c : Nat} {hs : Hs} {l : List (List Nat × HK0)} {h0 : HK0} (h : HSame orc n hs l) (e : pick0 c l = some h0) : ∃ h, PM.pick c hs = some h ∧ ∀ p, ∃ en', hkRes orc p h (List.replicate n .no) = .ok (.ret (h0.res p)) en' := by
  induction h with
  | nil => cases e
  | @cons cs k k0 r l e' rr ih =>
    by_cases z : c ∈ cs
    · simp only [pick0, if_pos z, Option.some.injEq] at e
      subst e
      exact ⟨k, by simp only [PM.pick, if_pos z], e'⟩
    · simp only [pick0, if_neg z] at e
      obtain ⟨h, h1, h2⟩ := ih e
      exact ⟨h, by simp only [PM.pick, if_neg z]; exact h1, h2⟩
theorem no_env {G : GT} {H : Hp} : ∀ (σ : L2.St), EnvIs G H (List.replicate σ.length .no) σ []
  | [] => ⟨rfl, rfl⟩
  | v :: σ => ⟨v, σ, [], [], rfl, rfl, no_env σ, rfl⟩
theorem no_eo {G : GT} {H : Hp} {LV : Nat → Option V} (tb : LamX.Tabs TC.ts H) (σ : L2.St) : EO G LV H (List.replicate σ.length .no) σ [] := ⟨no_env σ, .nil, (fun i o e => by
  rw [List.getElem?_replicate] at e
  split at e <;> cases e), tb⟩
theorem takes_len {Z : Cx} {W : WX} (tk : Takes Z W) : Takes Z fun cls d τ H => τ.length = Z.N.length → W cls d τ H := fun u s' ⟨a, B, sI, pins, σ, H, cls, d, e, I, nb, up, sky, na, os, ag, w⟩ =>
  tk u s' ⟨a, B, sI, pins, σ, H, cls, d, e, I, nb, up, sky, na, os, ag, w I.len⟩
theorem no_wish {Z : Cx} : Takes Z fun _ _ _ _ => False := fun _ _ ⟨_, _, _, _, _, _, _, _, _, _, _, _, _, _, _, _, w⟩ => w.elim
/-- the clauses answer -/
theorem ear_mix {Z : Cx} {J0 : Jx} {hds : List ExceptHandler} {hsE : Hs} {hs : List (List Nat × HK0)} {l : List (Value × Option Nat × (Addr → Value → Option Addr → TS))} {Q : VK} {D : Ends} {n : Nat} (hh : HRel Z J0 orc hds hsE l) (same : HSame orc n hsE hs) (hg : J0.G = J.G) (hf : J0.fld = J.fld)
    (hD : D.rt = Q) {cls : Value} {d : Option Addr} {H1 : Hp} (x : EarEx J hs Q cls d H1) (τ : L2.St) (hn : τ.length = n) : wMix Z.K J0.W D l cls d τ H1 := by
  obtain ⟨c, p, C, dd, v, h0, h1, h2, h3, h4, h5, h6, h7, h8⟩ := x
  obtain ⟨h, e1, e2⟩ := same.pick h6
  obtain ⟨en', e3⟩ := e2 p
  subst hn
  have E0 : EO J0.G J0.LV H1 (List.replicate τ.length .no) τ [] := no_eo h7 τ
  refine wmix_ok (O := []) (H := H1) (c := c) (p := p) (en' := List.replicate τ.length .no) hh ?_ cls d τ H1 ⟨C, dd, v, [], by rw [hg]; exact h1, h2, h3, by rw [hf]; exact h4, by rw [hg]; exact h5, Step.refl, E0⟩
  rw [e1]
  show Endz (hkRes orc p h (List.replicate τ.length .no)) _ _
  rw [e3]
  intro w σ1 H2 O1 as dv
  rw [hD]
  have ov := dv.ov
  rw [hg] at ov
  exact h8 w H2 ⟨dv.st.keep, dv.st.dom, as, ov, (nd_app dv.nd).1, fun b hb => (dv.st.sub b (List.mem_append_left _ hb)).elim (fun z => by cases z) id⟩
/-- try: return (tag, a()) / except .. -/
theorem ears_pair {Ng : List Str} {x a tag : Str} {sg : Scope} {g : Addr} {cdg : Value} {hd0 : ExceptHandler} {hds : List ExceptHandler} {hs : List (List Nat × HK0)} {hsE : Hs} {j c : Nat} {p1 p2 p3 p4 p5 p6 : Pos} (nd : Ng.Nodup) (hl : 1 ≤ Ng.length) (same : HSame orc Ng.length hsE hs)
    (hh : ∀ (Z : Cx) (J0 : Jx), Z.N = Ng → Z.K = X.K → Z.mg = X.mg → (∃ L, Z.env = envOfC x sg L g cdg) → J0.G = J.G → J0.fld = J.fld → ∃ l, HRel Z J0 orc (hd0 :: hds) hsE l) :
    Ears X J Ng x sg g cdg [.Try [.Return (some (.Tuple [.Constant (.str tag) j p1, .Call (.Name a p2) [] [] p3] c p4)) p5] (hd0 :: hds) [] [] p6] a (.pair tag) hs := by
  intro f c' q s H Q tl act hc want
  obtain ⟨l, rel⟩ := hh (earCx X Ng x sg g cdg s H).nox ⟨J.G, J.fld, fun _ => none, fun _ _ _ _ => False⟩ rfl rfl rfl ⟨_, rfl⟩ rfl rfl
  have ls : (L2.start Ng [V.ref f]).length = Ng.length := by
    unfold L2.start
    simp
    omega
  refine ⟨_, pss_one (ps_try_mix (tb := fun W => fun D τ K => ∃ E : XK, (∀ cls d τ' K', E cls d K' → τ'.length = Ng.length → W cls d τ' K') ∧ tRet (tTup (tCons (tC (.str tag)) (tCons (actT f c' q (tl E)) tNil))) D τ K) rfl rfl nd no_wish (fun W pn xe tk _ => ?_) rel.mix), ?_⟩
  · exact ⟨fun pins s' τ K D I ⟨E, hE, rest⟩ => (pss_one (L2.ps_ret (pos := p5) (L2.pe_tup (x1 := c) (pos := p4) (L2.pa_cons L2.pe_str (L2.pa_cons (act _ pn xe E p2 p3 (takes_len tk) fun cls d τ' K' e hl' => hE cls d τ' K' e hl') L2.pa_nil))))).run pins s' τ K D I rest⟩
  · refine ⟨EarEx J hs Q, fun cls d τ' K' e hl' => ear_mix (J := J) rel same rfl rfl rfl e τ' hl', ?_⟩
    refine ⟨by unfold L2.start; cases Ng with | nil => simp at hl | cons y r => rfl, hc, want _ _ (fun _ _ _ e => e) ?_⟩
    rintro v H1 ⟨d, fd, tb, ans⟩
    exact ⟨by show 2 ≤ sizeLine; decide, fun p np => ans _ _ (nq_tup np (FzL.cons (show Fz J.G H1 (.str tag) (.str tag) by simp [Fz]) (FzL.one fd)))⟩
theorem start_at {Ng : List Str} {v : V} (hl : 1 ≤ Ng.length) : (L2.start Ng [v])[0]? = some (some v) ∧ (L2.start Ng [v]).length = Ng.length := by
  unfold L2.start
  constructor
  · cases Ng with
    | nil => simp at hl
    | cons y r => rfl
  · simp
    omega
/-- try: return a() / except .. -/
theorem ears_self {Ng : List Str} {x a : Str} {sg : Scope} {g : Addr} {cdg : Value} {hd0 : ExceptHandler} {hds : List ExceptHandler} {hs : List (List Nat × HK0)} {hsE : Hs} {p2 p3 p5 p6 : Pos} (nd : Ng.Nodup) (hl : 1 ≤ Ng.length) (same : HSame orc Ng.length hsE hs)
    (hh : ∀ (Z : Cx) (J0 : Jx), Z.N = Ng → Z.K = X.K → Z.mg = X.mg → (∃ L, Z.env = envOfC x sg L g cdg) → J0.G = J.G → J0.fld = J.fld → ∃ l, HRel Z J0 orc (hd0 :: hds) hsE l) :
    Ears X J Ng x sg g cdg [.Try [.Return (some (.Call (.Name a p2) [] [] p3)) p5] (hd0 :: hds) [] [] p6] a .self hs := by
  intro f c' q s H Q tl act hc want
  obtain ⟨l, rel⟩ := hh (earCx X Ng x sg g cdg s H).nox ⟨J.G, J.fld, fun _ => none, fun _ _ _ _ => False⟩ rfl rfl rfl ⟨_, rfl⟩ rfl rfl
  refine ⟨_, pss_one (ps_try_mix (tb := fun W => fun D τ K => ∃ E : XK, (∀ cls d τ' K', E cls d K' → τ'.length = Ng.length → W cls d τ' K') ∧ tRet (actT f c' q (tl E)) D τ K) rfl rfl nd no_wish (fun W pn xe tk _ => ?_) rel.mix), ?_⟩
  · exact ⟨fun pins s' τ K D I ⟨E, hE, rest⟩ => (pss_one (L2.ps_ret (pos := p5) (act _ pn xe E p2 p3 (takes_len tk) fun cls d τ' K' e hl' => hE cls d τ' K' e hl'))).run pins s' τ K D I rest⟩
  · refine ⟨EarEx J hs Q, fun cls d τ' K' e hl' => ear_mix (J := J) rel same rfl rfl rfl e τ' hl', (start_at hl).1, hc, want _ _ (fun _ _ _ e => e) ?_⟩
    rintro v H1 ⟨d, fd, tb, ans⟩
    exact ans _ _ (nq_old fd)
/-- try: a() / except .. / return e -/
theorem ears_then {Ng : List Str} {x a : Str} {sg : Scope} {g : Addr} {cdg : Value} {hd0 : ExceptHandler} {hds : List ExceptHandler} {hs : List (List Nat × HK0)} {hsE : Hs} {e2 : Expr} {A : E} {o : OV} {en2 : En} {p2 p3 p5 p6 p7 : Pos} (nd : Ng.Nodup) (hl : 1 ≤ Ng.length) (same : HSame orc Ng.length hsE hs)
    (hh : ∀ (Z : Cx) (J0 : Jx), Z.N = Ng → Z.K = X.K → Z.mg = X.mg → (∃ L, Z.env = envOfC x sg L g cdg) → J0.G = J.G → J0.fld = J.fld → ∃ l, HRel Z J0 orc (hd0 :: hds) hsE l)
    (he : ∀ (Z : Cx) (J0 : Jx), (∃ L, Z.env = envOfC x sg L g cdg) → pE Z J0 orc e2 A) (ev : evE orc A (List.replicate Ng.length .no) = .ok o en2) :
    Ears X J Ng x sg g cdg [.Try [.Expr (.Call (.Name a p2) [] [] p3) p5] (hd0 :: hds) [] [] p6, .Return (some e2) p7] a (.const o) hs := by
  intro f c' q s H Q tl act hc want
  obtain ⟨l, rel⟩ := hh (earCx X Ng x sg g cdg s H).nox ⟨J.G, J.fld, fun _ => none, fun _ _ _ _ => False⟩ rfl rfl rfl ⟨_, rfl⟩ rfl rfl
  have last := he (earCx X Ng x sg g cdg s H).nox ⟨J.G, J.fld, fun _ => none, fun _ _ _ _ => False⟩ ⟨_, rfl⟩
  refine ⟨_, L2.pss_cons (ps_try_mix (tb := fun W => fun D τ K => ∃ E : XK, (∀ cls d τ' K', E cls d K' → τ'.length = Ng.length → W cls d τ' K') ∧ tDrop (actT f c' q (tl E)) D τ K) rfl rfl nd no_wish (fun W pn xe tk _ => ?_) rel.mix) (pss_one (L2.ps_ret (pos := p7) last)), ?_⟩
  · exact ⟨fun pins s' τ K D I ⟨E, hE, rest⟩ => (pss_one (L2.ps_expr (pos := p5) (act _ pn xe E p2 p3 (takes_len tk) fun cls d τ' K' e hl' => hE cls d τ' K' e hl'))).run pins s' τ K D I rest⟩
  · refine ⟨EarEx J hs Q, fun cls d τ' K' e hl' => ear_mix (J := J) rel same rfl rfl rfl e τ' hl', (start_at hl).1, hc, want _ _ (fun _ _ _ e => e) ?_⟩
    rintro v H1 ⟨d, fd, tb, ans⟩
    refine ⟨List.replicate (L2.start Ng [V.ref f]).length .no, [], no_eo tb _, ?_⟩
    rw [(start_at hl).2]
    show Endz (evE orc A (List.replicate Ng.length .no)) _ _
    rw [ev]
    exact fun w H2 O1 as dv => ans w H2 ⟨dv.st.keep, dv.st.dom, as, dv.ov, (nd_app dv.nd).1, fun b hb => (dv.st.sub b (List.mem_append_left _ hb)).elim (fun z => by cases z) id⟩
/-- x(lambda: e) -/
theorem pe_heard {x a : Str} {g c P : Addr} {k : Nat} {pg : Arguments} {bg : List Stmt} {sg : Scope} {dV kV doc pm cdv ct oc : Value} {an od : Option Addr} {osl : Array (Option Value)} {Ng : List Str} {okk : OK0} {hs : List (List Nat × HK0)} {L : E}
    {params : Arguments} {body : Expr} {scope : Scope} {p lpos pos : Pos} (b : Bd X J T (k + 2)) (hg : Gl X x) (hm : X.mg x = some (.ref g)) (hk : PySem.W.keepIn X.K (.ref g) = true)
    (lk : X.K.lookup g = some ⟨oc, od, .func (PySem.W.fnOf x x pg bg sg dV kV doc pm an cdv ct), osl⟩) (hcg : PySem.W.codeIn X.K cdv x = true) (hb : L2.Binds X.K (PySem.W.fnOf x x pg bg sg dV kV doc pm an cdv ct) [a] []) (Sg : FnScope Ng [a] sg) (hNg : Ng[0]? = some a) (hva : Vis sg a)
    (ears : Ears X J Ng x sg g cdv bg a okk hs) (B : LamX.TabB X.base X.mg c P) (hcode : X.env.code = .ref c) (mem : (P, X.env.qual ++ "<lambda>") ∈ TC.ts) (uni : ∀ p ∈ TC.ts, p.1 = P → p.2 = X.env.qual ++ "<lambda>") (LS : LamX.LamS X.env.scope scope) (hdef : defaultsOf params X.env = ([], []))
    (hbind : ∀ (q : Str) (cl : List (Str × Addr)) (pm cv ctv : Value), bindArgs (PySem.W.kla_fn "<lambda>" q params body scope cl pm cv ctv) ⟨[], []⟩ = pure [])
    (hbody : ∀ (A : Around) (out : List Env) (s : Shared) (H : Hp) (E : XK) (f c' : Addr), Bd (LamX.lamCx X A out s H E scope f c') (lamJ J E) T k → pE (LamX.lamCx X A out s H E scope f c') (lamJ J E) orc body L)
    (hdb : (x == ("__debug__" : Str)) = false := by decide) (hd : (a == ("__debug__" : Str)) = false := by decide) (hcd : (a == ("__classdict__" : Str)) = false := by decide) :
    pE X J orc (.Call (.Name x p) [.Lambda params body scope lpos] [] pos) (.heard okk hs L) := by
  refine ⟨fun pins s σ H Q I ⟨en, O, E0, fin⟩ => ?_⟩
  refine wpAny_Call_Name_kw (ld_glob I hg hm (PySem.W.callWith_K (h₀ := X.base) I.ok.mod.kin hk ?_ (by rfl) (by rfl)) hdb)
  show wpAny _ _ (spliced ((false, eval (.Lambda params body scope lpos) X.env) :: backTo pos (starEach [] X.env))) _ _ s
  refine Calls.spliced_cons (lam_make I B hcode mem uni E0.tb hdef (LS.has I.ok) fun f c' pm' ctv H1 s' I1 M => Calls.spliced_nil ⟨I1.kIn, wpAny_call (codeAny_mono (R := CR C8.CX0 X.stack X.prog X.w H1 s' Q C8.E0) ?_ ?_)⟩)
  · refine LamX.run_ofS (N := Ng) (ps := [a]) (us := [.ref f]) (vs := [.ref f]) lk hcg Sg b.room I1.env0 (hb s' [.ref f] I1.kIn rfl) (.cons rfl .nil) rfl fun hr => ?_
    have E1 : EO J.G J.LV H1 en σ O := E0.keep M.keep mutO_nil (fun b _ z => by cases z) M.dom
    have done := ears f c' _ s' H1 Q _ (acts (tb := fun E => tZ (lamJ J E) (evE orc L)) I1 LS M (hbind _ _ _ _ _) hr b.gd (fun A out s H E gd hr' => pz (hbody A out s H E f c' (lam_bd b.hG b.nd hr' gd))) hNg hva hd hcd) M.code
    suffices need : _ from (done need).elim fun t ⟨h1, h2⟩ => ⟨t, h1.nox, h2⟩
    intro E R hx ho
    refine ⟨en, O, E1, ?_⟩
    have stp : Step O H O H1 := ⟨M.keep.mono (fun _ z => (by cases z)), M.dom, fun b hb => .inl hb⟩
    have back : ∀ {H2 H3 : Hp} {O2 : List Addr} {en2 : En} {r : OV} {v : V}, Step O H1 O2 H2 → EO J.G J.LV H2 en2 σ O2 → NRq J.G H2 r v H3 → ∃ as, VD J σ O H r en2 v H3 O2 as := fun st E2 n => VD.of_nr E2 (stp.trans st) n
    simp only [evE] at fin
    cases hL : evE orc L en with
    | bad => rw [hL] at fin; exact fin.elim
    | ok o en1 =>
      rw [hL] at fin
      simp only [endz_ite, endz_ok] at fin
      rw [endz_ok]
      refine ⟨fin.1, fun v H2 O2 F => ho v H2 ⟨_, F.fz, F.eo.tb, fun w H3 n => ?_⟩⟩
      obtain ⟨as, vd⟩ := back F.st F.eo n
      exact fin.2 w H3 O2 as vd
    | exc c0 q0 en1 =>
      rw [hL] at fin
      simp only at fin
      cases hp : pick0 c0 hs with
      | none => rw [hp] at fin; exact fin.elim
      | some h =>
        rw [hp] at fin
        rintro cls d H2 ⟨C, dd, v, O2, h1, h2, h3, h4, h5, h6, h7⟩
        refine hx cls d H2 ⟨c0, q0, C, dd, v, h, h1, h2, h3, h4, h5, hp, h7.tb, fun w H3 n => ?_⟩
        obtain ⟨as, vd⟩ := back h6 h7 n
        exact fin w H3 O2 as vd
  · intro r s2 res
    cases r with
    | error e => exact (show False from res).elim
    | ok fl => cases fl <;> first | exact I1.after res | exact False.elim res
end
end PM

namespace PM
open PySem PySem.Spec PyProof.Rows
open L2 hiding St

/-! ## the end of a law: from the head's heap to the promise of its def -/
/-- what stands behind the head: the script, the empty tables of code objects -/
structure Behind (K : PySem.W.Frag) (mg mb : Str → Option Value) (S : Shared) (a : Addr) (vs : List Value) (cs : List (Addr × Addr)) : Prop where
  kin : K.In S.heap
  glob : S.heap.Ns mainGlobals mg
  blt : S.heap.Ns builtinsNs mb
  boot : ∀ x : Str, x ≠ "__name__" → mb x = bootBuiltins x
  lim : S.heap.NoLimit
  gens : S.gens = #[]
  tabs : ∀ p ∈ cs, S.heap.get? p.2 = some { cls := .none, data := .fields #[] }
  out : ∀ p ∈ cs, K.lookup p.2 = none
  code : ∀ p ∈ cs, PySem.W.CodeHd S.heap p.1 p.2
  bm : ∃ (bm : Addr) (ob : Obj), mg "__builtins__" = some (.ref bm) ∧ bm ≠ builtinsNs ∧ S.heap.get? bm = some ob ∧ ob.cls = .type "module" ∧ ob.dict = some builtinsNs ∧ ob.data = .plain
  scr : S.heap.get? a = some { cls := .type "list", data := .seq vs.toArray }
section
variable {K : PySem.W.Frag} {mg mb : Str → Option Value} {S : Shared} {a : Addr} {vs : List Value} {cs : List (Addr × Addr)}
/-- what is tracked there -/
structure Trk (P : Program) (w : World) (K : PySem.W.Frag) (S : Shared) (a : Addr) (cs : List (Addr × Addr)) (H : Hp) : Prop where
  tab : ∀ p ∈ cs, H p.2 = some (.tbl #[])
  kind : ∀ b u, H b = some u → (∃ p ∈ cs, p.2 = b) ∨ (b = a ∧ K.lookup a = none ∧ ∃ o xs, u = .frz o (.lst xs))
  ok : HOk P w H S.heap
section
variable {P : Program} {w : World} {H : Hp}
theorem Trk.free (B : Behind K mg mb S a vs cs) (t : Trk P w K S a cs H) {b : Addr} {o : Obj} (e : S.heap.get? b = some o) (n1 : ∀ its m, o.data ≠ .seq its m) (n2 : o.data ≠ .fields #[]) : H b = none := by
  cases q : H b with
  | none => rfl
  | some u =>
    rcases t.kind b u q with ⟨p, hp, rfl⟩ | ⟨rfl, _⟩
    · have := (B.tabs p hp).symm.trans e
      cases this
      exact absurd rfl n2
    · have := B.scr.symm.trans e
      cases this
      exact absurd rfl (n1 _ _)
theorem Trk.dict (B : Behind K mg mb S a vs cs) (t : Trk P w K S a cs H) {b : Addr} {m : Str → Option Value} (n : S.heap.Ns b m) : (hidT S.heap H).Ns b m := by
  obtain ⟨o, es, ep, e, d, r⟩ := n
  refine ⟨o, es, ep, hidT_get e (t.free B e (fun its m z => ?_) fun z => ?_), d, r⟩ <;> (rw [d] at z; cases z)
theorem Trk.kin (B : Behind K mg mb S a vs cs) (t : Trk P w K S a cs H) : K.In (hidT S.heap H) := fun b o e => hidT_get (B.kin b o e) (by
  cases q : H b with
  | none => rfl
  | some u =>
    rcases t.kind b u q with ⟨p, hp, rfl⟩ | ⟨rfl, z, _⟩
    · rw [B.out p hp] at e; cases e
    · rw [z] at e; cases e)
theorem Trk.mod (B : Behind K mg mb S a vs cs) (t : Trk P w K S a cs H) : L2.Mod K mg (hidT S.heap H) := by
  obtain ⟨mc, l1, l2⟩ := B.lim
  exact ⟨t.kin B, t.dict B B.glob, ⟨mb, t.dict B B.blt, B.boot⟩, ⟨mc, t.dict B l1, l2⟩⟩
theorem Trk.heads (B : Behind K mg mb S a vs cs) (t : Trk P w K S a cs H) : ∀ p ∈ cs, LamX.TabB (hidT S.heap H) mg p.1 p.2 := fun p hp => by
  obtain ⟨og, es, ep, eg, dg, _⟩ := B.glob
  refine ⟨?_, ?_, fun z => ?_⟩
  · obtain ⟨o, us, file, tf, flags, tg, inF, text, tt, e1, r1, r2, r3, rest⟩ := B.code p hp
    refine ⟨o, us, file, tf, flags, tg, inF, text, tt, hidT_get e1 (t.free B e1 (fun its m z => ?_) fun z => ?_), r1, r2, r3, rest⟩
    · rw [r2] at z; cases z
    · rw [r2] at z
      cases z
      simp at r3
  · obtain ⟨bm, ob, b1, b2, b3, b4, b5, b6⟩ := B.bm
    refine ⟨bm, ob, b1, b2, fun q => ?_, fun q => ?_, hidT_get b3 (t.free B b3 (fun its m z => ?_) fun z => ?_), b4, b5, b6⟩
    · rw [q, eg] at b3; cases b3; rw [dg] at b6; cases b6
    · rw [q, B.tabs p hp] at b3; cases b3; cases b6
    · rw [b6] at z; cases z
    · rw [b6] at z; cases z
  · rw [z, B.tabs p hp] at eg
    cases eg
    cases dg
/-- behind the call the old objects stand as they were, tables may have grown -/
theorem Trk.after (B : Behind K mg mb S a vs cs) (t : Trk P w K S a cs H) {H' : Hp} {h' : Heap} (un : Un [] [] H H' S.heap h') (ok' : HOk P w H' h') : OldK S.heap h' := by
  have same : ∀ b o, (∀ p ∈ cs, p.2 ≠ b) → S.heap.get? b = some o → h'.get? b = some o := fun b o nt e => by
    cases q : H b with
    | none => exact un.keep b o e q (fun z => by cases z) fun z => by cases z
    | some u =>
      rcases t.kind b u q with ⟨p, hp, z⟩ | ⟨rfl, _, o', xs, rfl⟩
      · exact absurd z (nt p hp)
      · have f1 := (t.ok _ _ q).1
        have f2 := (ok' _ _ (un.frzs _ _ _ q)).1
        rw [f1] at e
        rw [f2, e]
  have more : ∀ p ∈ cs, ∃ m : Array Value, h'.get? p.2 = some { cls := .none, data := .fields m } := fun p hp => by
    obtain ⟨m, z⟩ := un.tbls p.2 #[] (t.tab p hp)
    exact ⟨_, ok' p.2 _ z⟩
  constructor
  · intro b o e
    by_cases hb : ∃ p ∈ cs, p.2 = b
    · obtain ⟨p, hp, rfl⟩ := hb
      obtain ⟨m, hm⟩ := more p hp
      have eo := (B.tabs p hp).symm.trans e
      cases eo
      exact .inr (.inl ⟨((B.code p hp).tab (B.tabs p hp)).isCodeTable, rfl, #[], m, rfl, by rw [Array.empty_append]; exact hm⟩)
    · exact .inl (same b o (fun p hp z => hb ⟨p, hp, z⟩) e)
  · intro b o e
    by_cases hb : ∃ p ∈ cs, p.2 = b
    · obtain ⟨p, hp, rfl⟩ := hb
      obtain ⟨m, hm⟩ := more p hp
      exact ⟨_, hm⟩
    · exact ⟨o, same b o (fun p hp z => hb ⟨p, hp, z⟩) e⟩
end
/-- the tracked heap to begin with -/
theorem Trk.first {P : Program} {w : World} (B : Behind K mg mb S a vs cs) {ns : List Int} (hi : IntsAre vs ns) (hl : ns.length ≤ sizeLine) (hk : K.lookup a = none) : ∃ H, Trk P w K S a cs H ∧ FLs K H a (ns.map V.int) := by
  have rv := vals_ints hi
  have nota : ∀ p ∈ cs, p.2 ≠ a := fun p hp z => by
    have := B.tabs p hp
    rw [z, B.scr] at this
    cases this
  let T0 : Hp := fun b => if ∃ p ∈ cs, p.2 = b then some (.tbl #[]) else none
  have t0 : ∀ p ∈ cs, T0 p.2 = some (.tbl #[]) := fun p hp => if_pos ⟨p, hp, rfl⟩
  have at0 : ∀ b u, T0 b = some u → (∃ p ∈ cs, p.2 = b) ∧ u = .tbl #[] := fun b u e => by
    by_cases z : ∃ p ∈ cs, p.2 = b
    · have e' := (show T0 b = some (.tbl #[]) from if_pos z).symm.trans e
      exact ⟨z, (Option.some.inj e').symm⟩
    · have e' := (show T0 b = none from if_neg z).symm.trans e
      cases e'
  have ups : ∀ b u, upd T0 a (.frz { cls := .type "list", data := .seq vs.toArray } (.lst (ns.map V.int))) b = some u → (b = a ∧ u = .frz { cls := .type "list", data := .seq vs.toArray } (.lst (ns.map V.int))) ∨ T0 b = some u := fun b u e => by
    by_cases z : b = a
    · subst z
      rw [upd_same] at e
      exact .inl ⟨rfl, (Option.some.inj e).symm⟩
    · rw [upd_ne z] at e
      exact .inr e
  refine ⟨upd T0 a (.frz { cls := .type "list", data := .seq vs.toArray } (.lst (ns.map V.int))), ⟨fun p hp => by rw [upd_ne (nota p hp)]; exact t0 p hp, fun b u e => ?_, fun b u e => ?_⟩, ⟨_, upd_same⟩⟩
  · rcases ups b u e with ⟨rfl, rfl⟩ | e
    · exact .inr ⟨rfl, hk, _, _, rfl⟩
    · exact .inl (at0 b u e).1
  · rcases ups b u e with ⟨rfl, rfl⟩ | e
    · exact ⟨B.scr, by rw [List.length_map]; exact hl, vs, _, rv, B.scr⟩
    · obtain ⟨⟨p, hp, rfl⟩, rfl⟩ := at0 b u e
      exact B.tabs p hp
/-- no list stands among the module's own objects -/
def noLst (K : PySem.W.Frag) : Bool := K.all fun p => match p.2 with
  | ⟨.type c, _, .seq _ _, _⟩ => !decide (c = "list")
  | _ => true
theorem noLst_ok {K : PySem.W.Frag} (h : noLst K = true) {h0 : Heap} (kin : K.In h0) {a : Addr} {vs : List Value} (e : h0.get? a = some { cls := .type "list", data := .seq vs.toArray }) : K.lookup a = none := by
  cases q : K.lookup a with
  | none => rfl
  | some o =>
    have eo := (kin a o q).symm.trans e
    cases eo
    have := List.all_eq_true.mp h _ (He.lookup_mem q)
    cases this
/-- the law's def, called with the script -/
theorem law_end [TC] {P : Program} {w : World} {k : Nat} {fa : Addr} {fd : FuncData} {x : Str} {sp : Sp} {ns : List Int} (B : Behind K mg mb S a vs cs) (hi : IntsAre vs ns) (hl : ns.length ≤ sizeLine) (hr : Room k callerA) (hk : K.lookup a = none)
    (F : ∀ base : Heap, K.In base → base.Ns mainGlobals mg → (∀ p ∈ cs, LamX.TabB base mg p.1 p.2) → FnG P w K mg base k fa fd [x] sp) (hbind : ∀ (s : Shared) (u : Value), BindsTo s fd ⟨[u], []⟩ [(x, u)])
    (hsp : ∀ H : Hp, (∀ p ∈ cs, H p.2 = some (.tbl #[])) → FLs K H a (ns.map V.int) → sp [.ref a] H (fun v _ => v = .bl true) fun _ _ _ => False) :
    codeAny (model P w) callerA (.call (.ref fa) ⟨[.ref a], []⟩) (fun r s' => r = .ok (.ret (.bool true)) ∧ OldK S.heap s'.heap ∧ s'.os = S.os ∧ AllBare s'.gens) S := by
  obtain ⟨H, t, sq⟩ := Trk.first (P := P) (w := w) B hi hl hk
  have e0 : Env0 P w K mg (hidT S.heap H) callerA [] S H := ⟨rfl, t.mod B, fun b o e => of_hidT e, Nat.le_of_eq (hidT_size _ _), trivial, (fun b hb => by cases hb), t.ok, .of_eq B.gens⟩
  refine codeAny_mono ((F _ (t.kin B) (t.dict B B.glob) (t.heads B)).run callerA [] S H ⟨[.ref a], []⟩ [.ref a] [.ref a] _ _ hr rfl e0 (hbind S (.ref a)) (.cons rfl .nil) (hsp H t.tab sq)) ?_
  rintro (e | fl) s' h
  · obtain ⟨_, _, _, _, _, _, _, _, _, _, _, _, z⟩ := h
    exact z.elim
  · cases fl with
    | next => exact False.elim h
    | brk => exact False.elim h
    | cont => exact False.elim h
    | ret u =>
      obtain ⟨v, H', os, bare, un, ok', r, q⟩ := h
      cases (q : v = .bl true)
      cases (r : u = Value.bool true)
      exact ⟨rfl, t.after B un ok', os, bare⟩
end
theorem tabsNil {H : Hp} {cs : List (Addr × Addr)} {T : List (Addr × Str)} (h : ∀ p ∈ T, ∃ q ∈ cs, q.2 = p.1) (e : ∀ p ∈ cs, H p.2 = some (.tbl #[])) : LamX.Tabs T H := fun p hp => by
  obtain ⟨q, hq, z⟩ := h p hp
  exact .nil (by rw [← z]; exact e q hq)
/-- the head's last goal -/
theorem walk_end {l : PySem.W.OpenLaw} {n k : Nat} {q : Program} {loose : List Str} {XP : (Str → Option Value) → Heap → Prop} {YP : World → Heap → Prop} {d : DefRec} {x : Str} (hn : l.most = some n) (hn2 : n ≤ sizeLine) (hdf : d.params.defaults = []) (hr : Room k callerA)
    (F : ∀ (w : World) (mg : Str → Option Value) (fa : Addr) (h : Heap), YP w h → h.Ns mainGlobals mg → mg d.name = some (.ref fa) →
      ∃ (K : PySem.W.Frag) (fd : FuncData) (cs : List (Addr × Addr)) (sp : Sp) (_ : TC), K.In h ∧ noLst K = true ∧ (∀ p ∈ cs, h.get? p.2 = some { cls := .none, data := .fields #[] }) ∧ (∀ p ∈ cs, K.lookup p.2 = none) ∧ (∀ p ∈ cs, PySem.W.CodeHd h p.1 p.2) ∧
        (∀ (s : Shared) (u : Value), BindsTo s fd ⟨[u], []⟩ [(x, u)]) ∧
        (∀ (H : Hp) (a : Addr) (ns : List Int), ns.length ≤ n → (∀ z ∈ ns, Builtin.Int.intBits z ≤ 1048576) → (∀ p ∈ cs, H p.2 = some (.tbl #[])) → FLs K H a (ns.map V.int) → sp [.ref a] H (fun v _ => v = .bl true) fun _ _ _ => False) ∧
        ∀ base : Heap, K.In base → base.Ns mainGlobals mg → (∀ p ∈ cs, LamX.TabB base mg p.1 p.2) → FnG l.prog w K mg base k fa fd [x] sp) :
    PySem.W.WalkO q loose XP YP l.row.toRowW d [] (fun f vs => PySem.call f vs) := by
  refine Att.attach_callB hn hdf fun w s₀ S mg mb fa o pm cd doc a vs ns G Y ho hd hcd hmg hobj hints hlen bits gens => ?_
  obtain ⟨K, fd, cs, sp, tc, kin, nol, e1, e2, e3, hb, hsp, hF⟩ := F w mg fa _ Y G.T.g hmg
  exact law_end ⟨kin, G.T.g, G.T.b, G.T.builtins, G.T.nolimit, gens, e1, e2, e3, G.T.bmain, hobj⟩ hints (Nat.le_trans hlen hn2) hr (noLst_ok nol kin hobj) hF hb fun H hT hS => hsp H a ns hlen bits hT hS
end PM

namespace PM
open PySem PySem.Spec PyProof.Rows
open L2 hiding St

/-! ## classes of errors, as the head tells of them -/
def oexB (K : PySem.W.Frag) (C : Addr) : Bool := (match K.lookup C with
    | some ⟨.type t, _, .cls cd, sl⟩ => decide (t = "type") && ((match cd.mro with
      | .ref C' :: bm => decide (C' = C) && PySem.HandSPX.refsVE bm
      | _ => false) && (cd.hasDict && (!cd.hasDel && (match sl.toList with
      | [_, _, _, _, some (.builtin n), _] => decide (n = "ValueError.__new__")
      | _ => false))))
    | _ => false) && (He.eqO (PySem.W.findIn K (.ref C) "__setattr__") (some (some (.builtin "object.__setattr__"))) && (decide (PySem.W.subIn K (.ref C) (.type "BaseException") = some true) && (decide (PySem.W.typeIn K (.ref C) = some (.type "type")) && PySem.W.keepIn K (.ref C))))
theorem oexB_ok {K : PySem.W.Frag} {C : Addr} (h : oexB K C = true) : OexC K C := by
  unfold oexB at h
  obtain ⟨h1, h⟩ := He.ba h
  obtain ⟨h2, h⟩ := He.ba h
  obtain ⟨h3, h⟩ := He.ba h
  obtain ⟨h4, h5⟩ := He.ba h
  refine ⟨?_, He.eqO_ok h2, of_decide_eq_true h3, of_decide_eq_true h4, h5⟩
  split at h1
  · rename_i t od cd sl lk
    obtain ⟨r1, h1⟩ := He.ba h1
    obtain ⟨r2, h1⟩ := He.ba h1
    obtain ⟨r3, h1⟩ := He.ba h1
    obtain ⟨r4, r5⟩ := He.ba h1
    split at r2
    · rename_i C' bm em
      obtain ⟨q1, q2⟩ := He.ba r2
      split at r5
      · rename_i k0 k1 k2 k3 n k5 es
        have w1 := of_decide_eq_true r1
        have w2 := of_decide_eq_true q1
        have w3 := of_decide_eq_true r5
        obtain ⟨nm, bs, mro, ns, qn, hd, sn, sub, ab, col, del⟩ := cd
        obtain ⟨l⟩ := sl
        simp only at em r3 es
        simp only [Bool.not_eq_true'] at r4
        subst w1 w2 w3 em r3 es
        cases r4
        exact ⟨nm, qn, ns, bs, bm, sn, sub, ab, col, od, k0, k1, k2, k3, k5, lk, q2⟩
      · cases r5
    · cases r2
  · cases h1
/-- the classes that are made, each with the name of its field -/
structure CN where
  name : Str
  fld : Str
def clsAt (cs : List CN) (K : PySem.W.Frag) (i : Nat) : Option Addr := (cs[i]?).map fun c => He.ga K c.name
def fldAt (cs : List CN) (i : Nat) : Str := match cs[i]? with
  | some c => c.fld
  | none => Str.empty
def clsOneB (K : PySem.W.Frag) (c : CN) : Bool := oexB K (He.ga K c.name) && (xfB K (He.ga K c.name) && (He.eqO (PySem.W.findIn K (.ref (He.ga K c.name)) c.fld) (some none) &&
  (He.eqO (PySem.W.findIn K (.ref (He.ga K c.name)) "__init__") (some (some (.ref (He.ma K (He.ga K c.name) "__init__")))) && decide (PySem.W.typeIn K (.ref (He.ma K (He.ga K c.name) "__init__")) = some (.type "function")))))
structure ClsOne (K : PySem.W.Frag) (c : CN) : Prop where
  ex : ExC K (He.ga K c.name) c.fld (He.ma K (He.ga K c.name) "__init__")
  xf : XfC K (He.ga K c.name)
theorem clsOne_ok {K : PySem.W.Frag} {c : CN} (h : clsOneB K c = true) : ClsOne K c := by
  obtain ⟨h1, h⟩ := He.ba h
  obtain ⟨h2, h⟩ := He.ba h
  obtain ⟨h3, h⟩ := He.ba h
  obtain ⟨h4, h5⟩ := He.ba h
  exact ⟨⟨oexB_ok h1, He.eqO_ok h3, He.eqO_ok h4, of_decide_eq_true h5⟩, xfB_ok h2⟩
/-- which of them the clause of the class y takes -/
def exmB (K : PySem.W.Frag) (cs : List CN) (y : Str) (is : List Nat) : Bool := cs.zipIdx.all fun p => decide (PySem.W.exmOne K (.ref (He.ga K p.1.name)) (.ref (He.ga K y)) = some (decide (p.2 ∈ is)))
theorem exm_ok {K : PySem.W.Frag} {cs : List CN} {y : Str} {is : List Nat} (h : exmB K cs y is = true) {i : Nat} {C : Addr} (e : clsAt cs K i = some C) : PySem.W.exmOne K (.ref C) (.ref (He.ga K y)) = some (decide (i ∈ is)) := by
  unfold clsAt at e
  obtain ⟨c, h1, rfl⟩ := Option.map_eq_some_iff.mp e
  have := List.all_eq_true.mp h (c, i) (List.mem_zipIdx_iff_getElem?.mpr h1)
  exact of_decide_eq_true this
theorem cls_at {K : PySem.W.Frag} {cs : List CN} (h : ∀ c ∈ cs, ClsOne K c) {i : Nat} {C : Addr} (e : clsAt cs K i = some C) : ∃ c, cs[i]? = some c ∧ C = He.ga K c.name ∧ ClsOne K c ∧ PM.fldAt cs i = c.fld := by
  unfold clsAt at e
  obtain ⟨c, h1, rfl⟩ := Option.map_eq_some_iff.mp e
  exact ⟨c, h1, rfl, h c (List.mem_of_getElem? h1), by unfold PM.fldAt; rw [h1]⟩
section
variable [TC]
theorem hcls_ok {X : Cx} {J : Jx} {K : PySem.W.Frag} {cs : List CN} {y f : Str} {is : List Nat} (hK : X.K = K) (hA : J.G.clsA = clsAt cs K) (hf : J.fld = PM.fldAt cs) (h : ∀ c ∈ cs, ClsOne K c) (hm : exmB K cs y is = true) (ha : (is.all fun i => decide (PM.fldAt cs i = f)) = true) :
    HCls X J (.ref (He.ga K y)) is f := by
  subst hK
  refine ⟨fun i C e => exm_ok hm (by rw [← hA]; exact e), fun i C e hi => ?_⟩
  obtain ⟨c, h1, rfl, h2, h3⟩ := cls_at h (by rw [← hA]; exact e)
  have e4 := of_decide_eq_true (List.all_eq_true.mp ha i hi)
  rw [h3] at e4
  exact ⟨h2.xf, by rw [← e4]; exact h2.ex.no, by rw [hf, h3, e4]⟩
theorem his_ok {X : Cx} {J : Jx} {K : PySem.W.Frag} {cs : List CN} {y : Str} {is : List Nat} (hK : X.K = K) (hA : J.G.clsA = clsAt cs K) (hm : exmB K cs y is = true) : ∀ i C, J.G.clsA i = some C → PySem.W.exmOne X.K (.ref C) (.ref (He.ga K y)) = some (decide (i ∈ is)) := by
  subst hK
  exact fun i C e => exm_ok hm (by rw [← hA]; exact e)
end

/-! ## what the head tells, at a law's call -/
structure Hd (fa : List He.Fa) (fn : List He.DefD) (tf : List He.Defn) (cs : List CN) (ex : PySem.W.Frag → Bool) (w : World) (K : PySem.W.Frag) (h base : Heap) (mg : Str → Option Value) : Prop where
  says : He.SaysX fa fn [] tf ex w h K
  kin : K.In base
  gl : base.Ns mainGlobals mg
  tb : ∀ p ∈ tf, LamX.TabB base mg (He.cT K p).1 (He.cT K p).2
  cls : ∀ c ∈ cs, ClsOne K c
section
variable {fa : List He.Fa} {fn : List He.DefD} {tf : List He.Defn} {cs : List CN} {ex : PySem.W.Frag → Bool} {w : World} {K : PySem.W.Frag} {h base : Heap} {mg : Str → Option Value}
theorem Hd.free (Z : Hd fa fn tf cs ex w K h base mg) (i : Nat) {x : Str} (e : fa[i]? = some (.free x) := by rfl) : mg x = none := He.free_ok Z.kin Z.gl (Z.says.t.d.fact i e)
theorem Hd.glo (Z : Hd fa fn tf cs ex w K h base mg) (i : Nat) {x : Str} (e : fa[i]? = some (.glo x) := by rfl) : mg x = some (.ref (He.ga K x)) := He.glo_ok Z.kin Z.gl (Z.says.t.d.fact i e)
theorem Hd.int (Z : Hd fa fn tf cs ex w K h base mg) (i : Nat) {x : Str} {n : Int} (e : fa[i]? = some (.int x n) := by rfl) : ∃ t, mg x = some (.int n t) := He.int_ok Z.kin Z.gl (Z.says.t.d.fact i e)
theorem Hd.str (Z : Hd fa fn tf cs ex w K h base mg) (i : Nat) {x y : Str} (e : fa[i]? = some (.str x y) := by rfl) : ∃ t, mg x = some (.str y t) := He.str_ok Z.kin Z.gl (Z.says.t.d.fact i e)
theorem Hd.def_ (Z : Hd fa fn tf cs ex w K h base mg) (i : Nat) {d : He.DefD} (e : fn[i]? = some d := by rfl) : ∃ fd, FunD K d.name d.qual d.params d.body d.scope (d.dvs K) (d.kws K) (He.fAd K d.at_) fd := Z.says.t.d.def_ i e
end

/-! ## defs, called by their names -/
section
variable [TC] {P : Program} {w : World} {K : PySem.W.Frag} {mg : Str → Option Value} {base : Heap}
/-- a def that can be called -/
structure CallOk (P : Program) (w : World) (K : PySem.W.Frag) (mg : Str → Option Value) (base : Heap) (k : Nat) (x : Str) (ps : List Str) (sp : Sp) : Prop where
  ex : ∃ (f : Addr) (fd : FuncData), mg x = some (.ref f) ∧ PySem.W.keepIn K (.ref f) = true ∧ FnG P w K mg base k f fd ps sp ∧ Binds K fd ps [] ∧ ∀ (s : Shared) (ws : List Value), ws.length = ps.length → BindsTo s fd ⟨[], ps.zip ws⟩ (ps.zip ws)
abbrev bodyCx (P : Program) (w : World) (K : PySem.W.Frag) (mg : Str → Option Value) (base : Heap) (N : List Str) (env : Env) (A : Around) (s0 : Shared) (H0 : Hp) (outer : List Env) (ex : List Addr) (calm : Bool) (pn : List (Addr × Obj)) (xe : Value → Shared → Prop) : Cx :=
  ⟨P, w, K, mg, base, A, N, s0, H0, env, outer, env :: outer, ex, fun _ => true, calm, pn, xe⟩
/-- its body, in any context of a call -/
def BodyOk (P : Program) (w : World) (K : PySem.W.Frag) (mg : Str → Option Value) (base : Heap) (T : Tb) (fld : Nat → Str) (k : Nat) (N : List Str) (x : Str) (scope : Scope) (orc : Orc) (body : List Stmt) (B : Ss) : Prop :=
  ∀ (A : Around) (s0 : Shared) (H0 : Hp) (L : Addr) (outer : List Env) (ex : List Addr) (calm : Bool) (pn : List (Addr × Obj)) (xe : Value → Shared → Prop) (J : Jx),
    Bd (bodyCx P w K mg base N (envOfC x scope L (He.ga K x) (.ref (He.codeOf K (x, none)))) A s0 H0 outer ex calm pn xe) J T k →
    PassesOwn (model P w) A (envOfC x scope L (He.ga K x) (.ref (He.codeOf K (x, none)))) xe → J.fld = fld →
    pSs (bodyCx P w K mg base N (envOfC x scope L (He.ga K x) (.ref (He.codeOf K (x, none)))) A s0 H0 outer ex calm pn xe) J orc body B
abbrev GG (P : Program) (w : World) (K : PySem.W.Frag) (T : Tb) : GT := ⟨P, w, K, T.fnA, T.clsA, T.tabs⟩
theorem def_fn {T : Tb} {fld : Nat → Str} {k n m : Nat} {x : Str} {params : Arguments} {body : List Stmt} {scope : Scope} {fd : FuncData} {N ps : List Str} {orc : Orc} {B : Ss} (F : FunD K x x params body scope [] [] (He.ga K x) fd) (S : FnScope N ps scope) (hn : ps.length = n) (hm : N.length = m)
    (hb : BodyOk P w K mg base T fld k N x scope orc body B) : FnG P w K mg base (k + 1) (He.ga K x) fd ps (spF (GG P w K T) fld n (callOf orc n m B)) := by
  obtain ⟨oc, od, dV, kV, doc, pm, an, cdv, ct, osl, rfl, lk, hcd, hD, hK⟩ := F.ex
  obtain ⟨c, rfl⟩ := He.codeIn_ref hcd
  have ec := He.codeOf_eq (p := (x, none)) lk rfl
  subst ec
  refine fn_g lk hcd S hn hm fun X J b hp e1 e2 e3 e4 e5 e6 ⟨L, e7⟩ e8 e9 e10 e11 => ?_
  obtain ⟨Xp, Xw, XK, Xmg, Xb, XA, XN, Xs, XH, Xe, Xo, Xst, Xex, Xf, Xc, Xpn, Xxe⟩ := X
  simp only at e1 e2 e3 e4 e5 e6 e7 e8 e9
  subst e1 e2 e3 e4 e5 e6 e7 e8 e9
  exact hb XA Xs XH L Xo Xex Xc Xpn Xxe J b hp e11
theorem def_ok {T : Tb} {fld : Nat → Str} {k n m : Nat} {x : Str} {params : Arguments} {body : List Stmt} {scope : Scope} {fd : FuncData} {N ps : List Str} {orc : Orc} {B : Ss} (F : FunD K x x params body scope [] [] (He.ga K x) fd) (glo : mg x = some (.ref (He.ga K x))) (S : FnScope N ps scope) (hn : ps.length = n) (hm : N.length = m)
    (bp : ∀ (kV doc pm : Value) (an : Option Addr) (cdv ct : Value) (us : List Value), us.length = ps.length → bindArgs (PySem.W.fnOf x x params body scope .none kV doc pm an cdv ct) ⟨us, []⟩ = pure (ps.zip us))
    (bk : ∀ (kV doc pm : Value) (an : Option Addr) (cdv ct : Value) (us : List Value), us.length = ps.length → bindArgs (PySem.W.fnOf x x params body scope .none kV doc pm an cdv ct) ⟨[], ps.zip us⟩ = pure (ps.zip us))
    (hb : BodyOk P w K mg base T fld k N x scope orc body B) : CallOk P w K mg base (k + 1) x ps (spF (GG P w K T) fld n (callOf orc n m B)) := by
  refine ⟨He.ga K x, fd, glo, F.kp, def_fn F S hn hm hb, F.bindsN bp, fun s ws hl => ?_⟩
  obtain ⟨oc, od, dV, kV, doc, pm, an, cdv, ct, osl, rfl, lk, hcd, hD, hK⟩ := F.ex
  rcases hD with ⟨_, rfl⟩ | ⟨e, _⟩
  · exact .of_eq (bk kV doc pm an cdv ct ws hl)
  · exact absurd rfl e
section
variable {J : Jx} {X : Cx} {T : Tb} {orc : Orc} {fld : Nat → Str} {k kk : Nat} {F : List Sl → COut} {x : Str} {ps : List Str}
theorem sp_cast (b : Bd X J T k) (hf : J.fld = fld) {n i : Nat} (e : orc i = F) : spF J.G J.fld n (orc i) = spF (GG X.prog X.w X.K T) fld n F := by rw [b.hG, hf, e]
theorem pe_callC {e : Expr} {es : List Expr} {A : Es} {l : List Bool} {i : Nat} {p pos : Pos} (b : Bd X J T k) (hf : J.fld = fld) (C : CallOk X.prog X.w X.K X.mg X.base kk x ps (spF (GG X.prog X.w X.K T) fld ps.length F)) (ho : orc i = F) (hkk : kk ≤ k) (hg : Gl X x) (ha : pA X J orc (e :: es) A l) (hn : A.len = ps.length)
    (hdb : (x == ("__debug__" : Str)) = false := by decide) (he : starEach (e :: es) X.env = (false, eval e X.env) :: starEach es X.env := by rfl) (hpl : (backTo pos (starEach es X.env)).any (·.1) = false := by rfl) :
    pE X J orc (.Call (.Name x p) (e :: es) [] pos) (.call i A l (List.range ps.length)) := by
  obtain ⟨f, fd, h1, h2, h3, h4, h5⟩ := C.ex
  rw [← sp_cast b hf ho] at h3
  exact pe_call h3 (b.room.mono hkk) b.gd b.tk hg h1 h2 h4 ha hn hdb he hpl
theorem pe_callKC {kws : List Keyword} {A : Es} {l : List Bool} {i : Nat} {p pos : Pos} (b : Bd X J T k) (hf : J.fld = fld) (C : CallOk X.prog X.w X.K X.mg X.base kk x ps (spF (GG X.prog X.w X.K T) fld ps.length F)) (ho : orc i = F) (hkk : kk ≤ k) (hg : Gl X x) (ha : PK X kws (tAA J (evA orc A l))) (hn : A.len = ps.length)
    (hall : (backToKw pos (keywordEach kws X.env)).all (·.1.isSome) = true := by rfl) (hks : (backToKw pos (keywordEach kws X.env)).filterMap (·.1) = ps := by rfl)
    (hdb : (x == ("__debug__" : Str)) = false := by decide) (hpl : (backToKw pos (keywordEach kws X.env)).any (·.1.isNone) = false := by rfl) :
    pE X J orc (.Call (.Name x p) [] kws pos) (.call i A l (List.range ps.length)) := by
  obtain ⟨f, fd, h1, h2, h3, h4, h5⟩ := C.ex
  rw [← sp_cast b hf ho] at h3
  exact pe_callK h3 (b.room.mono hkk) b.gd b.tk hg h1 h2 (fun s ws _ hl => h5 s ws hl) ha hn hall hks hdb hpl
/-- names of the module that hold numbers, texts -/
theorem pe_gint {n : Int} {pos : Pos} (hg : Gl X x) (hm : ∃ t, X.mg x = some (.int n t)) (hd : (x == ("__debug__" : Str)) = false := by decide) : pE X J orc (.Name x pos) (.lit (.int n)) := by
  obtain ⟨t, hm⟩ := hm
  exact pe_lit (v := .int n) (L2.pe_glob hg hm ⟨t, rfl⟩ hd) fun H => by simp [Fz]
theorem pe_gstr {y : Str} {pos : Pos} (hg : Gl X x) (hm : ∃ t, X.mg x = some (.str y t)) (hd : (x == ("__debug__" : Str)) = false := by decide) : pE X J orc (.Name x pos) (.lit (.str y)) := by
  obtain ⟨t, hm⟩ := hm
  exact pe_lit (v := .str y) (L2.pe_glob hg hm ⟨t, rfl⟩ hd) fun H => by simp [Fz]
/-- a written number below nought -/
theorem pe_neg {i : Int} {j : Nat} {p pos : Pos} : pE X J orc (.UnaryOp .USub (.Constant (.int i) j p) pos) (.lit (.int (-i))) := ⟨fun pins s σ H Q I ⟨en, O, E, h⟩ => by
  refine (L2.pe_un L2.un_neg (L2.pe_int (i := i) (j := j) (pos := p))).run pins s σ H Q I ?_
  rw [show evE orc (.lit (.int (-i))) en = .ok (.frz (.int (-i))) en from rfl, endz_ok] at h
  exact ⟨i, rfl, h (.int (-i)) H O [] ⟨Step.refl, E, by simp [Ov, Fz], E.nd⟩⟩⟩
end
/-! ## raising -/
/-- the __init__ of a class keeps what it gets -/
theorem init_ok {C : CN} {params : Arguments} {scope : Scope} {fd : FuncData} {y qual : Str} {p1 p2 p3 p4 : Pos} (F : FunD K "__init__" qual params [.Assign [.Attribute (.Name "self" p1) C.fld p2] (.Name y p3) p4] scope [] [] (He.ma K (He.ga K C.name) "__init__") fd) (O : ClsOne K C) (S : FnScope ["self", y] ["self", y] scope)
    (hsw : ∀ env, swapsWith (.Name y p3) (some (.Attribute (.Name "self" p1) C.fld p2)) p4.line env = pure false) (hy : (y == ("__debug__" : Str)) = false) (hy2 : (y == ("__classdict__" : Str)) = false) : FnOk P w K mg base CX0 1 (He.ma K (He.ga K C.name) "__init__") fd ["self", y] (spInit (He.ga K C.name) C.fld) := by
  refine F.ok S (fun vs H Q E h => by rw [spInit_len vs H Q E h]; rfl) fun cdv A outer s H vs Q E hr h => ?_
  obtain ⟨a, v, rfl, h1, h2⟩ := h
  have vis : ∀ z ∈ [("self" : Str), y], Vis scope z := fun z hz => (S.par z hz).imp id .inl
  refine ⟨_, pss_one (L2.ps_ost (L2.pe_var (i := 0) rfl (vis _ (by simp)) (by decide) (by decide)) (L2.pe_var (i := 1) rfl (vis _ (by simp)) hy hy2) (hsw _)), ⟨v, rfl, .ref a, rfl, a, _, rfl, O.ex.oex, O.ex.no, .inl ⟨h1, fun dx n1 n2 => h2 dx n1 n2⟩⟩⟩
structure RaiseOk (P : Program) (w : World) (K : PySem.W.Frag) (mg : Str → Option Value) (base : Heap) (c : CN) : Prop where
  ex : ∃ (fd : FuncData) (ps : List Str), mg c.name = some (.ref (He.ga K c.name)) ∧ FnOk P w K mg base CX0 1 (He.ma K (He.ga K c.name) "__init__") fd ps (spInit (He.ga K c.name) c.fld) ∧ Binds K fd ps []
section
variable {J : Jx} {X : Cx} {T : Tb} {orc : Orc} {k : Nat} {cs : List CN}
theorem ps_raiseC {e : Expr} {A : E} {i : Nat} {c : CN} {p pos pos2 : Pos} (b : Bd X J T k) (hf : J.fld = PM.fldAt cs) (hA : T.clsA = clsAt cs X.K) (hi : cs[i]? = some c) (R : RaiseOk X.prog X.w X.K X.mg X.base c) (O : ClsOne X.K c) (hk : 2 ≤ k) (hg : Gl X c.name) (ha : pE X J orc e A)
    (hdb : (c.name == ("__debug__" : Str)) = false := by decide) (he : starEach [e] X.env = (false, eval e X.env) :: starEach [] X.env := by rfl) (hpl : (backTo pos (starEach ([] : List Expr) X.env)).any (·.1) = false := by rfl) :
    pS X J orc (.Raise (some (.Call (.Name c.name p) [e] [] pos)) none pos2) (.raise i A) := by
  obtain ⟨fd, ps, h1, h2, h3⟩ := R.ex
  have ef : J.fld i = c.fld := by rw [hf]; unfold PM.fldAt; rw [hi]
  refine ps_raise (kk := 1) (C := He.ga X.K c.name) (fI := He.ma X.K (He.ga X.K c.name) "__init__") b.hG b.calm b.tk (by rw [ef]; exact O.ex) (by rw [ef]; exact h2) (b.room.mono hk) h3 pass0 ?_ hg h1 ha hdb he hpl
  rw [b.hG]
  show T.clsA i = _
  rw [hA]
  unfold clsAt
  rw [hi]
  rfl
end
end
end PM

namespace PM
open PySem PySem.Spec PyProof.Rows
open L2 hiding St
variable [TC]

/-! ## lambdas, by the names of defs -/
def lamQ (x : Str) : Str := x ++ ".<locals>." ++ "<lambda>"
def tsOf (K : PySem.W.Frag) (tf : List He.Defn) : List (Addr × Str) := tf.map fun p => ((He.cT K p).2, lamQ p.1)
/-- the tables of the defs that make lambdas -/
structure Tbs (K : PySem.W.Frag) (tf : List He.Defn) (base : Heap) (mg : Str → Option Value) : Prop where
  ts : TC.ts = tsOf K tf
  nd : (tf.map fun p => (He.cT K p).2).Nodup
  tb : ∀ p ∈ tf, LamX.TabB base mg (He.cT K p).1 (He.cT K p).2
theorem map_inj {α β : Type} {f : α → β} : ∀ {l : List α}, (l.map f).Nodup → ∀ {x y : α}, x ∈ l → y ∈ l → f x = f y → x = y
  | [], _, _, _, h, _, _ => by cases h
  | z :: l, nd, x, y, hx, hy, e => by
    rw [List.map_cons, List.nodup_cons] at nd
    rcases List.mem_cons.mp hx with ex | hx1
    · rcases List.mem_cons.mp hy with ey | hy1
      · rw [ex, ey]
      · exact (nd.1 (List.mem_map.mpr ⟨y, hy1, by rw [← e, ex]⟩)).elim
    · rcases List.mem_cons.mp hy with ey | hy1
      · exact (nd.1 (List.mem_map.mpr ⟨x, hx1, by rw [e, ey]⟩)).elim
      · exact map_inj nd.2 hx1 hy1 e
theorem Tbs.mem {K : PySem.W.Frag} {tf : List He.Defn} {base : Heap} {mg : Str → Option Value} (B : Tbs K tf base mg) {p : He.Defn} (h : p ∈ tf) : ((He.cT K p).2, lamQ p.1) ∈ TC.ts := by
  rw [B.ts]
  exact List.mem_map.mpr ⟨p, h, rfl⟩
theorem Tbs.uni {K : PySem.W.Frag} {tf : List He.Defn} {base : Heap} {mg : Str → Option Value} (B : Tbs K tf base mg) {p : He.Defn} (h : p ∈ tf) : ∀ r ∈ TC.ts, r.1 = (He.cT K p).2 → r.2 = lamQ p.1 := fun r hr e => by
  rw [B.ts] at hr
  obtain ⟨q, hq, rfl⟩ := List.mem_map.mp hr
  rw [map_inj B.nd hq h e]
/-- a def that hears a lambda: what it makes of it, in any context of a call -/
def EarBody (K : PySem.W.Frag) (mg : Str → Option Value) (T : Tb) (fld : Nat → Str) (Ng : List Str) (x a : Str) (sg : Scope) (bg : List Stmt) (okk : OK0) (hs : List (List Nat × HK0)) : Prop :=
  ∀ (X : Cx) (J : Jx) (g : Addr) (cdg : Value), X.K = K → X.mg = mg → J.G.clsA = T.clsA → J.fld = fld → Ears X J Ng x sg g cdg bg a okk hs
abbrev earX (P : Program) (w : World) (K : PySem.W.Frag) (mg : Str → Option Value) (base : Heap) (N : List Str) (env : Env) (A : Around) (s0 : Shared) (H0 : Hp) (outer stack : List Env) (ex : List Addr) (fn : Str → Bool) (calm : Bool) (pn : List (Addr × Obj)) (xe : Value → Shared → Prop) : Cx :=
  ⟨P, w, K, mg, base, A, N, s0, H0, env, outer, stack, ex, fn, calm, pn, xe⟩
def EarHs (K : PySem.W.Frag) (mg : Str → Option Value) (T : Tb) (fld : Nat → Str) (Ng : List Str) (x : Str) (sg : Scope) (orc : Orc) (hds : List ExceptHandler) (hsE : Hs) : Prop :=
  ∀ (P : Program) (w : World) (base : Heap) (A : Around) (s0 : Shared) (H0 : Hp) (L g : Addr) (cdg : Value) (outer stack : List Env) (ex : List Addr) (fn : Str → Bool) (calm : Bool) (pn : List (Addr × Obj)) (xe : Value → Shared → Prop) (J : Jx), J.G.clsA = T.clsA → J.fld = fld →
    ∃ l, HRel (earX P w K mg base Ng (envOfC x sg L g cdg) A s0 H0 outer stack ex fn calm pn xe) J orc hds hsE l
section
variable {K : PySem.W.Frag} {mg : Str → Option Value} {T : Tb} {fld : Nat → Str} {Ng : List Str} {x a tag : Str} {sg : Scope} {orc : Orc} {hd0 : ExceptHandler} {hds : List ExceptHandler} {hs : List (List Nat × HK0)} {hsE : Hs}
theorem EarHs.at (h : EarHs K mg T fld Ng x sg orc hds hsE) {X : Cx} {J : Jx} {g : Addr} {cdg : Value} (e1 : X.K = K) (e2 : X.mg = mg) (e3 : J.G.clsA = T.clsA) (e4 : J.fld = fld) (Z : Cx) (J0 : Jx) (z1 : Z.N = Ng) (z2 : Z.K = X.K) (z3 : Z.mg = X.mg) (z4 : ∃ L, Z.env = envOfC x sg L g cdg) (z5 : J0.G = J.G) (z6 : J0.fld = J.fld) : ∃ l, HRel Z J0 orc hds hsE l := by
  obtain ⟨Zp, Zw, ZK, Zmg, Zb, ZA, ZN, Zs, ZH, Ze, Zo, Zst, Zex, Zf, Zc, Zpn, Zxe⟩ := Z
  obtain ⟨L, z4⟩ := z4
  simp only at z1 z2 z3 z4
  subst z1 z2 z3 z4 e1 e2
  exact h Zp Zw Zb ZA Zs ZH L g cdg Zo Zst Zex Zf Zc Zpn Zxe J0 (by rw [z5, e3]) (by rw [z6, e4])
theorem earB_pair {j c : Nat} {p1 p2 p3 p4 p5 p6 : Pos} (nd : Ng.Nodup) (hl : 1 ≤ Ng.length) (same : HSame orc Ng.length hsE hs) (h : EarHs K mg T fld Ng x sg orc (hd0 :: hds) hsE) :
    EarBody K mg T fld Ng x a sg [.Try [.Return (some (.Tuple [.Constant (.str tag) j p1, .Call (.Name a p2) [] [] p3] c p4)) p5] (hd0 :: hds) [] [] p6] (.pair tag) hs :=
  fun X J g cdg e1 e2 e3 e4 => ears_pair nd hl same fun Z J0 => h.at e1 e2 e3 e4 Z J0
theorem earB_self {p2 p3 p5 p6 : Pos} (nd : Ng.Nodup) (hl : 1 ≤ Ng.length) (same : HSame orc Ng.length hsE hs) (h : EarHs K mg T fld Ng x sg orc (hd0 :: hds) hsE) :
    EarBody K mg T fld Ng x a sg [.Try [.Return (some (.Call (.Name a p2) [] [] p3)) p5] (hd0 :: hds) [] [] p6] .self hs :=
  fun X J g cdg e1 e2 e3 e4 => ears_self nd hl same fun Z J0 => h.at e1 e2 e3 e4 Z J0
theorem earB_then {e2 : Expr} {A : E} {o : OV} {en2 : En} {p2 p3 p5 p6 p7 : Pos} (nd : Ng.Nodup) (hl : 1 ≤ Ng.length) (same : HSame orc Ng.length hsE hs) (h : EarHs K mg T fld Ng x sg orc (hd0 :: hds) hsE) (he : ∀ (Z : Cx) (J0 : Jx), pE Z J0 orc e2 A) (ev : evE orc A (List.replicate Ng.length .no) = .ok o en2) :
    EarBody K mg T fld Ng x a sg [.Try [.Expr (.Call (.Name a p2) [] [] p3) p5] (hd0 :: hds) [] [] p6, .Return (some e2) p7] (.const o) hs :=
  fun X J g cdg e1 e2 e3 e4 => ears_then nd hl same (fun Z J0 => h.at e1 e2 e3 e4 Z J0) (fun Z J0 _ => he Z J0) ev
end
section
variable {X : Cx} {J : Jx} {T : Tb} {orc : Orc} {fld : Nat → Str} {tf : List He.Defn}
theorem pe_heardC {x a : Str} {k : Nat} {pg : Arguments} {bg : List Stmt} {sg : Scope} {Ng : List Str} {okk : OK0} {hs : List (List Nat × HK0)} {L : E} {params : Arguments} {body : Expr} {scope : Scope} {y : Str} {p lpos pos : Pos} (b : Bd X J T (k + 2)) (hf : J.fld = fld) (B : Tbs X.K tf X.base X.mg) (i : Nat) (hi : tf[i]? = some (y, none))
    (hcode : X.env.code = .ref (He.cT X.K (y, none)).1) (hq : X.env.qual ++ "<lambda>" = lamQ y) (hg : Gl X x) (D : ∃ fd, FunD X.K x x pg bg sg [] [] (He.ga X.K x) fd) (glo : X.mg x = some (.ref (He.ga X.K x)))
    (bp : ∀ (kV doc pm : Value) (an : Option Addr) (cdv ct : Value) (us : List Value), us.length = [a].length → bindArgs (PySem.W.fnOf x x pg bg sg .none kV doc pm an cdv ct) ⟨us, []⟩ = pure ([a].zip us)) (Sg : FnScope Ng [a] sg) (hNg : Ng[0]? = some a) (hva : Vis sg a)
    (ear : EarBody X.K X.mg T fld Ng x a sg bg okk hs) (LS : LamX.LamS X.env.scope scope) (hdef : defaultsOf params X.env = ([], []))
    (hbind : ∀ (q : Str) (cl : List (Str × Addr)) (pm cv ctv : Value), bindArgs (PySem.W.kla_fn "<lambda>" q params body scope cl pm cv ctv) ⟨[], []⟩ = pure [])
    (hbody : ∀ (A : Around) (out : List Env) (s : Shared) (H : Hp) (E : XK) (f c' : Addr), Bd (LamX.lamCx X A out s H E scope f c') (lamJ J E) T k → pE (LamX.lamCx X A out s H E scope f c') (lamJ J E) orc body L)
    (hdb : (x == ("__debug__" : Str)) = false := by decide) (hd : (a == ("__debug__" : Str)) = false := by decide) (hcd : (a == ("__classdict__" : Str)) = false := by decide) :
    pE X J orc (.Call (.Name x p) [.Lambda params body scope lpos] [] pos) (.heard okk hs L) := by
  obtain ⟨fd, F⟩ := D
  have hb := F.bindsN bp
  have hm : (y, none) ∈ tf := List.mem_of_getElem? hi
  obtain ⟨oc, od, dV, kV, doc, pm, an, cdv, ct, osl, rfl, lk, hcd', hD, hK⟩ := F.ex
  exact pe_heard b hg glo F.kp lk hcd' hb Sg hNg hva (ear X J _ _ rfl rfl (by rw [b.hG]) hf) (B.tb _ hm) hcode (by rw [hq]; exact B.mem hm) (by rw [hq]; exact B.uni hm) LS hdef hbind hbody hdb hd hcd
end
/-! ## small helps for printed derivations -/
def visB (sc : Scope) (x : Str) : Bool := match sc.names.lookup x with
  | some .local | some .cell | some .free => true
  | _ => false
theorem vis_by {sc : Scope} {x : Str} (h : visB sc x = true) : Vis sc x := by
  unfold visB at h
  unfold Vis
  split at h
  · exact .inl (by assumption)
  · exact .inr (.inl (by assumption))
  · exact .inr (.inr (by assumption))
  · cases h
def locB (sc : Scope) (x : Str) : Bool := match sc.names.lookup x with
  | some .local | some .cell => true
  | _ => false
theorem loc_by {sc : Scope} {x : Str} (h : locB sc x = true) : L2.Loc sc x := by
  unfold locB at h
  unfold L2.Loc
  split at h
  · exact .inl (by assumption)
  · exact .inr (by assumption)
  · cases h
theorem Bd.tr {X : Cx} {J : Jx} {T : Tb} {k : Nat} (b : Bd X J T k) {W : WX} {pn : List (Addr × Obj)} {xe : Value → Shared → Prop} (tk : Takes (X.tr pn xe) W) : Bd (X.tr pn xe) { J with W := W } T k := ⟨b.hG, b.room, b.gd, tk, b.calm, b.nd⟩
section
variable {fa : List He.Fa} {fn : List He.DefD} {tf : List He.Defn} {cs : List CN} {ex : PySem.W.Frag → Bool} {w : World} {K : PySem.W.Frag} {h base : Heap} {mg : Str → Option Value}
theorem Hd.clsI (Z : Hd fa fn tf cs ex w K h base mg) (i : Nat) {c : CN} (e : cs[i]? = some c := by rfl) : ClsOne K c := Z.cls c (List.mem_of_getElem? e)
theorem Hd.exI {exL : PySem.W.Frag → List Bool} (Z : Hd fa fn tf cs (fun K => (exL K).all id) w K h base mg) (i : Nat) {b : Bool} (e : (exL K)[i]? = some b := by rfl) : b = true := List.all_eq_true.mp Z.says.more b (List.mem_of_getElem? e)
end
def exmL (K : PySem.W.Frag) (cs : List CN) (l : List (Str × List Nat)) : List Bool := l.map fun p => exmB K cs p.1 p.2
/-- the j-th statement of a class's body -/
def inCls (s : Stmt) (j : Nat) : Stmt := match s with
  | .ClassDef _ _ _ b _ _ _ _ _ _ _ => b.getD j s
  | _ => s
section
variable {X : Cx} {J : Jx} {T : Tb} {orc : Orc} {k : Nat}
theorem pe_lcB {elt tg iter : Expr} {ifs : List Expr} {scope : Scope} {own : List (Str × Nat)} {pos : Pos} {A : E} {t : Tg} {it : PM.It} {cs : Ts} (b : Bd X J T k) (hi : pI X J orc tg iter it) (ok : BlkOk X.N X.env.scope scope own)
    (hg : ∀ (s : Shared) (H : Hp) (C : Addr) (cl : List (Str × Addr)) (fp : List Addr), Bd (X.blk s H scope (compEnvC scope cl C X.env) fp) J.nox T k → PG (X.blk s H scope (compEnvC scope cl C X.env) fp) tg (tG J.G J.LV t)) (hsl : ∀ i ∈ t.slots, i ∈ own.map (·.2))
    (ht : ∀ (s : Shared) (H : Hp) (C : Addr) (cl : List (Str × Addr)) (fp : List Addr), Bd (X.blk s H scope (compEnvC scope cl C X.env) fp) J.nox T k → PTs (X.blk s H scope (compEnvC scope cl C X.env) fp) ifs (tT J.nox (evCs orc cs)))
    (he : ∀ (s : Shared) (H : Hp) (C : Addr) (cl : List (Str × Addr)) (fp : List Addr), Bd (X.blk s H scope (compEnvC scope cl C X.env) fp) J.nox T k → pE (X.blk s H scope (compEnvC scope cl C X.env) fp) J.nox orc elt A) (hs : ∀ x, foldedSetIterable iter X.env x = pure x := by intro _; rfl) :
    pE X J orc (.ListComp elt [⟨tg, iter, ifs, 0⟩] scope pos) (.lc A t it cs (own.map (·.2))) :=
  PM.pe_lc b.calm b.nd hi ok (fun s H C cl fp => hg s H C cl fp (b.blk ..)) hsl (fun s H C cl fp => ht s H C cl fp (b.blk ..)) (fun s H C cl fp => he s H C cl fp (b.blk ..)) hs
theorem pe_dcB {kx vx tg iter : Expr} {ifs : List Expr} {scope : Scope} {own : List (Str × Nat)} {pos : Pos} {K V' : E} {t : Tg} {it : PM.It} {cs : Ts} (b : Bd X J T k) (hi : pI X J orc tg iter it) (ok : BlkOk X.N X.env.scope scope own)
    (hg : ∀ (s : Shared) (H : Hp) (C : Addr) (cl : List (Str × Addr)) (fp : List Addr), Bd (X.blk s H scope (compEnvC scope cl C X.env) fp) J.nox T k → PG (X.blk s H scope (compEnvC scope cl C X.env) fp) tg (tG J.G J.LV t)) (hsl : ∀ i ∈ t.slots, i ∈ own.map (·.2))
    (ht : ∀ (s : Shared) (H : Hp) (C : Addr) (cl : List (Str × Addr)) (fp : List Addr), Bd (X.blk s H scope (compEnvC scope cl C X.env) fp) J.nox T k → PTs (X.blk s H scope (compEnvC scope cl C X.env) fp) ifs (tT J.nox (evCs orc cs)))
    (hk : ∀ (s : Shared) (H : Hp) (C : Addr) (cl : List (Str × Addr)) (fp : List Addr), Bd (X.blk s H scope (compEnvC scope cl C X.env) fp) J.nox T k → pE (X.blk s H scope (compEnvC scope cl C X.env) fp) J.nox orc kx K)
    (he : ∀ (s : Shared) (H : Hp) (C : Addr) (cl : List (Str × Addr)) (fp : List Addr), Bd (X.blk s H scope (compEnvC scope cl C X.env) fp) J.nox T k → pE (X.blk s H scope (compEnvC scope cl C X.env) fp) J.nox orc vx V') (hs : ∀ x, foldedSetIterable iter X.env x = pure x := by intro _; rfl) :
    pE X J orc (.DictComp kx vx [⟨tg, iter, ifs, 0⟩] scope pos) (.dc K V' t it cs (own.map (·.2))) :=
  PM.pe_dc b.hG b.hu b.calm b.nd hi ok (fun s H C cl fp => hg s H C cl fp (b.blk ..)) hsl (fun s H C cl fp => ht s H C cl fp (b.blk ..)) (fun s H C cl fp => hk s H C cl fp (b.blk ..)) (fun s H C cl fp => he s H C cl fp (b.blk ..)) hs
theorem ps_setLcB {i : Nat} {y : Str} {py : Pos} {elt tg iter : Expr} {ifs : List Expr} {scope : Scope} {own : List (Str × Nat)} {pos spos : Pos} {A : E} {t : Tg} {it : PM.It} {cs : Ts} (b : Bd X J T k) (hy : X.N[i]? = some y) (hyl : X.env.scope.names.lookup y = some .local)
    (hsw : swapsWith (.ListComp elt [⟨tg, iter, ifs, 0⟩] scope pos) (some (.Name y py)) spos.line X.env = pure true) (hi : pI X J orc tg iter it) (ok : BlkOk X.N X.env.scope scope own)
    (hg : ∀ (s : Shared) (H : Hp) (C : Addr) (cl : List (Str × Addr)) (fp : List Addr), Bd (X.blk s H scope (compEnvC scope cl C X.env) fp) J.nox T k → PG (X.blk s H scope (compEnvC scope cl C X.env) fp) tg (tG J.G J.LV t)) (hsl : ∀ i ∈ t.slots, i ∈ own.map (·.2))
    (ht : ∀ (s : Shared) (H : Hp) (C : Addr) (cl : List (Str × Addr)) (fp : List Addr), Bd (X.blk s H scope (compEnvC scope cl C X.env) fp) J.nox T k → PTs (X.blk s H scope (compEnvC scope cl C X.env) fp) ifs (tT J.nox (evCs orc cs)))
    (he : ∀ (s : Shared) (H : Hp) (C : Addr) (cl : List (Str × Addr)) (fp : List Addr), Bd (X.blk s H scope (compEnvC scope cl C X.env) fp) J.nox T k → pE (X.blk s H scope (compEnvC scope cl C X.env) fp) J.nox orc elt A) (hs : ∀ x, foldedSetIterable iter X.env x = pure x := by intro _; rfl) :
    pS X J orc (.Assign [.Name y py] (.ListComp elt [⟨tg, iter, ifs, 0⟩] scope pos) spos) (.set i (.lc A t it cs (own.map (·.2)))) :=
  PM.ps_setLc b.calm b.nd hy hyl hsw hi ok (fun s H C cl fp => hg s H C cl fp (b.blk ..)) hsl (fun s H C cl fp => ht s H C cl fp (b.blk ..)) (fun s H C cl fp => he s H C cl fp (b.blk ..)) hs
/-- name = {.. for ..} -/
theorem ps_setDcB {i : Nat} {y : Str} {py : Pos} {kx vx tg iter : Expr} {ifs : List Expr} {scope : Scope} {own : List (Str × Nat)} {pos spos : Pos} {K V' : E} {t : Tg} {it : PM.It} {cs : Ts} (b : Bd X J T k) (hy : X.N[i]? = some y) (hyl : X.env.scope.names.lookup y = some .local)
    (hsw : swapsWith (.DictComp kx vx [⟨tg, iter, ifs, 0⟩] scope pos) (some (.Name y py)) spos.line X.env = pure true) (hi : pI X J orc tg iter it) (ok : BlkOk X.N X.env.scope scope own)
    (hg : ∀ (s : Shared) (H : Hp) (C : Addr) (cl : List (Str × Addr)) (fp : List Addr), Bd (X.blk s H scope (compEnvC scope cl C X.env) fp) J.nox T k → PG (X.blk s H scope (compEnvC scope cl C X.env) fp) tg (tG J.G J.LV t)) (hsl : ∀ i ∈ t.slots, i ∈ own.map (·.2))
    (ht : ∀ (s : Shared) (H : Hp) (C : Addr) (cl : List (Str × Addr)) (fp : List Addr), Bd (X.blk s H scope (compEnvC scope cl C X.env) fp) J.nox T k → PTs (X.blk s H scope (compEnvC scope cl C X.env) fp) ifs (tT J.nox (evCs orc cs)))
    (hk : ∀ (s : Shared) (H : Hp) (C : Addr) (cl : List (Str × Addr)) (fp : List Addr), Bd (X.blk s H scope (compEnvC scope cl C X.env) fp) J.nox T k → pE (X.blk s H scope (compEnvC scope cl C X.env) fp) J.nox orc kx K)
    (he : ∀ (s : Shared) (H : Hp) (C : Addr) (cl : List (Str × Addr)) (fp : List Addr), Bd (X.blk s H scope (compEnvC scope cl C X.env) fp) J.nox T k → pE (X.blk s H scope (compEnvC scope cl C X.env) fp) J.nox orc vx V') (hs : ∀ x, foldedSetIterable iter X.env x = pure x := by intro _; rfl) :
    pS X J orc (.Assign [.Name y py] (.DictComp kx vx [⟨tg, iter, ifs, 0⟩] scope pos) spos) (.set i (.dc K V' t it cs (own.map (·.2)))) := by
  refine ⟨fun pins s σ H D I ⟨en, O, E0, fin⟩ => ?_⟩
  simp only [evS, endz_bnd] at fin
  have want := dc_t hsl (tE_of (Q := fun x H1 => gName i x σ H1 D.nx) E0 fin fun o en' v H' O' as hk d => set_end d hk)
  rw [b.hG] at want
  rw [exec_Assign_Name_used _ _ _ _ hsw]
  refine wpAny_bind (wpAny_standAt (wpAny_bind (wpAny_bind (thn (dcr_core (use := some (assign (.Name y py) X.env)) (Qf := fun _ s' => SP X pins D .next s') b.hu b.calm b.nd I hi ok (by rw [← b.hG]; exact fun s H C cl fp => hg s H C cl fp (b.blk ..)) (fun s H C cl fp => ht s H C cl fp (b.blk ..)) (fun s H C cl fp => hk s H C cl fp (b.blk ..)) (fun s H C cl fp => pz (he s H C cl fp (b.blk ..))) hs want ?_) fun _ s' hq => wpAny_pure (wpAny_pure hq)))))
  intro A C s1 m H1 J1 fin1 ns ⟨f0, f1, f2, f3, f4, f5⟩
  show wpAny _ _ (assign (.Name y py) X.env (.ref A)) _ _ _
  refine wpAny_assign_Name (store_ok2 (v := V.ref A) J1 b.nd hy (.inl hyl) rfl (fun s2 J2 ⟨a, same, which⟩ => ?_) (.inr hyl))
  have apart : C ≠ a := which.elim (fun z => by rw [z]; exact f1) fun z w => f4 y a z w.symm
  exact ⟨m, ns.sameBut same apart, fun h3 same3 => ⟨_, H1, J2.turned (t' := s2.toks) (fun c o nc e => (same3.2 c nc).trans e) f0 f1 f3 f4 f5, fin1⟩⟩
end
/-! ## the law's def, at the end -/
section
variable {P : Program} {w : World} {K : PySem.W.Frag} {T : Tb} {fld : Nat → Str}
theorem fz_ints {G : GT} {H : Hp} : ∀ ns : List Int, FzL G H (ns.map D.int) (ns.map V.int)
  | [] => .nil
  | n :: ns => .cons (by simp [Fz]) (fz_ints ns)
theorem law_sp {F : List Sl → COut} {H : Hp} {a : Addr} {ns : List Int} {outs : List (Option OV)} (tb : LamX.Tabs TC.ts H) (h : FLs K H a (ns.map V.int)) (e : F [.ov (.frz (.lst (ns.map .int)))] = .ok (.frz (.bl true)) outs) :
    spF (GG P w K T) fld 1 F [.ref a] H (fun v _ => v = .bl true) fun _ _ _ => False := by
  refine ⟨[.ov (.frz (.lst (ns.map .int)))], [], rfl, ⟨some (.ref a), [], [], [], rfl, ⟨.ref a, rfl, ?_⟩, ⟨rfl, rfl⟩, rfl⟩, .nil, tb, ?_⟩
  · simp only [Ov, Fz]
    exact ⟨⟨a, ns.map V.int, rfl, h, fz_ints ns⟩, trivial⟩
  · rw [e]
    intro v H' O' as _ _ ov _
    simp only [Ov, Fz] at ov
    exact ov.1
end
end PM

namespace PM
open PySem

/-! ## the evaluator's equations, for simp -/
section
variable {α β : Type} {orc : Orc} {en : En} {a : α} {c : Nat} {p : D} {f : α → En → Out β}
@[simp] theorem bnd_ok : (Out.ok a en).bnd f = f a en := rfl
@[simp] theorem bnd_exc : (Out.exc c p en).bnd f = .exc c p en := rfl
@[simp] theorem of_some {x : α} : Out.of en (some x) = .ok x en := rfl
@[simp] theorem nx_ok {x : α} : (Out.ok x en).nx = .ok x en := rfl
@[simp] theorem evE_lit {d : D} : evE orc (.lit d) en = .ok (.frz d) en := by first | (simp only [evE]; done) | (simp only [evE]; rfl)
@[simp] theorem evE_var {i : Nat} : evE orc (.var i) en = rdVar i en := by first | (simp only [evE]; done) | (simp only [evE]; rfl)
@[simp] theorem evE_tup {es : Es} : evE orc (.tup es) en = (evL orc es en).bnd fun ds en => if ds.length ≤ sizeLine then .ok (.frz (.tup ds)) en else .bad := by first | (simp only [evE]; done) | (simp only [evE]; rfl)
@[simp] theorem evE_lst {es : Es} : evE orc (.lst es) en = (evL orc es en).bnd fun ds en => if ds.length ≤ sizeLine then .ok (.lst (ds.map .frz)) en else .bad := by first | (simp only [evE]; done) | (simp only [evE]; rfl)
@[simp] theorem evE_bin {o : BOp} {x y : E} : evE orc (.bin o x y) en = (mkO x (evE orc x) en).bnd fun u en => (mkO y (evE orc y) en).bnd fun v en => match u.rd en, v.rd en with
    | some u, some v => .of en (opBin o u v)
    | _, _ => .bad := by first | (simp only [evE]; done) | (simp only [evE]; rfl)
@[simp] theorem evE_cmp {o : COp} {x y : E} : evE orc (.cmp o x y) en = (mkO x (evE orc x) en).bnd fun u en => (mkO y (evE orc y) en).bnd fun v en => match u.rd en, v.rd en with
    | some u, some v => .of en ((opCmp o u v).map fun b => .frz (.bl b))
    | _, _ => .bad := by first | (simp only [evE]; done) | (simp only [evE]; rfl)
@[simp] theorem evE_chn {o q : COp} {x y z : E} : evE orc (.chn o q x y z) en = (mkO x (evE orc x) en).bnd fun u en => (mkO y (evE orc y) en).bnd fun v en => match u.rd en, v with
    | some u, .val (.frz v) => match opCmp o u v with
      | some true => (mkO z (evE orc z) en).bnd fun w en => match w.rd en with
        | some w => .of en ((opCmp q v w).map fun b => .frz (.bl b))
        | none => .bad
      | some false => .ok (.frz (.bl false)) en
      | none => .bad
    | _, _ => .bad := by first | (simp only [evE]; done) | (simp only [evE]; rfl)
@[simp] theorem evE_and {x y : E} : evE orc (.and x y) en = (evE orc x en).bnd fun u en => match u with
    | .frz (.bl true) => evE orc y en
    | .frz (.bl false) => .ok (.frz (.bl false)) en
    | _ => .bad := by first | (simp only [evE]; done) | (simp only [evE]; rfl)
@[simp] theorem evE_or {x y : E} : evE orc (.or x y) en = (evE orc x en).bnd fun u en => match u with
    | .frz (.bl true) => .ok (.frz (.bl true)) en
    | .frz (.bl false) => evE orc y en
    | _ => .bad := by first | (simp only [evE]; done) | (simp only [evE]; rfl)
@[simp] theorem evE_not {x : E} : evE orc (.not x) en = (mkO x (evE orc x) en).bnd fun u en => match u.rd en with
    | some u => .of en (u.truth.map fun b => .frz (.bl (!b)))
    | none => .bad := by first | (simp only [evE]; done) | (simp only [evE]; rfl)
@[simp] theorem evE_ite {t : T} {x y : E} : evE orc (.ite t x y) en = (evT orc t en).bnd fun b en => if b then evE orc x en else evE orc y en := by first | (simp only [evE]; done) | (simp only [evE]; rfl)
@[simp] theorem evE_sub {x i : E} : evE orc (.sub x i) en = (mkO x (evE orc x) en).bnd fun u en => (mkO i (evE orc i) en).bnd fun v en => match u.rd en, v.rd en with
    | some u, some v => .of en ((u.at v).map .frz)
    | _, _ => .bad := by first | (simp only [evE]; done) | (simp only [evE]; rfl)
@[simp] theorem evE_slc {x l h : E} : evE orc (.slc x l h) en = (mkO x (evE orc x) en).bnd fun u en => (mkO l (evE orc l) en).bnd fun v en => (mkO h (evE orc h) en).bnd fun w en => match u.rd en, v.rd en, w.rd en with
    | some u, some v, some w => .of en (u.slc v w)
    | _, _, _ => .bad := by first | (simp only [evE]; done) | (simp only [evE]; rfl)
@[simp] theorem evE_rev {x : E} : evE orc (.rev x) en = (mkO x (evE orc x) en).bnd fun u en => match u.rd en with
    | some (.lst ds) => .ok (.lst (ds.reverse.map .frz)) en
    | some (.tup ds) => .ok (.frz (.tup ds.reverse)) en
    | _ => .bad := by first | (simp only [evE]; done) | (simp only [evE]; rfl)
@[simp] theorem evE_bif {b : Bif} {x : E} : evE orc (.bif b x) en = (mkO x (evE orc x) en).bnd fun u en => match u.rd en with
    | some u => .of en (opBif b u)
    | none => .bad := by first | (simp only [evE]; done) | (simp only [evE]; rfl)
@[simp] theorem evE_isi {b : Cl} {x : E} : evE orc (.isi x b) en = (mkO x (evE orc x) en).bnd fun u en => match u.rd en with
    | some u => .of en ((isInst b u).map fun b => .frz (.bl b))
    | none => .bad := by first | (simp only [evE]; done) | (simp only [evE]; rfl)
@[simp] theorem evE_met1 {m : Met} {o x : E} : evE orc (.met1 m o x) en = (mkO o (evE orc o) en).bnd fun u en => match u with
    | .val (.frz (.str z)) => (mkO x (evE orc x) en).bnd fun v en => match v.rd en with
      | some v => .of en (opMet1 m (.str z) v)
      | none => .bad
    | _ => .bad := by first | (simp only [evE]; done) | (simp only [evE]; rfl)
@[simp] theorem evE_fmt {x : E} : evE orc (.fmt x) en = (mkO x (evE orc x) en).bnd fun u en => match u.rd en with
    | some (.str y) => if y.length ≤ sizeLine then .ok (.frz (.str y)) en else .bad
    | some (.int i) => if i.natAbs.log2 < 1920 then .ok (.frz (.str (toString i : String))) en else .bad
    | _ => .bad := by first | (simp only [evE]; done) | (simp only [evE]; rfl)
@[simp] theorem evE_dict {kvs : Es} : evE orc (.dict kvs) en = (evKV orc kvs en).bnd fun ps en => if ps.length ≤ 15 then .ok (.dic ((ps.foldl (fun acc p => putD acc p.1 p.2) []).map fun p => (p.1, .frz p.2))) en else .bad := by first | (simp only [evE]; done) | (simp only [evE]; rfl)
@[simp] theorem evE_heard {okk : OK0} {hs : List (List Nat × HK0)} {L : E} : evE orc (.heard okk hs L) en = (match evE orc L en with
    | .ok o en1 => if o.cool then .ok (okk.res o.d) en1 else .bad
    | .exc c p en1 => (match pick0 c hs with
      | some h => .ok (h.res p) en1
      | none => .bad)
    | .bad => .bad) := by first | (simp only [evE]; done) | (simp only [evE]; rfl)
@[simp] theorem evT_and {x y : T} : evT orc (.and x y) en = (evT orc x en).bnd fun u en => if u then evT orc y en else .ok false en := by first | (simp only [evT]; done) | (simp only [evT]; rfl)
@[simp] theorem evT_or {x y : T} : evT orc (.or x y) en = (evT orc x en).bnd fun u en => if u then .ok true en else evT orc y en := by first | (simp only [evT]; done) | (simp only [evT]; rfl)
@[simp] theorem evT_not {x : T} : evT orc (.not x) en = (evT orc x en).bnd fun u en => .ok (!u) en := by first | (simp only [evT]; done) | (simp only [evT]; rfl)
@[simp] theorem evT_val {e : E} : evT orc (.val e) en = (mkO e (evE orc e) en).bnd fun x en => match x.rd en with
    | some x => .of en x.truth
    | none => .bad := by first | (simp only [evT]; done) | (simp only [evT]; rfl)
@[simp] theorem evL_nil : evL orc .nil en = .ok [] en := by first | (simp only [evL]; done) | (simp only [evL]; rfl)
@[simp] theorem evL_cons {e : E} {r : Es} : evL orc (.cons e r) en = (evE orc e en).bnd fun o en => if o.cool then (evL orc r en).bnd fun ds en => .ok (o.d :: ds) en else .bad := by first | (simp only [evL]; done) | (simp only [evL]; rfl)
@[simp] theorem evKV_nil : evKV orc .nil en = .ok [] en := by first | (simp only [evKV]; done) | (simp only [evKV]; rfl)
@[simp] theorem evKV_cons {k v : E} {r : Es} : evKV orc (.cons k (.cons v r)) en = (evE orc k en).bnd fun ok en => match ok with
    | .frz k => (evE orc v en).bnd fun o en => if o.cool && k.isLeaf then (evKV orc r en).bnd fun ps en => .ok ((k, o.d) :: ps) en else .bad
    | _ => .bad := by first | (simp only [evKV]; done) | (simp only [evKV]; rfl)
@[simp] theorem evA_nil : evA orc .nil [] en = .ok [] en := by first | (simp only [evA]; done) | (simp only [evA]; rfl)
@[simp] theorem evA_cons {e : E} {r : Es} {l : Bool} {ls : List Bool} : evA orc (.cons e r) (l :: ls) en = (mkA e l (evE orc e) en).bnd fun a en => (evA orc r ls en).bnd fun as en => .ok (a :: as) en := by first | (simp only [evA]; done) | (simp only [evA]; rfl)
@[simp] theorem evCs_nil : evCs orc .nil en = .ok true en := by first | (simp only [evCs]; done) | (simp only [evCs]; rfl)
@[simp] theorem evCs_one {t : T} : evCs orc (.cons t .nil) en = evT orc t en := by first | (simp only [evCs]; done) | (simp only [evCs]; rfl)
@[simp] theorem evI_val {e : E} : evI orc (.val e) en = (evE orc e en).bnd fun o en => if o.cool then .of en o.d.items else .bad := by first | (simp only [evI]; done) | (simp only [evI]; rfl)
@[simp] theorem evI_enum {e : E} : evI orc (.enum e) en = (evE orc e en).bnd fun o en => if o.cool then (match o.d with
      | .lst ds => .ok (ds.zipIdx.map fun p => .tup [.int (p.2 : Int), p.1]) en
      | _ => .bad) else .bad := by first | (simp only [evI]; done) | (simp only [evI]; rfl)
@[simp] theorem evI_zip {x y : E} : evI orc (.zip x y) en = (evE orc x en).bnd fun u en => if u.cool then (evE orc y en).bnd fun v en => if v.cool then (match u.d, v.d with
      | .lst ds, .lst es => .ok ((ds.zip es).map fun p => .tup [p.1, p.2]) en
      | .tup ds, .tup es => .ok ((ds.zip es).map fun p => .tup [p.1, p.2]) en
      | _, _ => .bad) else .bad else .bad := by first | (simp only [evI]; done) | (simp only [evI]; rfl)
@[simp] theorem evI_range {e : E} : evI orc (.range e) en = (evE orc e en).bnd fun o en => match o with
    | .frz (.int n) => if n < 2 ^ 24 ∧ -(2 ^ 24) < n then .ok ((List.range n.toNat).map fun (i : Nat) => .int (i : Int)) en else .bad
    | _ => .bad := by first | (simp only [evI]; done) | (simp only [evI]; rfl)
@[simp] theorem evS_set {i : Nat} {e : E} : evS orc (.set i e) en = (evE orc e en).bnd fun o en => match putS i o en with
    | some en' => .ok .nx en'
    | none => .bad := by first | (simp only [evS]; done) | (simp only [evS]; rfl)
@[simp] theorem evS_asg {t : Tg} {e : E} : evS orc (.asg t e) en = (evE orc e en).bnd fun o en => if o.cool then (match bind1 t o.d en with
    | some en' => .ok .nx en'
    | none => .bad) else .bad := by first | (simp only [evS]; done) | (simp only [evS]; rfl)
@[simp] theorem evS_setk {x : Nat} {k v : E} : evS orc (.setk x k v) en = (evE orc v en).bnd fun o en => if o.cool then (mkO (.var x) (evE orc (.var x)) en).bnd fun x' en => (match x' with
    | .slot x => (evE orc k en).bnd fun ok en => (match ok with
      | .frz k => (match setK x k o.d en with
        | some en' => .ok .nx en'
        | none => .bad)
      | _ => .bad)
    | _ => .bad) else .bad := by first | (simp only [evS]; done) | (simp only [evS]; rfl)
@[simp] theorem evS_expr {e : E} : evS orc (.expr e) en = (evE orc e en).bnd fun _ en => .ok .nx en := by first | (simp only [evS]; done) | (simp only [evS]; rfl)
@[simp] theorem evS_ret {e : E} : evS orc (.ret e) en = (evE orc e en).bnd fun o en => .ok (.ret o) en := by first | (simp only [evS]; done) | (simp only [evS]; rfl)
@[simp] theorem evS_retN : evS orc .retN en = .ok (.ret (.frz .non)) en := by first | (simp only [evS]; done) | (simp only [evS]; rfl)
@[simp] theorem evS_if {t : T} {x y : Ss} : evS orc (.if_ t x y) en = (evT orc t en).bnd fun b en => if b then evSs orc x en else evSs orc y en := by first | (simp only [evS]; done) | (simp only [evS]; rfl)
@[simp] theorem evS_for {t : Tg} {it : It} {body : Ss} : evS orc (.for_ t it body) en = (evI orc it en).bnd fun ds en => forGo (bind1 t) (evSs orc body) ds en := by first | (simp only [evS]; done) | (simp only [evS]; rfl)
@[simp] theorem evS_raise {i : Nat} {e : E} : evS orc (.raise i e) en = (evE orc e en).bnd fun o en => if o.cool then .exc i o.d en else .bad := by first | (simp only [evS]; done) | (simp only [evS]; rfl)
@[simp] theorem evS_brk : evS orc .brk en = .ok .brk en := by first | (simp only [evS]; done) | (simp only [evS]; rfl)
@[simp] theorem evS_cont : evS orc .cont en = .ok .ct en := by first | (simp only [evS]; done) | (simp only [evS]; rfl)
@[simp] theorem evS_pass : evS orc .pass en = .ok .nx en := by first | (simp only [evS]; done) | (simp only [evS]; rfl)
@[simp] theorem evSs_nil : evSs orc .nil en = .ok .nx en := by first | (simp only [evSs]; done) | (simp only [evSs]; rfl)
@[simp] theorem evSs_cons {s : S} {r : Ss} : evSs orc (.cons s r) en = (evS orc s en).bnd fun fl en => match fl with
    | .nx => evSs orc r en
    | .ret o => .ok (.ret o) en
    | .brk => .ok .brk en
    | .ct => .ok .ct en := by first | (simp only [evSs]; done) | (simp only [evSs]; rfl)
end
@[simp] theorem range_0 : List.range 0 = [] := rfl
@[simp] theorem permute_0 {α : Type} : permute ([] : List α) [] = some [] := rfl
@[simp] theorem permuteR_0 {α : Type} : permute ([] : List α) (List.range 0) = some [] := rfl
@[simp] theorem permute_1 {α : Type} {a : α} : permute ([a] : List α) [0] = some [a] := rfl
@[simp] theorem permuteR_1 {α : Type} {a : α} : permute ([a] : List α) (List.range 1) = some [a] := rfl
@[simp] theorem range_2 : List.range 2 = [0, 1] := rfl
@[simp] theorem permute_2 {α : Type} {a b : α} : permute ([a, b] : List α) [0, 1] = some [a, b] := rfl
@[simp] theorem permuteR_2 {α : Type} {a b : α} : permute ([a, b] : List α) (List.range 2) = some [a, b] := rfl
@[simp] theorem range_3 : List.range 3 = [0, 1, 2] := rfl
@[simp] theorem permute_3 {α : Type} {a b c : α} : permute ([a, b, c] : List α) [0, 1, 2] = some [a, b, c] := rfl
@[simp] theorem permuteR_3 {α : Type} {a b c : α} : permute ([a, b, c] : List α) (List.range 3) = some [a, b, c] := rfl
@[simp] theorem range_4 : List.range 4 = [0, 1, 2, 3] := rfl
@[simp] theorem permute_4 {α : Type} {a b c d : α} : permute ([a, b, c, d] : List α) [0, 1, 2, 3] = some [a, b, c, d] := rfl
@[simp] theorem permuteR_4 {α : Type} {a b c d : α} : permute ([a, b, c, d] : List α) (List.range 4) = some [a, b, c, d] := rfl
@[simp] theorem range_5 : List.range 5 = [0, 1, 2, 3, 4] := rfl
@[simp] theorem permute_5 {α : Type} {a b c d e : α} : permute ([a, b, c, d, e] : List α) [0, 1, 2, 3, 4] = some [a, b, c, d, e] := rfl
@[simp] theorem permuteR_5 {α : Type} {a b c d e : α} : permute ([a, b, c, d, e] : List α) (List.range 5) = some [a, b, c, d, e] := rfl
@[simp] theorem takeA_nil {en : En} : takeA [] en = some ([], en) := rfl
@[simp] theorem takeA_val {o : OV} {r : List Opd} {en : En} : takeA (.val o :: r) en = (takeA r en).map fun p => (.ov o :: p.1, p.2) := by first | (simp only [takeA]; done) | (simp only [takeA]; rfl)
@[simp] theorem takeA_slot {i : Nat} {r : List Opd} {en : En} : takeA (.slot i :: r) en = (match en[i]? with
    | some (.ov (.frz d)) => (takeA r en).map fun p => (.ov (.frz d) :: p.1, p.2)
    | some (.ov o) => (takeA r (en.set i .no)).map fun p => (.lent o :: p.1, p.2)
    | some (.lent o) => (takeA r (en.set i .no)).map fun p => (.lent o :: p.1, p.2)
    | _ => none) := by first | (simp only [takeA]; done) | (simp only [takeA]; rfl)
@[simp] theorem backA_nil {en0 en : En} : backA en0 [] [] en = some en := by first | (simp only [backA]; done) | (simp only [backA]; rfl)
@[simp] theorem backA_val {o : OV} {r : List Opd} {x : Option OV} {t : List (Option OV)} {en0 en : En} : backA en0 (.val o :: r) (x :: t) en = backA en0 r t en := by first | (simp only [backA]; done) | (simp only [backA]; rfl)
@[simp] theorem backA_slot {i : Nat} {o : OV} {r : List Opd} {t : List (Option OV)} {en0 en : En} : backA en0 (.slot i :: r) (some o :: t) en = (match en0[i]? with
    | some (.ov _) => backA en0 r t (en.set i (.ov o))
    | some (.lent _) => backA en0 r t (en.set i (.lent o))
    | _ => none) := by first | (simp only [backA]; done) | (simp only [backA]; rfl)
@[simp] theorem backA_no {i : Nat} {r : List Opd} {t : List (Option OV)} {en0 en : En} : backA en0 (.slot i :: r) (none :: t) en = backA en0 r t en := by first | (simp only [backA]; done) | (simp only [backA]; rfl)
@[simp] theorem outs_nil {en : En} : outsOf [] en = some [] := by first | (simp only [outsOf]; done) | (simp only [outsOf]; rfl)
@[simp] theorem outs_lent {o o' : OV} {r : List Sl} {en : En} : outsOf (.lent o :: r) (.lent o' :: en) = (outsOf r en).map (some o' :: ·) := by first | (simp only [outsOf]; done) | (simp only [outsOf]; rfl)
@[simp] theorem outs_ov {o : OV} {r : List Sl} {s : Sl} {en : En} : outsOf (.ov o :: r) (s :: en) = (outsOf r en).map (none :: ·) := by first | (simp only [outsOf]; done) | (simp only [outsOf]; rfl)
theorem size24 : sizeLine = 16777216 := rfl
theorem evE_call {orc : Orc} {f : Nat} {args : Es} {lend : List Bool} {perm : List Nat} {en : En} : evE orc (.call f args lend perm) en = (evA orc args lend en).bnd fun as en => match permute as perm with
      | some ps => (match takeA ps en with
        | some (sl, en1) => (match orc f sl with
          | .ok o outs => (match backA en ps outs en1 with
            | some en' => .ok o en'
            | none => .bad)
          | .exc c p outs => (match backA en ps outs en1 with
            | some en' => .exc c p en'
            | none => .bad)
          | .bad => .bad)
        | none => .bad)
      | none => .bad := by first | (simp only [evE]; done) | (simp only [evE]; rfl)
theorem callOf_eq {orc : Orc} {n m : Nat} {body : Ss} {sl : List Sl} (h : sl.length = n) : callOf orc n m body sl = (match evSs orc body (sl ++ List.replicate (m - n) .no) with
    | .ok (.ret o) en => (match outsOf sl en with
      | some outs => .ok o outs
      | none => .bad)
    | .ok .nx en => (match outsOf sl en with
      | some outs => .ok (.frz .non) outs
      | none => .bad)
    | .exc c p en => (match outsOf sl en with
      | some outs => .exc c p outs
      | none => .bad)
    | _ => .bad) := by unfold callOf; rw [if_pos h] <;> rfl
theorem call0 {orc : Orc} {m : Nat} {body : Ss} : callOf orc 0 m body ([] : List Sl) = (match evSs orc body (([] : List Sl) ++ List.replicate (m - 0) .no) with
    | .ok (.ret o) en => (match outsOf ([] : List Sl) en with
      | some outs => .ok o outs
      | none => .bad)
    | .ok .nx en => (match outsOf ([] : List Sl) en with
      | some outs => .ok (.frz .non) outs
      | none => .bad)
    | .exc cc pp en => (match outsOf ([] : List Sl) en with
      | some outs => .exc cc pp outs
      | none => .bad)
    | _ => .bad) := callOf_eq (n := 0) rfl
theorem call1 {orc : Orc} {m : Nat} {body : Ss} {a : Sl} : callOf orc 1 m body [a] = (match evSs orc body ([a] ++ List.replicate (m - 1) .no) with
    | .ok (.ret o) en => (match outsOf [a] en with
      | some outs => .ok o outs
      | none => .bad)
    | .ok .nx en => (match outsOf [a] en with
      | some outs => .ok (.frz .non) outs
      | none => .bad)
    | .exc cc pp en => (match outsOf [a] en with
      | some outs => .exc cc pp outs
      | none => .bad)
    | _ => .bad) := callOf_eq (n := 1) rfl
theorem call2 {orc : Orc} {m : Nat} {body : Ss} {a b : Sl} : callOf orc 2 m body [a, b] = (match evSs orc body ([a, b] ++ List.replicate (m - 2) .no) with
    | .ok (.ret o) en => (match outsOf [a, b] en with
      | some outs => .ok o outs
      | none => .bad)
    | .ok .nx en => (match outsOf [a, b] en with
      | some outs => .ok (.frz .non) outs
      | none => .bad)
    | .exc cc pp en => (match outsOf [a, b] en with
      | some outs => .exc cc pp outs
      | none => .bad)
    | _ => .bad) := callOf_eq (n := 2) rfl
theorem call3 {orc : Orc} {m : Nat} {body : Ss} {a b c : Sl} : callOf orc 3 m body [a, b, c] = (match evSs orc body ([a, b, c] ++ List.replicate (m - 3) .no) with
    | .ok (.ret o) en => (match outsOf [a, b, c] en with
      | some outs => .ok o outs
      | none => .bad)
    | .ok .nx en => (match outsOf [a, b, c] en with
      | some outs => .ok (.frz .non) outs
      | none => .bad)
    | .exc cc pp en => (match outsOf [a, b, c] en with
      | some outs => .exc cc pp outs
      | none => .bad)
    | _ => .bad) := callOf_eq (n := 3) rfl
theorem call4 {orc : Orc} {m : Nat} {body : Ss} {a b c d : Sl} : callOf orc 4 m body [a, b, c, d] = (match evSs orc body ([a, b, c, d] ++ List.replicate (m - 4) .no) with
    | .ok (.ret o) en => (match outsOf [a, b, c, d] en with
      | some outs => .ok o outs
      | none => .bad)
    | .ok .nx en => (match outsOf [a, b, c, d] en with
      | some outs => .ok (.frz .non) outs
      | none => .bad)
    | .exc cc pp en => (match outsOf [a, b, c, d] en with
      | some outs => .exc cc pp outs
      | none => .bad)
    | _ => .bad) := callOf_eq (n := 4) rfl
theorem call5 {orc : Orc} {m : Nat} {body : Ss} {a b c d e : Sl} : callOf orc 5 m body [a, b, c, d, e] = (match evSs orc body ([a, b, c, d, e] ++ List.replicate (m - 5) .no) with
    | .ok (.ret o) en => (match outsOf [a, b, c, d, e] en with
      | some outs => .ok o outs
      | none => .bad)
    | .ok .nx en => (match outsOf [a, b, c, d, e] en with
      | some outs => .ok (.frz .non) outs
      | none => .bad)
    | .exc cc pp en => (match outsOf [a, b, c, d, e] en with
      | some outs => .exc cc pp outs
      | none => .bad)
    | _ => .bad) := callOf_eq (n := 5) rfl
end PM

namespace PM
open PySem

/-! ## operands -/
section
variable {en : En} {r : En → Out OV}
@[simp] theorem mkO_nm {i : Nat} : mkO (.var i) r en = (match en[i]? with
    | some (.ov (.frz d)) => .ok (.val (.frz d)) en
    | some (.ov _) => .ok (.slot i) en
    | some (.lent _) => .ok (.slot i) en
    | _ => .bad) := by rfl
@[simp] theorem mkO_lit {d : D} : mkO (.lit d) r en = (r en).bnd fun o en => .ok (.val o) en := rfl
@[simp] theorem mkO_tup {a} : mkO (.tup a) r en = (r en).bnd fun o en => .ok (.val o) en := rfl
@[simp] theorem mkO_lst {a} : mkO (.lst a) r en = (r en).bnd fun o en => .ok (.val o) en := rfl
@[simp] theorem mkO_dict {a} : mkO (.dict a) r en = (r en).bnd fun o en => .ok (.val o) en := rfl
@[simp] theorem mkO_bin {o a b} : mkO (.bin o a b) r en = (r en).bnd fun o en => .ok (.val o) en := rfl
@[simp] theorem mkO_cmp {o a b} : mkO (.cmp o a b) r en = (r en).bnd fun o en => .ok (.val o) en := rfl
@[simp] theorem mkO_chn {o p a b c} : mkO (.chn o p a b c) r en = (r en).bnd fun o en => .ok (.val o) en := rfl
@[simp] theorem mkO_and {a b} : mkO (.and a b) r en = (r en).bnd fun o en => .ok (.val o) en := rfl
@[simp] theorem mkO_or {a b} : mkO (.or a b) r en = (r en).bnd fun o en => .ok (.val o) en := rfl
@[simp] theorem mkO_not {a} : mkO (.not a) r en = (r en).bnd fun o en => .ok (.val o) en := rfl
@[simp] theorem mkO_ite {a b c} : mkO (.ite a b c) r en = (r en).bnd fun o en => .ok (.val o) en := rfl
@[simp] theorem mkO_sub {a b} : mkO (.sub a b) r en = (r en).bnd fun o en => .ok (.val o) en := rfl
@[simp] theorem mkO_slc {a b c} : mkO (.slc a b c) r en = (r en).bnd fun o en => .ok (.val o) en := rfl
@[simp] theorem mkO_rev {a} : mkO (.rev a) r en = (r en).bnd fun o en => .ok (.val o) en := rfl
@[simp] theorem mkO_lc {a b c d e} : mkO (.lc a b c d e) r en = (r en).bnd fun o en => .ok (.val o) en := rfl
@[simp] theorem mkO_dc {a b c d e f} : mkO (.dc a b c d e f) r en = (r en).bnd fun o en => .ok (.val o) en := rfl
@[simp] theorem mkO_fmt {a} : mkO (.fmt a) r en = (r en).bnd fun o en => .ok (.val o) en := rfl
@[simp] theorem mkO_call {a b c d} : mkO (.call a b c d) r en = (r en).bnd fun o en => .ok (.val o) en := rfl
@[simp] theorem mkO_bif {a b} : mkO (.bif a b) r en = (r en).bnd fun o en => .ok (.val o) en := rfl
@[simp] theorem mkO_isi {a b} : mkO (.isi a b) r en = (r en).bnd fun o en => .ok (.val o) en := rfl
@[simp] theorem mkO_met1 {a b c} : mkO (.met1 a b c) r en = (r en).bnd fun o en => .ok (.val o) en := rfl
@[simp] theorem mkO_fst {a} : mkO (.fst a) r en = (r en).bnd fun o en => .ok (.val o) en := rfl
@[simp] theorem mkO_heard {a b c} : mkO (.heard a b c) r en = (r en).bnd fun o en => .ok (.val o) en := rfl
@[simp] theorem mkA_f {e : E} : mkA e false r en = (r en).bnd fun o en => .ok (.val o) en := rfl
@[simp] theorem mkA_t {e : E} : mkA e true r en = mkO e r en := rfl
@[simp] theorem rd_val {o : OV} : Opd.rd en (.val o) = o.flat := rfl
@[simp] theorem rd_slot {i : Nat} : Opd.rd en (.slot i) = (match en[i]? with
    | some (.ov o) => o.flat
    | some (.lent o) => o.flat
    | _ => none) := rfl
@[simp] theorem rdVar_eq {i : Nat} : rdVar i en = (match en[i]? with
  | some (.ov (.frz d)) => .ok (.frz d) en
  | some (.ov o) => if o.cool then .ok (.frz o.d) (en.set i (.ov (.frz o.d))) else .bad
  | _ => .bad) := by rfl
@[simp] theorem putS_eq {i : Nat} {o : OV} : putS i o en = (match en[i]? with
  | some (.ov _) => some (en.set i (.ov o))
  | some .no => some (en.set i (.ov o))
  | _ => none) := by rfl
@[simp] theorem bind1_nm {i : Nat} {d : D} : bind1 (.nm i) d en = putS i (.frz d) en := by simp only [bind1]
@[simp] theorem bind1_tp {ts : List Tg} {ds : List D} : bind1 (.tp ts) (.tup ds) en = binds ts ds en := by simp only [bind1]
@[simp] theorem binds_nil : binds [] [] en = some en := by simp only [binds]
@[simp] theorem binds_cons {t : Tg} {ts : List Tg} {d : D} {ds : List D} : binds (t :: ts) (d :: ds) en = (match bind1 t d en with
    | some en' => binds ts ds en'
    | none => none) := by first | (simp only [binds]; done) | (simp only [binds]; rfl)
end
@[simp] theorem flat_frz {d : D} : (OV.frz d).flat = some d := by simp only [OV.flat]
theorem flats_map : ∀ ds : List D, OV.flats (ds.map .frz) = some ds
  | [] => by simp only [List.map_nil, OV.flats]
  | d :: ds => by simp only [List.map_cons, OV.flats, flats_map ds, Option.map_some]
@[simp] theorem flat_lst {ds : List D} : (OV.lst (ds.map .frz)).flat = some (.lst ds) := by simp only [OV.flat, flats_map, Option.map_some]
@[simp] theorem flat_lst0 : (OV.lst []).flat = some (.lst []) := by simp only [OV.flat, OV.flats, Option.map_some]
@[simp] theorem flat_lst1 {d : D} : (OV.lst [.frz d]).flat = some (.lst [d]) := flat_lst (ds := [d])
theorem flatKV_map' : ∀ ds : List (D × D), OV.flatKV (ds.map fun p => (p.1, .frz p.2)) = some ds
  | [] => by simp only [List.map_nil, OV.flatKV]
  | d :: ds => by simp only [List.map_cons, OV.flatKV, flatKV_map' ds, Option.map_some]
@[simp] theorem flat_dic {ds : List (D × D)} : (OV.dic (ds.map fun p => (p.1, .frz p.2))).flat = some (.dic ds) := by simp only [OV.flat, flatKV_map', Option.map_some]
@[simp] theorem cool_frz {d : D} : (OV.frz d).cool = true := by simp only [OV.cool]
@[simp] theorem d_frz {d : D} : (OV.frz d).d = d := by simp only [OV.d]
theorem cools_map : ∀ ds : List D, OV.cools (ds.map .frz) = true
  | [] => by simp only [List.map_nil, OV.cools]
  | d :: ds => by simp only [List.map_cons, OV.cools, cool_frz, cools_map ds, Bool.and_self]
theorem ds_map : ∀ ds : List D, OV.ds (ds.map .frz) = ds
  | [] => by simp only [List.map_nil, OV.ds]
  | d :: ds => by simp only [List.map_cons, OV.ds, d_frz, ds_map ds]
@[simp] theorem cool_lst {ds : List D} : (OV.lst (ds.map .frz)).cool = true := by simp only [OV.cool, cools_map]
@[simp] theorem d_lst {ds : List D} : (OV.lst (ds.map .frz)).d = .lst ds := by simp only [OV.d, ds_map]
@[simp] theorem cool_lst0 : (OV.lst []).cool = true := by simp only [OV.cool, OV.cools]
@[simp] theorem d_lst0 : (OV.lst []).d = .lst [] := by simp only [OV.d, OV.ds]
theorem coolKV_map : ∀ ds : List (D × D), OV.coolKV (ds.map fun p => (p.1, .frz p.2)) = true
  | [] => by simp only [List.map_nil, OV.coolKV]
  | d :: ds => by simp only [List.map_cons, OV.coolKV, cool_frz, coolKV_map ds, Bool.and_self]
theorem dkv_map : ∀ ds : List (D × D), OV.dkv (ds.map fun p => (p.1, .frz p.2)) = ds
  | [] => by simp only [List.map_nil, OV.dkv]
  | d :: ds => by simp only [List.map_cons, OV.dkv, d_frz, dkv_map ds]
@[simp] theorem cool_dic {ds : List (D × D)} : (OV.dic (ds.map fun p => (p.1, .frz p.2))).cool = true := by simp only [OV.cool, coolKV_map]
@[simp] theorem d_dic {ds : List (D × D)} : (OV.dic (ds.map fun p => (p.1, .frz p.2))).d = .dic ds := by simp only [OV.d, dkv_map]
@[simp] theorem gd_true {α : Type} {x : α} : gd True x = some x := if_pos trivial
@[simp] theorem gd_false {α : Type} {x : α} : gd False x = none := if_neg not_false

/-! ## comprehensions -/
theorem evE_lc {orc : Orc} {elt : E} {t : Tg} {it : It} {cs : Ts} {own : List Nat} {en : En} : evE orc (.lc elt t it cs own) en = (evI orc it en).bnd fun ds en0 => if okOwn en0 own = true then
      (lcGo (bind1 t) (evCs orc cs) (evE orc elt) own ds [] en0).nx.bnd fun acc en => .ok (.lst (acc.map .frz)) (undo en0 (wipeE en own) own) else .bad := by simp only [evE]
theorem evE_dc {orc : Orc} {k v : E} {t : Tg} {it : It} {cs : Ts} {own : List Nat} {en : En} : evE orc (.dc k v t it cs own) en = (evI orc it en).bnd fun ds en0 => if okOwn en0 own = true then
      (dcGo (bind1 t) (evCs orc cs) (evE orc k) (evE orc v) own ds [] en0).nx.bnd fun acc en => .ok (.dic (acc.map fun p => (p.1, .frz p.2))) (undo en0 (wipeE en own) own) else .bad := by simp only [evE]
section
variable {orc : Orc} {elt : E} {t : Tg} {it : It} {cs : Ts} {own : List Nat} {en : En} {ds : List D}
theorem lcGo_gen {put : D → En} {g : D → Bool} {f : D → D} {bnd : D → En → Option En} {cF : En → Out Bool} {eF : En → Out OV} {W : En} (hok : ∀ d, okOwn (put d) own = true) (hw : ∀ d, wipeE (put d) own = W) :
    ∀ (ds acc : List D) (e : En), (∀ d ∈ ds, bnd d W = some (put d)) → (∀ d ∈ ds, cF (put d) = .ok (g d) (put d)) → (∀ d ∈ ds, g d = true → ∃ o, eF (put d) = .ok o (put d) ∧ o.cool = true ∧ o.d = f d) → acc.length + ds.length ≤ sizeLine →
      okOwn e own = true → wipeE e own = W → ∃ e', lcGo bnd cF eF own ds acc e = .ok (acc ++ (ds.filter g).map f) e' ∧ wipeE e' own = W
  | [], acc, e, _, _, _, _, h0, h1 => ⟨e, by simp [lcGo, h0], h1⟩
  | d :: ds, acc, e, hb, hg, hf, hn, h0, h1 => by
    have b := hb d (List.mem_cons_self ..)
    have gg := hg d (List.mem_cons_self ..)
    simp only [lcGo, h0, if_true, h1, b, gg, bnd_ok]
    have rest : ∀ acc', acc'.length + ds.length ≤ sizeLine → ∃ e', lcGo bnd cF eF own ds acc' (put d) = .ok (acc' ++ (ds.filter g).map f) e' ∧ wipeE e' own = W := fun acc' hn' =>
      lcGo_gen hok hw ds acc' (put d) (fun x hx => hb x (List.mem_cons_of_mem _ hx)) (fun x hx => hg x (List.mem_cons_of_mem _ hx)) (fun x hx => hf x (List.mem_cons_of_mem _ hx)) hn' (hok d) (hw d)
    rw [List.length_cons] at hn
    cases hgd : g d with
    | true =>
      obtain ⟨o, o1, o2, o3⟩ := hf d (List.mem_cons_self ..) hgd
      have lt : acc.length < sizeLine := by omega
      obtain ⟨e', r1, r2⟩ := rest (acc ++ [o.d]) (by rw [List.length_append, List.length_singleton]; omega)
      refine ⟨e', ?_, r2⟩
      simp only [if_true, o1, bnd_ok, o2, lt, decide_true, Bool.and_self, r1]
      simp [List.filter_cons, hgd, o3]
    | false =>
      obtain ⟨e', r1, r2⟩ := rest acc (by omega)
      refine ⟨e', ?_, r2⟩
      simp only [Bool.false_eq_true, if_false, r1]
      simp [List.filter_cons, hgd]
/-- a comprehension that changes no name -/
theorem lc_gen {put : D → En} {g : D → Bool} {f : D → D} (hi : evI orc it en = .ok ds en) (h0 : okOwn en own = true) (hb : ∀ d ∈ ds, bind1 t d (wipeE en own) = some (put d)) (hok : ∀ d, okOwn (put d) own = true) (hw : ∀ d, wipeE (put d) own = wipeE en own) (hu : undo en (wipeE en own) own = en)
    (hg : ∀ d ∈ ds, evCs orc cs (put d) = .ok (g d) (put d)) (hf : ∀ d ∈ ds, g d = true → ∃ o, evE orc elt (put d) = .ok o (put d) ∧ o.cool = true ∧ o.d = f d) (hn : ds.length ≤ sizeLine) :
    evE orc (.lc elt t it cs own) en = .ok (.lst (((ds.filter g).map f).map .frz)) en := by
  obtain ⟨e', r1, r2⟩ := lcGo_gen (own := own) hok hw ds [] en hb hg hf (by simpa using hn) h0 rfl
  rw [evE_lc, hi, bnd_ok, if_pos h0, r1, nx_ok, bnd_ok, r2, hu, List.nil_append]
theorem set_at : ∀ {l : En} {i : Nat} {x : Sl}, l[i]? = some x → l.set i x = l
  | [], _, _, e => by simp at e
  | y :: l, 0, x, e => by simp at e; subst e; rfl
  | y :: l, i + 1, x, e => by simp only [List.set_cons_succ]; rw [set_at (by simpa using e)]
theorem set_set_self {i : Nat} {x : Sl} (h : en[i]? = some x) (y : Sl) : (en.set i y).set i (en.getD i .no) = en := by
  rw [List.set_set]
  have : en.getD i .no = x := by rw [List.getD_eq_getElem?_getD, h]; rfl
  rw [this]
  exact set_at h
theorem okOwn1 {i : Nat} : okOwn en [i] = (match en[i]? with
  | some s => s.cold
  | none => false) := by
  unfold okOwn
  simp only [List.all_cons, List.all_nil, Bool.and_true] <;> rfl
/-- .. with one name -/
theorem lc_one {i : Nat} {x : Sl} {g : D → Bool} {f : D → D} (hi : evI orc it en = .ok ds en) (hx : en[i]? = some x) (hc : x.cold = true)
    (hg : ∀ d ∈ ds, evCs orc cs (en.set i (.ov (.frz d))) = .ok (g d) (en.set i (.ov (.frz d)))) (hf : ∀ d ∈ ds, g d = true → ∃ o, evE orc elt (en.set i (.ov (.frz d))) = .ok o (en.set i (.ov (.frz d))) ∧ o.cool = true ∧ o.d = f d) (hn : ds.length ≤ sizeLine) :
    evE orc (.lc elt (.nm i) it cs [i]) en = .ok (.lst (((ds.filter g).map f).map .frz)) en := by
  have hlt : i < en.length := (List.getElem?_eq_some_iff.mp hx).1
  refine lc_gen (put := fun d => en.set i (.ov (.frz d))) hi (by rw [okOwn1, hx]; exact hc) (fun d _ => ?_) (fun d => ?_) (fun d => ?_) (set_set_self hx _) hg hf hn
  · simp [wipeE, hlt]
  · rw [okOwn1]; simp [hlt, Sl.cold]
  · simp [wipeE]
theorem lc_one' {i : Nat} {x : Sl} {f : D → D} (hi : evI orc it en = .ok ds en) (hx : en[i]? = some x) (hc : x.cold = true)
    (hf : ∀ d ∈ ds, evE orc elt (en.set i (.ov (.frz d))) = .ok (.frz (f d)) (en.set i (.ov (.frz d)))) (hn : ds.length ≤ sizeLine) :
    evE orc (.lc elt (.nm i) it .nil [i]) en = .ok (.lst ((ds.map f).map .frz)) en := by
  have := lc_one (cs := .nil) (g := fun _ => true) (f := f) hi hx hc (fun _ _ => evCs_nil) (fun d hd _ => ⟨_, hf d hd, cool_frz, d_frz⟩) hn
  rw [this, List.filter_eq_self.mpr (fun _ _ => rfl)]
end
@[simp] theorem bls_map {α : Type} {f : α → Bool} : ∀ l : List α, D.bls (l.map fun a => .bl (f a)) = some (l.map f)
  | [] => rfl
  | a :: l => by simp only [List.map_cons, D.bls, bls_map l, Option.map_some]
end PM

namespace PM
open PySem

/-! ## operations on data, for simp -/
@[simp] theorem plain_str {x : Str} : (D.str x).plain = true := by simp only [D.plain]
@[simp] theorem plain_int {i : Int} : (D.int i).plain = true := by simp only [D.plain]
@[simp] theorem plain_bl {i : Bool} : (D.bl i).plain = true := by simp only [D.plain]
@[simp] theorem plain_non : D.non.plain = true := by simp only [D.plain]
@[simp] theorem plain_tup {ds : List D} : (D.tup ds).plain = D.plains ds := by simp only [D.plain]
@[simp] theorem plain_lst {ds : List D} : (D.lst ds).plain = D.plains ds := by simp only [D.plain]
@[simp] theorem plains_nil : D.plains [] = true := by simp only [D.plains]
@[simp] theorem plains_cons {d : D} {ds : List D} : D.plains (d :: ds) = (d.plain && D.plains ds) := by simp only [D.plains]
theorem plains_iff : ∀ ds : List D, D.plains ds = ds.all D.plain
  | [] => by simp
  | d :: ds => by simp [plains_iff ds]
@[simp] theorem isPy_str {x : Str} : (D.str x).isPy = true := by simp only [D.isPy]
@[simp] theorem isPy_int {i : Int} : (D.int i).isPy = true := by simp only [D.isPy]
@[simp] theorem isPy_bl {i : Bool} : (D.bl i).isPy = true := by simp only [D.isPy]
@[simp] theorem isPy_non : D.non.isPy = true := by simp only [D.isPy]
@[simp] theorem isPy_tup {ds : List D} : (D.tup ds).isPy = ds.all D.isPy := by simp only [D.isPy, D.isPys_all]
@[simp] theorem isPy_lst {ds : List D} : (D.lst ds).isPy = ds.all D.isPy := by simp only [D.isPy, D.isPys_all]
mutual
theorem plain_py : ∀ d : D, d.plain = true → d.isPy = true
  | .non, _ => by simp
  | .bl _, _ => by simp
  | .int _, _ => by simp
  | .str _, _ => by simp
  | .tup ds, h => by
    rw [plain_tup] at h
    rw [isPy_tup]
    exact plains_py ds h
  | .lst ds, h => by
    rw [plain_lst] at h
    rw [isPy_lst]
    exact plains_py ds h
  | .dic _, h => by simp [D.plain] at h
  | .fn _, h => by simp [D.plain] at h
  | .cls _, h => by simp [D.plain] at h
  | .ty _, h => by simp [D.plain] at h
theorem plains_py : ∀ ds : List D, D.plains ds = true → ds.all D.isPy = true
  | [], _ => rfl
  | d :: ds, h => by
    rw [plains_cons, Bool.and_eq_true] at h
    rw [List.all_cons, plain_py d h.1, plains_py ds h.2]
    rfl
end
@[simp] theorem shal_str {x : Str} : (D.str x).shal = true := by simp [D.shal, D.depth, D.py, PyData.depth]
@[simp] theorem shal_int {i : Int} : (D.int i).shal = true := by simp [D.shal, D.depth, D.py, PyData.depth]
@[simp] theorem shal_bl {i : Bool} : (D.bl i).shal = true := by simp [D.shal, D.depth, D.py, PyData.depth]
@[simp] theorem shal_non : D.non.shal = true := by simp [D.shal, D.depth, D.py, PyData.depth]
@[simp] theorem eqv_str {x y : Str} : D.eqv (.str x) (.str y) = decide (x = y) := by
  simp only [D.eqv, D.py, PyData.eqv]
  by_cases h : x = y <;> simp [h]
@[simp] theorem eqv_int {x y : Int} : D.eqv (.int x) (.int y) = decide (x = y) := by
  simp only [D.eqv, D.py, PyData.eqv]
  by_cases h : x = y <;> simp [h]
@[simp] theorem eqv_bl {x y : Bool} : D.eqv (.bl x) (.bl y) = (x == y) := by simp only [D.eqv, D.py, PyData.eqv]
@[simp] theorem cmp_eq_str {x y : Str} : opCmp .eq (.str x) (.str y) = some (decide (x = y)) := by simp [opCmp, eqOk]
@[simp] theorem cmp_ne_str {x y : Str} : opCmp .ne (.str x) (.str y) = some (!decide (x = y)) := by simp [opCmp, eqOk]
@[simp] theorem cmp_eq_int {x y : Int} : opCmp .eq (.int x) (.int y) = some (decide (x = y)) := by simp [opCmp, eqOk]
@[simp] theorem cmp_ne_int {x y : Int} : opCmp .ne (.int x) (.int y) = some (!decide (x = y)) := by simp [opCmp, eqOk]
@[simp] theorem cmp_lt_int {x y : Int} : opCmp .lt (.int x) (.int y) = some (decide (x < y)) := by simp [opCmp, opLt]
@[simp] theorem cmp_le_int {x y : Int} : opCmp .le (.int x) (.int y) = some (decide (x ≤ y)) := by simp [opCmp]
@[simp] theorem cmp_gt_int {x y : Int} : opCmp .gt (.int x) (.int y) = some (decide (y < x)) := by simp [opCmp]
@[simp] theorem cmp_ge_int {x y : Int} : opCmp .ge (.int x) (.int y) = some (decide (y ≤ x)) := by simp [opCmp]
@[simp] theorem bin_add_int {x y : Int} : opBin .add (.int x) (.int y) = some (.frz (.int (x + y))) := rfl
@[simp] theorem bin_sub_int {x y : Int} : opBin .sub (.int x) (.int y) = some (.frz (.int (x - y))) := rfl
@[simp] theorem cmp_in_one {c : Nat} {y : Str} : opCmp .in_ (oneS c) (.str y) = some (decide (c ∈ y.cps.toList)) := by simp [opCmp, opIn, oneS, strIn]
@[simp] theorem items_str {x : Str} : (D.str x).items = some (x.cps.toList.map oneS) := rfl
@[simp] theorem items_tup {ds : List D} : (D.tup ds).items = some ds := rfl
@[simp] theorem items_lst {ds : List D} : (D.lst ds).items = some ds := rfl
@[simp] theorem bif_all {α : Type} {f : α → Bool} {l : List α} : opBif .all (.lst (l.map fun a => .bl (f a))) = some (.frz (.bl (l.all f))) := by
  simp [opBif, List.all_map]
theorem bif_all' {l : List D} {bs : List Bool} (h : D.bls l = some bs) : opBif .all (.lst l) = some (.frz (.bl (bs.all id))) := by simp [opBif, h]
@[simp] theorem bif_len_tup {ds : List D} : opBif .len (.tup ds) = some (.frz (.int (ds.length : Int))) := rfl
@[simp] theorem bif_len_lst {ds : List D} : opBif .len (.lst ds) = some (.frz (.int (ds.length : Int))) := rfl
@[simp] theorem bif_len_dic {ds : List (D × D)} : opBif .len (.dic ds) = some (.frz (.int (ds.length : Int))) := rfl
theorem bif_len_str {x : Str} (h : x.length ≤ sizeLine) : opBif .len (.str x) = some (.frz (.int (x.length : Int))) := by simp [opBif, D.len, gd, h]
@[simp] theorem bif_tuple_lst {ds : List D} : opBif .tuple (.lst ds) = some (.frz (.tup ds)) := rfl
@[simp] theorem bif_tuple_tup {ds : List D} : opBif .tuple (.tup ds) = some (.frz (.tup ds)) := rfl
@[simp] theorem bif_list_lst {ds : List D} : opBif .list (.lst ds) = some (.lst (ds.map .frz)) := rfl
@[simp] theorem bif_list_tup {ds : List D} : opBif .list (.tup ds) = some (.lst (ds.map .frz)) := rfl
@[simp] theorem truth_bl {b : Bool} : (D.bl b).truth = some b := rfl
theorem isInst_of {c : Cl} {d : D} (h : d.isPy = true) : isInst c d = some (isIn c d) := by simp [isInst, gd, h]
theorem str_len (x : Str) : x.length = x.cps.toList.length := by
  show x.cps.size = _
  simp
theorem str_ext {x y : Str} (h : x.cps.toList = y.cps.toList) : x = y := by
  obtain ⟨a⟩ := x
  obtain ⟨b⟩ := y
  simp only [Str.mk.injEq]
  exact Array.toList_inj.mp h
theorem str_nil {x : Str} : x = ("" : Str) ↔ x.cps.toList = [] := by
  constructor
  · intro h; subst h; decide +kernel
  · intro h; exact str_ext (by rw [h]; decide +kernel)

/-! ## equal as they are shown -/
theorem eqv_self {d : D} (h : d.plain = true) : D.eqv d d = true := by
  have go : ∀ d : D, d.plain = true → d.py.plain = true := by
    intro d
    exact (D.rec (motive_1 := fun d => d.plain = true → d.py.plain = true) (motive_2 := fun ds => D.plains ds = true → PyData.plainAll (D.pys ds) = true) (motive_3 := fun _ => True) (motive_4 := fun _ => True)
      (fun _ => rfl) (fun _ _ => rfl) (fun _ _ => rfl) (fun _ _ => rfl)
      (fun ds ih h => by simp only [plain_tup] at h; simpa only [D.py, PyData.plain] using ih h) (fun ds ih h => by simp only [plain_lst] at h; simpa only [D.py, PyData.plain] using ih h)
      (fun _ _ h => by simp [D.plain] at h) (fun _ h => by simp [D.plain] at h) (fun _ h => by simp [D.plain] at h) (fun _ h => by simp [D.plain] at h)
      (fun _ => rfl) (fun d ds i1 i2 h => by simp only [plains_cons, Bool.and_eq_true] at h; simp only [D.pys, PyData.plainAll, i1 h.1, i2 h.2]; rfl) trivial (fun _ _ _ _ => trivial) (fun _ _ _ _ => trivial) d)
  exact PySem.SeqAt.eqv_refl_plain _ (go d h)
/-- it can be shown and compared -/
def D.shows (d : D) : Bool := d.plain && d.py.showable && decide (d.py.shown.length + 40 ≤ sizeLine) && d.shal
theorem repr_of {d : D} (h : d.shows = true) : opBif .repr d = some (.frz (.str d.py.shown)) := by
  simp only [D.shows, Bool.and_eq_true] at h
  simp [opBif, gd, h.1.1.1, h.1.1.2, h.1.2, h.2]
theorem cmp_eq_self {d : D} (h : d.shows = true) : opCmp .eq d d = some true := by
  simp only [D.shows, Bool.and_eq_true] at h
  simp [opCmp, eqOk, h.1.1.1, h.2, eqv_self h.1.1.1]
end PM

namespace PM
open PySem TL NumText

/-! ## values of rows and their texts, plainly -/
abbrev cs (x : Str) : List Nat := x.cps.toList
def isLow (c : Nat) : Bool := decide (c ∈ (Str.ofString "abcdefghijklmnopqrstuvwxyz").cps.toList)
def isFig (c : Nat) : Bool := decide (c ∈ (Str.ofString "0123456789").cps.toList)
theorem isLow_iff {c : Nat} : isLow c = true ↔ 97 ≤ c ∧ c ≤ 122 := by
  have e : (Str.ofString "abcdefghijklmnopqrstuvwxyz").cps.toList = (List.range 26).map (97 + ·) := by decide +kernel
  unfold isLow
  rw [decide_eq_true_eq, e]
  simp only [List.mem_map, List.mem_range]
  constructor
  · rintro ⟨a, h, rfl⟩; omega
  · intro h; exact ⟨c - 97, by omega, by omega⟩
theorem isFig_iff {c : Nat} : isFig c = true ↔ 48 ≤ c ∧ c ≤ 57 := by
  have e : (Str.ofString "0123456789").cps.toList = (List.range 10).map (48 + ·) := by decide +kernel
  unfold isFig
  rw [decide_eq_true_eq, e]
  simp only [List.mem_map, List.mem_range]
  constructor
  · rintro ⟨a, h, rfl⟩; omega
  · intro h; exact ⟨c - 48, by omega, by omega⟩
theorem figs_iff {l : List Nat} : l.all isFig = true ↔ AllDigits l := by
  simp only [List.all_eq_true, isFig_iff, AllDigits]
def lettersOk (most : Int) : D → Bool
  | .str x => !decide (x = "") && (!decide (most < (x.length : Int)) && (cs x).all isLow)
  | _ => false
def isWhole : D → Bool
  | .int _ => true
  | _ => false
def between (lo hi : Int) : D → Bool
  | .int i => decide (lo ≤ i) && decide (i ≤ hi)
  | _ => false
def valOk (d : D) : Bool := between (-9999) 9999 d || lettersOk 8 d
def valsOk : D → Bool
  | .tup ds => ds.all valOk
  | _ => false
/-- the text of a value -/
def vtext : D → List Nat
  | .int i => if i < 0 then 45 :: numL (-i).toNat else numL i.toNat
  | .str x => cs x
  | _ => []
def pnum (w : List Nat) (lo hi : Int) : Option Int :=
  if w = [] ∨ 100 < w.length ∨ w.all isFig = false then none else
  if 1 < w.length ∧ w.head? = some 48 then none else
  if lo ≤ (digitsVal w : Int) ∧ (digitsVal w : Int) ≤ hi then some (digitsVal w : Int) else none
def isNm (w : List Nat) : Bool := !decide (w = []) && (!decide (8 < w.length) && w.all isLow)
/-- the value with a text -/
def vfrom (w : List Nat) : Option D :=
  if isNm w then some (.str ⟨w.toArray⟩) else
  if w.head? = some 45 then (pnum w.tail 1 9999).map fun n => .int (0 - n) else
  (pnum w 0 9999).map .int
theorem numL_head {n : Nat} (h : 0 < n) : ∃ c r, numL n = c :: r ∧ 49 ≤ c := by
  induction n using Nat.strongRecOn with
  | _ n ih =>
    by_cases h10 : n < 10
    · rw [numL_lt h10]; exact ⟨48 + n, [], rfl, by omega⟩
    · obtain ⟨c, r, e, hc⟩ := ih (n / 10) (by omega) (by omega)
      rw [numL_step (by omega), e]
      exact ⟨c, _, rfl, hc⟩
theorem lettersOk_str {m : Int} {x : Str} : lettersOk m (.str x) = true ↔ cs x ≠ [] ∧ (x.length : Int) ≤ m ∧ ∀ c ∈ cs x, 97 ≤ c ∧ c ≤ 122 := by
  simp only [lettersOk, Bool.and_eq_true, Bool.not_eq_true', decide_eq_false_iff_not, List.all_eq_true, isLow_iff, str_nil]
  constructor
  · rintro ⟨a, b, c⟩; exact ⟨a, by omega, c⟩
  · rintro ⟨a, b, c⟩; exact ⟨a, by omega, c⟩
theorem isNm_iff {w : List Nat} : isNm w = true ↔ lettersOk 8 (.str ⟨w.toArray⟩) = true := by
  have hl : (⟨w.toArray⟩ : Str).length = w.length := by rw [str_len]
  rw [lettersOk_str]
  simp only [isNm, Bool.and_eq_true, Bool.not_eq_true', decide_eq_false_iff_not, List.all_eq_true, isLow_iff]
  constructor
  · rintro ⟨a, b, c⟩; exact ⟨a, by omega, c⟩
  · rintro ⟨a, b, c⟩; exact ⟨a, by omega, c⟩
theorem valOk_cases {v : D} (h : valOk v = true) : (∃ i : Int, v = .int i ∧ -9999 ≤ i ∧ i ≤ 9999) ∨ ∃ x, v = .str x ∧ lettersOk 8 (.str x) = true := by
  cases v with
  | int i =>
    simp only [valOk, between, lettersOk, Bool.or_false, Bool.and_eq_true, decide_eq_true_eq] at h
    exact .inl ⟨i, rfl, h⟩
  | str x =>
    simp only [valOk, between, Bool.false_or] at h
    exact .inr ⟨x, rfl, h⟩
  | _ => simp [valOk, between, lettersOk] at h
theorem pnum_numL {n : Nat} {lo hi : Int} (h : n ≤ 9999) (h1 : lo ≤ n) (h2 : (n : Int) ≤ hi) : pnum (numL n) lo hi = some (n : Int) := by
  have hl : (numL n).length ≤ 4 := numL_len (by decide) (by omega)
  have hf : (numL n).all isFig = true := figs_iff.mpr (numL_digits n)
  unfold pnum
  rw [if_neg (by rintro (z | z | z); exact numL_ne n z; omega; rw [hf] at z; cases z), if_neg, numL_val, if_pos ⟨h1, h2⟩]
  rintro ⟨z1, z2⟩
  by_cases h0 : n = 0
  · subst h0; rw [numL_lt (by decide)] at z1; simp at z1
  · obtain ⟨c, r, e, hc⟩ := numL_head (n := n) (by omega)
    rw [e] at z2
    simp only [List.head?_cons, Option.some.injEq] at z2
    omega
theorem numL_of {w : List Nat} {lo hi n : Int} (h : pnum w lo hi = some n) : 0 ≤ n ∧ numL n.toNat = w ∧ lo ≤ n ∧ n ≤ hi ∧ AllDigits w ∧ w ≠ [] := by
  unfold pnum at h
  split at h
  · cases h
  · rename_i q
    split at h
    · cases h
    · rename_i q2
      split at h
      · rename_i q3
        cases h
        have hf : AllDigits w := figs_iff.mp (by
          cases z : w.all isFig
          · exact absurd (.inr (.inr z)) q
          · rfl)
        have hne : w ≠ [] := fun z => q (.inl z)
        refine ⟨by omega, ?_, q3.1, q3.2, hf, hne⟩
        show (Nat.toDigits 10 (Int.toNat (digitsVal w : Int))).map Char.toNat = w
        rw [Int.toNat_natCast]
        obtain ⟨c, r, e⟩ := List.exists_cons_of_ne_nil hne
        rw [toDigits_digitsVal r.length w (by rw [e]; rfl) hf (by
          by_cases z : r.length = 0
          · exact .inl z
          · refine .inr ⟨c, r, e, ?_⟩
            have hc := hf c (by rw [e]; exact List.mem_cons_self ..)
            have : c ≠ 48 := fun z2 => q2 ⟨by rw [e, List.length_cons]; omega, by rw [e, z2]; rfl⟩
            omega), List.map_map]
        have go : ∀ l : List Nat, AllDigits l → l.map (Char.toNat ∘ Char.ofNat) = l := by
          intro l
          induction l with
          | nil => intro _; rfl
          | cons d l ih =>
            intro hd
            have h1 := hd.head
            rw [List.map_cons, ih hd.tail]
            have : (Char.toNat ∘ Char.ofNat) d = d := by
              have go2 : ∀ k, k < 58 → (Char.toNat (Char.ofNat k)) = k := by decide
              exact go2 d (by omega)
            rw [this]
        exact go w hf
      · cases h
/-- read, what was written -/
theorem vfrom_vtext {v : D} (h : valOk v = true) : vfrom (vtext v) = some v := by
  rcases valOk_cases h with ⟨i, rfl, h1, h2⟩ | ⟨x, rfl, hx⟩
  · have nl : ∀ l : List Nat, (∃ c r, l = c :: r ∧ c < 97) → isNm l = false := fun l ⟨c, r, e, hc⟩ => by
      cases z : isNm l with
      | false => rfl
      | true =>
        have := (lettersOk_str.mp (isNm_iff.mp z)).2.2 c (by rw [e]; exact List.mem_cons_self ..)
        omega
    have dg : ∀ n : Nat, ∃ c r, numL n = c :: r ∧ 48 ≤ c ∧ c ≤ 57 := fun n => by
      obtain ⟨c, r, e⟩ := List.exists_cons_of_ne_nil (numL_ne n)
      exact ⟨c, r, e, numL_digits n c (by rw [e]; exact List.mem_cons_self ..)⟩
    by_cases hi : i < 0
    · simp only [vtext, if_pos hi, vfrom]
      rw [nl _ ⟨45, _, rfl, by omega⟩]
      simp only [Bool.false_eq_true, if_false, List.head?_cons, if_true, List.tail_cons]
      rw [pnum_numL (by omega) (by omega) (by omega)]
      simp only [Option.map_some, Option.some.injEq, D.int.injEq]
      omega
    · simp only [vtext, if_neg hi, vfrom]
      obtain ⟨c, r, e, h3, h4⟩ := dg i.toNat
      rw [nl _ ⟨c, r, e, by omega⟩]
      have ne : (numL i.toNat).head? ≠ some 45 := by rw [e]; simp only [List.head?_cons, ne_eq, Option.some.injEq]; omega
      simp only [Bool.false_eq_true, if_false, if_neg ne]
      rw [pnum_numL (by omega) (by omega) (by omega)]
      simp only [Option.map_some, Option.some.injEq, D.int.injEq]
      omega
  · have e : (⟨(cs x).toArray⟩ : Str) = x := str_ext rfl
    show vfrom (cs x) = _
    unfold vfrom
    rw [if_pos (isNm_iff.mpr (by rw [e]; exact hx)), e]
theorem vtext_vfrom {w : List Nat} {v : D} (h : vfrom w = some v) : vtext v = w ∧ valOk v = true := by
  unfold vfrom at h
  split at h
  · rename_i q
    cases h
    refine ⟨by simp only [vtext, cs], ?_⟩
    simp only [valOk, between, Bool.false_or]
    exact isNm_iff.mp q
  · split at h
    · rename_i q
      obtain ⟨n, hn, rfl⟩ := Option.map_eq_some_iff.mp h
      obtain ⟨h0, h1, h2, h3, h4, h5⟩ := numL_of hn
      refine ⟨?_, by simp only [valOk, between, lettersOk, Bool.or_false, Bool.and_eq_true, decide_eq_true_eq]; omega⟩
      simp only [vtext]
      rw [if_pos (by omega), show (-(0 - n)).toNat = n.toNat by omega, h1]
      cases w with
      | nil => simp at q
      | cons c r => simp only [List.head?_cons, Option.some.injEq] at q; rw [q]; rfl
    · obtain ⟨n, hn, rfl⟩ := Option.map_eq_some_iff.mp h
      obtain ⟨h0, h1, h2, h3, h4, h5⟩ := numL_of hn
      refine ⟨?_, by simp only [valOk, between, lettersOk, Bool.or_false, Bool.and_eq_true, decide_eq_true_eq]; omega⟩
      simp only [vtext]
      rw [if_neg (by omega), h1]
/-- what a law's own reading makes of a word -/
def lfig (w : List Nat) : List Nat := if w.head? = some 45 then w.tail else w
def lnum (w : List Nat) : Bool := !decide (lfig w = []) && (decide ((lfig w).length < 5) && (lfig w).all isFig)
def lint (w : List Nat) : Int := if w.head? = some 45 then -(digitsVal w.tail : Int) else (digitsVal w : Int)
def lawc (w : List Nat) : D := if lnum w then .int (lint w) else .str ⟨w.toArray⟩
theorem lawc_vtext {v : D} (h : valOk v = true) : lawc (vtext v) = v := by
  rcases valOk_cases h with ⟨i, rfl, h1, h2⟩ | ⟨x, rfl, hx⟩
  · by_cases hi : i < 0
    · have hl : (numL (-i).toNat).length ≤ 4 := numL_len (by decide) (by omega)
      have hf : (numL (-i).toNat).all isFig = true := figs_iff.mpr (numL_digits _)
      have e : lnum (45 :: numL (-i).toNat) = true := by
        simp only [lnum, lfig, List.head?_cons, if_true, List.tail_cons, hf, Bool.and_true, Bool.and_eq_true, Bool.not_eq_true', decide_eq_false_iff_not, decide_eq_true_eq]
        exact ⟨numL_ne _, by omega⟩
      simp only [vtext, if_pos hi, lawc, e, if_true, lint, List.head?_cons, List.tail_cons, numL_val, D.int.injEq]
      omega
    · have hl : (numL i.toNat).length ≤ 4 := numL_len (by decide) (by omega)
      have hf : (numL i.toNat).all isFig = true := figs_iff.mpr (numL_digits _)
      have ne : (numL i.toNat).head? ≠ some 45 := fun z => by
        cases q : numL i.toNat with
        | nil => rw [q] at z; cases z
        | cons c r =>
          rw [q] at z
          simp only [List.head?_cons, Option.some.injEq] at z
          have := numL_digits i.toNat c (by rw [q]; exact List.mem_cons_self ..)
          omega
      have e : lnum (numL i.toNat) = true := by
        simp only [lnum, lfig, if_neg ne, hf, Bool.and_true, Bool.and_eq_true, Bool.not_eq_true', decide_eq_false_iff_not, decide_eq_true_eq]
        exact ⟨numL_ne _, by omega⟩
      simp only [vtext, if_neg hi, lawc, e, if_true, lint, if_neg ne, numL_val, D.int.injEq]
      omega
  · have e : (⟨(cs x).toArray⟩ : Str) = x := str_ext rfl
    obtain ⟨x1, x2, x3⟩ := lettersOk_str.mp hx
    have ne : (cs x).head? ≠ some 45 := fun z => by
      cases q : cs x with
      | nil => rw [q] at z; cases z
      | cons c r =>
        rw [q] at z
        simp only [List.head?_cons, Option.some.injEq] at z
        have := x3 c (by rw [q]; exact List.mem_cons_self ..)
        omega
    have e2 : lnum (cs x) = false := by
      cases z : lnum (cs x) with
      | false => rfl
      | true =>
        simp only [lnum, lfig, if_neg ne, Bool.and_eq_true] at z
        obtain ⟨c, r, q⟩ := List.exists_cons_of_ne_nil x1
        have a := isFig_iff.mp (List.all_eq_true.mp z.2.2 c (by rw [q]; exact List.mem_cons_self ..))
        have b := x3 c (by rw [q]; exact List.mem_cons_self ..)
        omega
    simp only [vtext, lawc, e2, Bool.false_eq_true, if_false, e]
/-- no blank in a value's text, and some sign -/
theorem vtext_free {v : D} (h : valOk v = true) : 32 ∉ vtext v ∧ vtext v ≠ [] ∧ (vtext v).length ≤ 8 ∧ vtext v ≠ [45] := by
  rcases valOk_cases h with ⟨i, rfl, h1, h2⟩ | ⟨x, rfl, hx⟩
  · by_cases hi : i < 0
    · have hl : (numL (-i).toNat).length ≤ 4 := numL_len (by decide) (by omega)
      simp only [vtext, if_pos hi]
      refine ⟨?_, by simp, by simp; omega, fun z => ?_⟩
      · intro z
        rcases List.mem_cons.mp z with z | z
        · cases z
        · exact numL_free (.inl (by decide)) z
      · injection z with _ z
        exact numL_ne _ z
    · have hl : (numL i.toNat).length ≤ 4 := numL_len (by decide) (by omega)
      simp only [vtext, if_neg hi]
      refine ⟨numL_free (.inl (by decide)), numL_ne _, by omega, fun z => ?_⟩
      have := numL_digits i.toNat 45 (by rw [z]; exact List.mem_cons_self ..)
      omega
  · obtain ⟨x1, x2, x3⟩ := lettersOk_str.mp hx
    rw [str_len] at x2
    simp only [vtext]
    refine ⟨fun z => ?_, x1, by show x.cps.toList.length ≤ 8; omega, fun z => ?_⟩
    · have := x3 32 z; omega
    · have := x3 45 (by rw [z]; exact List.mem_cons_self ..); omega
end PM

namespace PM
open PySem TL NumText

/-! ## loops -/
theorem for_inv {bnd : D → En → Option En} {body : En → Out Fl} (I : List D → En → Prop) : ∀ (ds pre : List D) (en : En), (∀ (pre : List D) (d : D) (en : En), d ∈ ds → I pre en → ∃ en1 en2 fl, bnd d en = some en1 ∧ body en1 = .ok fl en2 ∧ (fl = .nx ∨ fl = .ct) ∧ I (pre ++ [d]) en2) →
    I pre en → ∃ en', forGo bnd body ds en = .ok .nx en' ∧ I (pre ++ ds) en'
  | [], pre, en, _, h => ⟨en, rfl, by simpa using h⟩
  | d :: ds, pre, en, st, h => by
    obtain ⟨en1, en2, fl, h1, h2, h3, h4⟩ := st pre d en (List.mem_cons_self ..) h
    obtain ⟨en', r1, r2⟩ := for_inv I ds (pre ++ [d]) en2 (fun p x e hx => st p x e (List.mem_cons_of_mem _ hx)) h4
    refine ⟨en', ?_, by simpa using r2⟩
    simp only [forGo, h1, h2, bnd_ok]
    rcases h3 with rfl | rfl <;> exact r1
/-- a loop that may leave by a return -/
theorem for_ret {bnd : D → En → Option En} {body : En → Out Fl} {ds : List D} {d : D} {en en1 en2 : En} {o : OV} (h1 : bnd d en = some en1) (h2 : body en1 = .ok (.ret o) en2) : forGo bnd body (d :: ds) en = .ok (.ret o) en2 := by
  simp only [forGo, h1, h2, bnd_ok]
theorem for_nx {bnd : D → En → Option En} {body : En → Out Fl} {ds : List D} {d : D} {en en1 en2 : En} (h1 : bnd d en = some en1) (h2 : body en1 = .ok .nx en2) : forGo bnd body (d :: ds) en = forGo bnd body ds en2 := by
  simp only [forGo, h1, h2, bnd_ok]
@[simp] theorem for_nil {bnd : D → En → Option En} {body : En → Out Fl} {en : En} : forGo bnd body [] en = .ok .nx en := rfl

/-! ## the values with a text -/
def words (x : Str) : List Str := Txt.split x " "
def vsfrom (x : Str) : Option (List D) := if x = "-" then some [] else if ((words x).map fun w => vfrom (cs w)).all (·.isSome) then some (((words x).map fun w => vfrom (cs w)).filterMap id) else none
def optD : Option D → D
  | none => .non
  | some d => d
theorem optD_val {w : List Nat} {v : D} (h : vfrom w = some v) : (optD (vfrom w)) = v := by rw [h]; rfl
theorem val_plain {v : D} (h : valOk v = true) : v.plain = true ∧ D.eqv v .non = false ∧ v.shal = true ∧ v.isPy = true := by
  rcases valOk_cases h with ⟨i, rfl, _⟩ | ⟨x, rfl, _⟩ <;> simp [D.eqv, D.py, PyData.eqv]
theorem words_short {x w : Str} (h : w ∈ words x) : w.length ≤ x.length := PyProof.Rows.part_short h
theorem words_free {x w : Str} (h : w ∈ words x) : 32 ∉ cs w := by
  have e : (" " : Str) = ⟨#[32]⟩ := by decide +kernel
  unfold words at h
  rw [e] at h
  exact StrLaws.split_free x 32 w h
theorem words_join (x : Str) : Txt.join " " (words x) = x := by
  rw [TL.join_eq]
  exact StrLaws.join_split x " "
theorem words_of {l : List Str} (hne : l ≠ []) (hf : ∀ p ∈ l, 32 ∉ cs p) : words (Txt.join " " l) = l :=
  TL.split_join (y := " ") (s := 32) (S := []) (by decide +kernel) (by decide +kernel) hne hf
theorem words_ne (x : Str) : words x ≠ [] := fun h => by
  have := PyProof.Rows.split_pos x " "
  rw [show Txt.split x " " = words x from rfl, h] at this
  simp at this
def vstr (v : D) : Str := ⟨(vtext v).toArray⟩
theorem cs_vstr (v : D) : cs (vstr v) = vtext v := by simp [cs, vstr]
/-- the text of values -/
def vstext : List D → Str
  | [] => "-"
  | vs => Txt.join " " (vs.map vstr)
theorem vstext_cons {v : D} {vs : List D} : vstext (v :: vs) = Txt.join " " ((v :: vs).map vstr) := rfl
theorem join_one_ne {l : List Str} (hne : l ≠ []) (h : ∀ p ∈ l, 32 ∉ cs p ∧ cs p ≠ [] ∧ cs p ≠ [45]) : Txt.join " " l ≠ ("-" : Str) := fun e => by
  have w := words_of hne fun p hp => (h p hp).1
  rw [e] at w
  have e2 : words ("-" : Str) = [("-" : Str)] := by decide +kernel
  rw [e2] at w
  exact (h "-" (by rw [← w]; exact List.mem_cons_self ..)).2.2 (by decide +kernel)
theorem vsfrom_vstext {vs : List D} (h : ∀ v ∈ vs, valOk v = true) : vsfrom (vstext vs) = some vs := by
  cases vs with
  | nil => unfold vsfrom vstext; rw [if_pos rfl]
  | cons v vs =>
    have hne : (v :: vs).map vstr ≠ [] := by simp
    have hp : ∀ p ∈ (v :: vs).map vstr, 32 ∉ cs p ∧ cs p ≠ [] ∧ cs p ≠ [45] := fun p hp => by
      obtain ⟨u, hu, rfl⟩ := List.mem_map.mp hp
      have := vtext_free (h u hu)
      rw [cs_vstr]
      exact ⟨this.1, this.2.1, this.2.2.2⟩
    have e : ((words (vstext (v :: vs))).map fun w => vfrom (cs w)) = (v :: vs).map some := by
      rw [vstext_cons, words_of hne fun p q => (hp p q).1, List.map_map]
      exact List.map_congr_left fun u hu => by
        show vfrom (cs (vstr u)) = some u
        rw [cs_vstr, vfrom_vtext (h u hu)]
    unfold vsfrom
    rw [if_neg (show ¬ vstext (v :: vs) = "-" from join_one_ne hne hp), e, if_pos (by simp)]
    simp
theorem vstext_vsfrom {x : Str} {vs : List D} (h : vsfrom x = some vs) : vstext vs = x ∧ ∀ v ∈ vs, valOk v = true := by
  unfold vsfrom at h
  split at h
  · rename_i q
    cases h
    exact ⟨q.symm, fun v hv => by cases hv⟩
  · split at h
    · rename_i q2
      cases h
      have q3 : ∀ w ∈ words x, ∃ v, vfrom (cs w) = some v := fun w hw => by
        have := List.all_eq_true.mp q2 _ (List.mem_map.mpr ⟨w, hw, rfl⟩)
        exact Option.isSome_iff_exists.mp this
      have go : ∀ l : List Str, (∀ w ∈ l, ∃ v, vfrom (cs w) = some v) → ((l.map fun w => vfrom (cs w)).filterMap id).map vstr = l ∧ ∀ v ∈ (l.map fun w => vfrom (cs w)).filterMap id, valOk v = true := by
        intro l
        induction l with
        | nil => intro _; exact ⟨rfl, fun v hv => by cases hv⟩
        | cons w l ih =>
          intro hl
          obtain ⟨v, hv⟩ := hl w (List.mem_cons_self ..)
          obtain ⟨i1, i2⟩ := ih fun z hz => hl z (List.mem_cons_of_mem _ hz)
          obtain ⟨t1, t2⟩ := vtext_vfrom hv
          simp only [List.map_cons, hv, List.filterMap_cons, id_eq]
          refine ⟨by rw [i1]; congr 1; exact str_ext (by show cs (vstr v) = cs w; rw [cs_vstr]; exact t1), fun u hu => ?_⟩
          rcases List.mem_cons.mp hu with rfl | hu
          · exact t2
          · exact i2 u hu
      obtain ⟨g1, g2⟩ := go _ q3
      refine ⟨?_, g2⟩
      cases hvs : ((words x).map fun w => vfrom (cs w)).filterMap id with
      | nil => rw [hvs] at g1; exact absurd g1.symm (words_ne x)
      | cons v vs => rw [vstext_cons, ← hvs, g1, words_join]
    · cases h
/-- a law's own reading -/
def lread (x : Str) : Option (List D) := if x = "-" then some [] else
  if ((words x).map fun w => lawc (cs w)).all valOk = true ∧ vstext ((words x).map fun w => lawc (cs w)) = x then some ((words x).map fun w => lawc (cs w)) else none
theorem lread_eq (x : Str) : lread x = vsfrom x := by
  cases h : vsfrom x with
  | some vs =>
    obtain ⟨h1, h2⟩ := vstext_vsfrom h
    unfold lread
    split
    · rename_i q
      unfold vsfrom at h
      rw [if_pos q] at h
      exact h
    · rename_i q
      have e : ((words x).map fun w => lawc (cs w)) = vs := by
        cases vs with
        | nil => exact absurd h1.symm q
        | cons v vs =>
          rw [vstext_cons] at h1
          rw [← h1, words_of (by simp) (fun p hp => by
            obtain ⟨u, hu, rfl⟩ := List.mem_map.mp hp
            rw [cs_vstr]
            exact (vtext_free (h2 u hu)).1), List.map_map]
          have : ∀ l : List D, (∀ v ∈ l, valOk v = true) → l.map ((fun w => lawc (cs w)) ∘ vstr) = l := fun l => by
            induction l with
            | nil => intro _; rfl
            | cons u l ih =>
              intro hl
              rw [List.map_cons, ih fun z hz => hl z (List.mem_cons_of_mem _ hz)]
              show lawc (cs (vstr u)) :: l = _
              rw [cs_vstr, lawc_vtext (hl u (List.mem_cons_self ..))]
          exact this _ h2
      rw [e, if_pos ⟨List.all_eq_true.mpr h2, h1⟩]
  | none =>
    unfold lread
    split
    · rename_i q
      unfold vsfrom at h
      rw [if_pos q] at h
      cases h
    · split
      · rename_i q q2
        obtain ⟨q3, q4⟩ := q2
        have := vsfrom_vstext (List.all_eq_true.mp q3)
        rw [q4, h] at this
        cases this
      · rfl
end PM

namespace PM
open PySem

/-! ## what can be shown: bounds -/
mutual
/-- small numbers, texts of signs, so deep at most -/
def D.tame : Nat → D → Bool
  | _, .non => true
  | _, .bl _ => true
  | _, .int i => decide (i.natAbs < 10 ^ 60)
  | _, .str x => x.cps.toList.all fun c => decide (c < 1114112)
  | n, .tup ds => (match n with
    | 0 => false
    | n + 1 => D.tames n ds)
  | n, .lst ds => (match n with
    | 0 => false
    | n + 1 => D.tames n ds)
  | _, .dic _ => false
  | _, .fn _ => false
  | _, .cls _ => false
  | _, .ty _ => false
def D.tames : Nat → List D → Bool
  | _, [] => true
  | n, d :: ds => D.tame n d && D.tames n ds
end
mutual
def D.wt : D → Nat
  | .non => 10
  | .bl _ => 10
  | .int _ => 62
  | .str x => 10 * x.length + 2
  | .tup ds => D.wts ds + 4
  | .lst ds => D.wts ds + 4
  | _ => 0
def D.wts : List D → Nat
  | [] => 0
  | d :: ds => D.wt d + 2 + D.wts ds
end
theorem tames_all (n : Nat) : ∀ ds : List D, D.tames n ds = ds.all (D.tame n)
  | [] => by simp only [D.tames, List.all_nil]
  | d :: ds => by simp only [D.tames, List.all_cons, tames_all n ds]
theorem wts_sum : ∀ ds : List D, D.wts ds = (ds.map fun d => D.wt d + 2).sum
  | [] => by simp only [D.wts, List.map_nil, List.sum_nil]
  | d :: ds => by simp only [D.wts, List.map_cons, List.sum_cons, wts_sum ds]
theorem int_shown {i : Int} (h : i.natAbs < 10 ^ 60) : (Str.ofString (toString i)).length ≤ 61 := by
  by_cases h0 : i < 0
  · have a := PyProof.Rows.len_text_negI h0
    have b := PyProof.Rows.toString_length_le (v := 0 - i) (by omega) (k := 60) (by decide) (by omega)
    omega
  · have b := PyProof.Rows.toString_length_le (v := i) (by omega) (k := 60) (by decide) (by omega)
    omega
theorem log_10_60 {n : Nat} (h : n < 10 ^ 60) : n.log2 < 1920 := by
  by_cases h0 : n = 0
  · rw [h0]; decide
  · exact (Nat.log2_lt h0).mpr (Nat.lt_trans h (by decide +kernel))
theorem tupleText_le (ts : List Str) : (tupleText ts).length ≤ piled ts + 4 := by
  unfold tupleText
  rw [Str.length_append, Str.length_append]
  have e1 : Str.length ("(" : Str) = 1 := by decide +kernel
  have e2 : ∀ b : Bool, (Str.ofString (if b = true then ",)" else ")")).length ≤ 2 := fun b => by cases b <;> decide +kernel
  have e3 := e2 (ts.length == 1)
  cases ts with
  | nil =>
    have : (Str.join ", " ([] : List Str)).length = 0 := by decide +kernel
    simp only [e1, this]
    omega
  | cons t ts =>
    have := join_length_add (t :: ts) (by simp)
    omega
theorem listText_le (ts : List Str) : (listText ts).length ≤ piled ts + 4 := by
  unfold listText
  rw [Str.length_append]
  have e1 : Str.length ("]" : Str) = 1 := by decide +kernel
  have e2 : Str.length ("[" : Str) = 1 := by decide +kernel
  cases ts with
  | nil =>
    show (Str.length ("[" : Str)) + _ ≤ _
    omega
  | cons t r =>
    have h := textFrom_length_pos r 1 (("[" : Str) ++ (if (0 : Nat) > 0 then ", " else "" : String) ++ t) (Nat.succ_pos 0)
    have e : ((("[" : Str) ++ (if (0 : Nat) > 0 then ", " else "" : String) ++ t)).length = 1 + t.length := by
      rw [Str.length_append, Str.length_append, e2]
      rfl
    have hY : (textFrom 0 "[" (t :: r)).length = (textFrom 1 (("[" : Str) ++ (if (0 : Nat) > 0 then ", " else "" : String) ++ t) r).length := rfl
    rw [hY, h, e, piled_cons, e1]
    omega
structure ShowB (n : Nat) (d : D) : Prop where
  plain : d.plain = true
  show_ : d.py.showable = true
  len : d.py.shown.length ≤ d.wt
  deep : d.py.depth ≤ n
structure ShowBs (n : Nat) (ds : List D) : Prop where
  plain : D.plains ds = true
  show_ : PyData.showableAll (D.pys ds) = true
  len : piled (PyData.shownAll (D.pys ds)) ≤ D.wts ds
  deep : PyData.depthAll (D.pys ds) ≤ n
mutual
theorem tame_ok : ∀ (n : Nat) (d : D), d.tame n = true → ShowB n d
  | _, .non, _ => ⟨rfl, rfl, by decide +kernel, Nat.zero_le _⟩
  | _, .bl b, _ => ⟨rfl, rfl, by cases b <;> decide +kernel, Nat.zero_le _⟩
  | _, .int i, h => by
    simp only [D.tame, decide_eq_true_eq] at h
    refine ⟨rfl, ?_, ?_, Nat.zero_le _⟩
    · simp only [D.py, PyData.showable]
      exact decide_eq_true (log_10_60 h)
    · have := int_shown h
      simp only [D.py, PyData.shown, D.wt]
      omega
  | _, .str x, h => by
    simp only [D.tame, List.all_eq_true, decide_eq_true_eq] at h
    refine ⟨rfl, by simp only [D.py, PyData.showable], ?_, Nat.zero_le _⟩
    simp only [D.py, PyData.shown, D.wt]
    exact StrLaws.reprText_len x fun c hc => Nat.lt_of_lt_of_le (h c hc) (by decide)
  | 0, .tup ds, h => by simp [D.tame] at h
  | n + 1, .tup ds, h => by
    simp only [D.tame] at h
    have s := tames_ok n ds h
    refine ⟨by rw [plain_tup]; exact s.plain, by simp only [D.py, PyData.showable]; exact s.show_, ?_, ?_⟩
    · simp only [D.py, PyData.shown, D.wt]
      have := tupleText_le (PyData.shownAll (D.pys ds))
      have := s.len
      omega
    · simp only [D.py, PyData.depth]
      have := s.deep
      omega
  | 0, .lst ds, h => by simp [D.tame] at h
  | n + 1, .lst ds, h => by
    simp only [D.tame] at h
    have s := tames_ok n ds h
    refine ⟨by rw [plain_lst]; exact s.plain, by simp only [D.py, PyData.showable]; exact s.show_, ?_, ?_⟩
    · simp only [D.py, PyData.shown, D.wt]
      have := listText_le (PyData.shownAll (D.pys ds))
      have := s.len
      omega
    · simp only [D.py, PyData.depth]
      have := s.deep
      omega
  | _, .dic _, h => by simp [D.tame] at h
  | _, .fn _, h => by simp [D.tame] at h
  | _, .cls _, h => by simp [D.tame] at h
  | _, .ty _, h => by simp [D.tame] at h
theorem tames_ok : ∀ (n : Nat) (ds : List D), D.tames n ds = true → ShowBs n ds
  | n, [], _ => ⟨rfl, rfl, Nat.le_refl _, Nat.zero_le _⟩
  | n, d :: ds, h => by
    simp only [D.tames, Bool.and_eq_true] at h
    have a := tame_ok n d h.1
    have b := tames_ok n ds h.2
    refine ⟨by rw [plains_cons, a.plain, b.plain]; rfl, by simp only [D.pys, PyData.showableAll, a.show_, b.show_]; rfl, ?_, ?_⟩
    · simp only [D.pys, PyData.shownAll, piled_cons, D.wts]
      have := a.len
      have := b.len
      omega
    · simp only [D.pys, PyData.depthAll]
      have := a.deep
      have := b.deep
      omega
end
theorem shows_of {d : D} {n : Nat} (h : d.tame n = true) (hn : n ≤ 60) (hw : d.wt + 40 ≤ sizeLine) : d.shows = true := by
  have s := tame_ok n d h
  have h1 := s.len
  have h2 := s.deep
  unfold D.shows
  rw [s.plain, s.show_, decide_eq_true (show d.py.shown.length + 40 ≤ sizeLine by omega), show d.shal = true from decide_eq_true (show d.depth ≤ 60 by unfold D.depth; omega)]
  rfl
/-- the values of rows -/
theorem tame_val {n : Nat} {v : D} (h : valOk v = true) : v.tame n = true ∧ v.wt ≤ 90 := by
  rcases valOk_cases h with ⟨i, rfl, h1, h2⟩ | ⟨x, rfl, hx⟩
  · refine ⟨?_, by simp only [D.wt]; omega⟩
    simp only [D.tame, decide_eq_true_eq]
    have : (9999 : Nat) < 10 ^ 60 := by decide
    omega
  · obtain ⟨x1, x2, x3⟩ := lettersOk_str.mp hx
    refine ⟨?_, by simp only [D.wt]; omega⟩
    simp only [D.tame, List.all_eq_true, decide_eq_true_eq]
    intro c hc
    have := x3 c hc
    omega
theorem tame_vals {n : Nat} : ∀ {vs : List D}, (∀ v ∈ vs, valOk v = true) → D.tames n vs = true ∧ D.wts vs ≤ 92 * vs.length
  | [], _ => ⟨rfl, Nat.zero_le _⟩
  | v :: vs, h => by
    obtain ⟨a, b⟩ := tame_val (n := n) (h v (List.mem_cons_self ..))
    obtain ⟨c, d⟩ := tame_vals (n := n) (vs := vs) fun u hu => h u (List.mem_cons_of_mem _ hu)
    refine ⟨by simp only [D.tames, a, c, Bool.and_self], ?_⟩
    simp only [D.wts, List.length_cons]
    omega
end PM

namespace PM
open PySem PyProof.Rows PySem.W TL

/-! ## the turn of values and of tuples of values -/
theorem int_vstr (i : Int) : Str.ofString (toString i : String) = vstr (.int i) := by
  refine str_ext ?_
  show _ = cs (vstr (.int i))
  rw [cs_vstr]
  simp only [vtext]
  by_cases h : i < 0
  · rw [if_pos h, PyProof.Rows.toString_neg h]
    have e : 0 - i = (((-i).toNat : Nat) : Int) := by omega
    rw [e]
    have go : (Str.ofString ("-" ++ toString (((-i).toNat : Nat) : Int))).cps.toList = 45 :: (Str.ofString (toString (((-i).toNat : Nat) : Int))).cps.toList := by
      rw [Str.ofString_eq_toList, Str.ofString_eq_toList, String.toList_append]
      rfl
    rw [go]
    congr 1
    exact tl_num _
  · rw [if_neg h]
    have e : i = ((i.toNat : Nat) : Int) := by omega
    rw [e, Int.toNat_natCast]
    exact tl_num _
theorem printable_low {c : Nat} (h : 97 ≤ c ∧ c ≤ 122) : Unicode.isPrintable c = true := by
  have q : ∀ k < 26, Unicode.isPrintable (97 + k) = true := by decide +kernel
  have := q (c - 97) (by omega)
  rwa [show 97 + (c - 97) = c from by omega] at this
theorem foldl_low (q : Nat) (hq : q = 39 ∨ q = 34) : ∀ (l : List Nat) (acc : Array Nat), (∀ c ∈ l, 97 ≤ c ∧ c ≤ 122) → (l.foldl (fun out c => out ++ (Builtin.Str.reprChar q c).toArray) acc).toList = acc.toList ++ l
  | [], acc, _ => by simp
  | c :: l, acc, h => by
    have hc := h c (List.mem_cons_self ..)
    have e : Builtin.Str.reprChar q c = [c] := by
      unfold Builtin.Str.reprChar
      have h1 : (c == q || c == 92) = false := by
        simp only [Bool.or_eq_false_iff, beq_eq_false_iff_ne]
        omega
      simp only [h1, Bool.false_eq_true, if_false, printable_low hc, if_true]
      rw [if_neg (by simp only [beq_iff_eq]; omega), if_neg (by simp only [beq_iff_eq]; omega), if_neg (by simp only [beq_iff_eq]; omega)]
    rw [List.foldl_cons, foldl_low q hq l _ (fun d hd => h d (List.mem_cons_of_mem _ hd)), e]
    simp
theorem shown_str {x : Str} (h : ∀ c ∈ cs x, 97 ≤ c ∧ c ≤ 122) : cs (D.str x).py.shown = 39 :: (cs x ++ [39]) := by
  have hq : reprQuote x = 39 := by
    unfold reprQuote
    rw [if_neg]
    intro z
    simp only [Bool.and_eq_true, Array.contains_iff_mem] at z
    have := h 39 (Array.mem_toList_iff.mpr z.1)
    omega
  show (reprText x).cps.toList = _
  unfold reprText
  rw [Array.toList_push, ← Array.foldl_toList, foldl_low _ (.inl hq) _ _ h, hq]
  rfl
theorem shown_int {i : Int} : cs (D.int i).py.shown = vtext (.int i) := by
  rw [← cs_vstr, ← int_vstr]
  rfl
theorem vtext_inj {v w : D} (hv : valOk v = true) (hw : valOk w = true) (e : vtext v = vtext w) : v = w := by
  have a := vfrom_vtext hv
  rw [e, vfrom_vtext hw] at a
  exact (Option.some.inj a).symm
/-- values are told apart by how they are shown -/
theorem shown_inj {v w : D} (hv : valOk v = true) (hw : valOk w = true) (e : v.py.shown = w.py.shown) : v = w := by
  have e : cs v.py.shown = cs w.py.shown := by rw [e]
  have ih : ∀ (i : Int), 39 ∉ vtext (.int i) := fun i z => by
    have q : ∀ (n : Nat), 39 ∉ numL n := fun n z => by
      have := numL_digits n 39 z
      omega
    simp only [vtext] at z
    split at z
    · rcases List.mem_cons.mp z with z | z
      · omega
      · exact q _ z
    · exact q _ z
  rcases valOk_cases hv with ⟨i, rfl, _⟩ | ⟨x, rfl, hx⟩ <;> rcases valOk_cases hw with ⟨j, rfl, _⟩ | ⟨y, rfl, hy⟩
  · rw [shown_int, shown_int] at e
    exact vtext_inj hv hw e
  · rw [shown_int, shown_str (lettersOk_str.mp hy).2.2] at e
    exact absurd (e ▸ List.mem_cons_self .. : 39 ∈ vtext (.int i)) (ih i)
  · rw [shown_int, shown_str (lettersOk_str.mp hx).2.2] at e
    exact absurd (e ▸ List.mem_cons_self .. : 39 ∈ vtext (.int j)) (ih j)
  · rw [shown_str (lettersOk_str.mp hx).2.2, shown_str (lettersOk_str.mp hy).2.2] at e
    injection e with _ e
    have : cs x = cs y := List.append_cancel_right e
    rw [str_ext this]

/-! ### tokens -/
def tk (v : D) : List (Int ⊕ List Nat) := keyToks v.py
def tks (vs : List D) : List (Int ⊕ List Nat) := keyToksAll (D.pys vs)
theorem tks_cons {v : D} {vs : List D} : tks (v :: vs) = .inl 1 :: (tk v ++ tks vs) := by
  show keyToksAll (D.pys (v :: vs)) = _
  rw [D.pys, toks_all_cons]
  rfl
theorem tks_nil : tks [] = [.inl 0] := by
  show keyToksAll (D.pys []) = _
  rw [D.pys, keyToksAll]
theorem tk_int {i : Int} : tk (.int i) = [.inl i] := by simp only [tk, D.py, keyToks]
theorem tk_str {x : Str} : tk (.str x) = [.inr (cs x)] := by simp only [tk, D.py, keyToks]
theorem tk_tup {ds : List D} : tk (.tup ds) = tks ds := by simp only [tk, D.py, keyToks, tks]
/-- the token of a value -/
def tk1 (v : D) : Int ⊕ List Nat := match v with
  | .int i => .inl i
  | .str x => .inr (cs x)
  | _ => .inl 0
theorem tk_val {v : D} (h : valOk v = true) : tk v = [tk1 v] := by
  rcases valOk_cases h with ⟨i, rfl, _⟩ | ⟨x, rfl, _⟩
  · exact tk_int
  · exact tk_str
theorem tk1_inj {v w : D} (hv : valOk v = true) (hw : valOk w = true) (e : tk1 v = tk1 w) : v = w := by
  rcases valOk_cases hv with ⟨i, rfl, _⟩ | ⟨x, rfl, _⟩ <;> rcases valOk_cases hw with ⟨j, rfl, _⟩ | ⟨y, rfl, _⟩
  · simp only [tk1, Sum.inl.injEq] at e; rw [e]
  · simp [tk1] at e
  · simp [tk1] at e
  · simp only [tk1, Sum.inr.injEq] at e; rw [str_ext e]
/-- one value ahead of another one -/
def vlt (v w : D) : Bool := itemLt (tk1 v) (tk1 w)
def valsAll (vs : List D) : Prop := ∀ v ∈ vs, valOk v = true
theorem valsAll.tail {v : D} {vs : List D} (h : valsAll (v :: vs)) : valsAll vs := fun u hu => h u (List.mem_cons_of_mem _ hu)
theorem valsAll.head {v : D} {vs : List D} (h : valsAll (v :: vs)) : valOk v = true := h v (List.mem_cons_self ..)
def tlt (vs ws : List D) : Bool := D.lt (.tup vs) (.tup ws)
theorem tlt_eq {vs ws : List D} : tlt vs ws = lexLt itemOrd (tks vs) (tks ws) := by
  show dataLt (D.tup vs).py (D.tup ws).py = _
  simp only [D.py]
  exact dataLt_tuple _ _
theorem tlt_nil_nil : tlt [] [] = false := by rw [tlt_eq]; exact lex_irrefl _
theorem tlt_nil_cons {w : D} {ws : List D} : tlt [] (w :: ws) = true := by
  rw [tlt_eq, tks_nil, tks_cons, lex_diff (O := itemOrd) (by simp)]
  rfl
theorem tlt_cons_nil {w : D} {ws : List D} : tlt (w :: ws) [] = false := by
  rw [tlt_eq, tks_nil, tks_cons, lex_diff (O := itemOrd) (by simp)]
  rfl
theorem tlt_same {v : D} {vs ws : List D} : tlt (v :: vs) (v :: ws) = tlt vs ws := by
  rw [tlt_eq, tlt_eq, tks_cons, tks_cons, lex_self (O := itemOrd), lex_pre]
theorem tlt_diff {v w : D} {vs ws : List D} (hv : valOk v = true) (hw : valOk w = true) (ne : v ≠ w) : tlt (v :: vs) (w :: ws) = vlt v w := by
  rw [tlt_eq, tks_cons, tks_cons, lex_self (O := itemOrd), tk_val hv, tk_val hw]
  exact lex_diff (O := itemOrd) fun e => ne (tk1_inj hv hw e)
theorem tks_inj : ∀ {vs ws : List D}, valsAll vs → valsAll ws → tks vs = tks ws → vs = ws
  | [], [], _, _, _ => rfl
  | [], w :: ws, _, _, e => by rw [tks_nil, tks_cons] at e; simp at e
  | v :: vs, [], _, _, e => by rw [tks_nil, tks_cons] at e; simp at e
  | v :: vs, w :: ws, hv, hw, e => by
    rw [tks_cons, tks_cons, tk_val hv.head, tk_val hw.head] at e
    simp only [List.cons_append, List.nil_append, List.cons.injEq, true_and] at e
    rw [tk1_inj hv.head hw.head e.1, tks_inj hv.tail hw.tail e.2]
theorem tlt_irrefl (vs : List D) : tlt vs vs = false := by rw [tlt_eq]; exact lex_irrefl _
theorem tlt_trans {a b c : List D} (h1 : tlt a b = true) (h2 : tlt b c = true) : tlt a c = true := by
  rw [tlt_eq] at *
  exact lex_trans _ _ _ h1 h2
theorem tlt_total {a b : List D} (ha : valsAll a) (hb : valsAll b) (h1 : tlt a b = false) (h2 : tlt b a = false) : a = b := by
  rw [tlt_eq] at *
  exact tks_inj ha hb (lex_total _ _ h1 h2)
theorem tlt_asymm {a b : List D} (h1 : tlt a b = true) : tlt b a = false := by
  cases h : tlt b a with
  | false => rfl
  | true =>
    have := tlt_trans h1 h
    rw [tlt_irrefl] at this
    cases this

/-! ### what values are turned by -/
def vord (v : D) : D := match v with
  | .int i => .tup [.int 0, .int i, .str ""]
  | d => .tup [.int 1, .int 0, d]
theorem tk_ord {v : D} (h : valOk v = true) : ∃ a b c, tk (vord v) = [.inl 1, a, .inl 1, b, .inl 1, c, .inl 0] ∧ (match v with
    | .int i => a = .inl 0 ∧ b = .inl i ∧ c = .inr (cs "")
    | .str x => a = .inl 1 ∧ b = .inl 0 ∧ c = .inr (cs x)
    | _ => False) := by
  rcases valOk_cases h with ⟨i, rfl, _⟩ | ⟨x, rfl, _⟩
  · exact ⟨_, _, _, by simp only [vord, tk_tup, tks_cons, tks_nil, tk_int, tk_str, List.cons_append, List.nil_append], rfl, rfl, rfl⟩
  · exact ⟨_, _, _, by simp only [vord, tk_tup, tks_cons, tks_nil, tk_int, tk_str, List.cons_append, List.nil_append], rfl, rfl, rfl⟩
theorem ord_lt : ∀ {vs ws : List D}, valsAll vs → valsAll ws → vs ≠ ws → ∀ l m, lexLt itemOrd (tks (vs.map vord) ++ l) (tks (ws.map vord) ++ m) = tlt vs ws
  | [], [], _, _, ne, _, _ => absurd rfl ne
  | [], w :: ws, _, _, _, l, m => by
    rw [tlt_nil_cons, List.map_nil, List.map_cons, tks_nil, tks_cons]
    exact lex_diff (O := itemOrd) (by simp)
  | v :: vs, [], _, _, _, l, m => by
    rw [tlt_cons_nil, List.map_nil, List.map_cons, tks_nil, tks_cons]
    exact lex_diff (O := itemOrd) (by simp)
  | v :: vs, w :: ws, hv, hw, ne, l, m => by
    rw [List.map_cons, List.map_cons, tks_cons, tks_cons, List.cons_append, List.cons_append, lex_self (O := itemOrd), List.append_assoc, List.append_assoc]
    by_cases e : v = w
    · subst e
      rw [lex_pre, tlt_same]
      exact ord_lt hv.tail hw.tail (fun z => ne (by rw [z])) l m
    · rw [tlt_diff hv.head hw.head e]
      have e1 := e
      rcases valOk_cases hv.head with ⟨i, rfl, _⟩ | ⟨x, rfl, _⟩ <;> rcases valOk_cases hw.head with ⟨j, rfl, _⟩ | ⟨y, rfl, _⟩ <;> simp only [vord, tk_tup, tks_cons, tks_nil, tk_int, tk_str, List.cons_append, List.nil_append, lex_self (O := itemOrd)]
      · exact lex_diff (O := itemOrd) fun z => e1 (by simp only [Sum.inl.injEq] at z; rw [z])
      · exact lex_diff (O := itemOrd) (by simp)
      · exact lex_diff (O := itemOrd) (by simp)
      · exact lex_diff (O := itemOrd) fun z => e1 (by simp only [Sum.inr.injEq] at z; rw [str_ext z])
/-- a tuple behind what it is turned by -/
def pairOf (t : List D) : D := .tup [.tup (t.map vord), .tup t]
theorem pair_lt {a b : List D} (ha : valsAll a) (hb : valsAll b) : D.lt (pairOf a) (pairOf b) = tlt a b := by
  by_cases e : a = b
  · subst e
    rw [tlt_irrefl]
    exact lex_irrefl _
  · show tlt [.tup (a.map vord), .tup a] [.tup (b.map vord), .tup b] = _
    rw [tlt_eq, tks_cons (v := .tup (a.map vord)), tks_cons (v := .tup (b.map vord)), lex_self (O := itemOrd), tk_tup, tk_tup]
    exact ord_lt ha hb e _ _

/-! ### sorted -/
def tsort (l : List (List D)) : List (List D) := l.mergeSort fun a b => !tlt b a
theorem tsort_perm (l : List (List D)) : (tsort l).Perm l := List.mergeSort_perm l _
theorem tsort_mem {l : List (List D)} {t : List D} : t ∈ tsort l ↔ t ∈ l := (tsort_perm l).mem_iff
def Asc (l : List (List D)) : Prop := l.Pairwise fun a b => tlt b a = false
theorem tsort_asc (l : List (List D)) (h : ∀ t ∈ l, valsAll t) : Asc (tsort l) := by
  have q := List.pairwise_mergeSort (le := fun a b => !tlt b a) (fun a b c h1 h2 => by
      simp only [Bool.not_eq_true'] at *
      cases z : tlt c a with
      | false => rfl
      | true =>
        -- c < a, not b < a, not c < b
        rw [tlt_eq] at *
        rcases lex_negTrans _ (tks b) _ z with q | q
        · rw [h2] at q; cases q
        · rw [h1] at q; cases q) (fun a b => by
      cases z : tlt b a with
      | false => rfl
      | true => rw [tlt_asymm z]; rfl) l
  exact q.imp fun h => by simpa using h
theorem asc_unique {l m : List (List D)} (hl : ∀ t ∈ l, valsAll t) (a : Asc l) (b : Asc m) (p : l.Perm m) : l = m :=
  p.eq_of_pairwise (fun x y hx hy h1 h2 => tlt_total (hl x hx) (hl y (p.mem_iff.mpr hy)) h2 h1) a b
theorem tsort_eq {l m : List (List D)} (hl : ∀ t ∈ l, valsAll t) (p : l.Perm m) : tsort l = tsort m := by
  refine asc_unique (fun t ht => hl t (tsort_mem.mp ht)) (tsort_asc l hl) (tsort_asc m fun t ht => hl t (p.mem_iff.mpr ht)) ?_
  exact (tsort_perm l).trans (p.trans (tsort_perm m).symm)
theorem sort_pairs {l : List (List D)} (hl : ∀ t ∈ l, valsAll t) : D.sort (l.map pairOf) = (tsort l).map pairOf := by
  unfold D.sort tsort
  exact (List.map_mergeSort fun a ha b hb => by rw [pair_lt (hl b hb) (hl a ha)]).symm
theorem drop_tw {α : Type} (p : α → Bool) : ∀ l : List α, l.drop (l.takeWhile p).length = l.dropWhile p
  | [] => rfl
  | a :: l => by cases h : p a <;> simp [List.takeWhile_cons, List.dropWhile_cons, h, drop_tw p l]
/-- put in its place -/
def tput (l : List (List D)) (t : List D) : List (List D) := l.filter (fun u => tlt u t) ++ [t] ++ l.drop (l.filter fun u => tlt u t).length
theorem asc_filter : ∀ {l : List (List D)} {t : List D}, Asc l → l.filter (fun u => tlt u t) = l.takeWhile (fun u => tlt u t)
  | [], _, _ => rfl
  | u :: l, t, h => by
    obtain ⟨h1, h2⟩ := List.pairwise_cons.mp h
    cases q : tlt u t with
    | true => simp only [List.filter_cons, List.takeWhile_cons, q, if_true, asc_filter h2]
    | false =>
      simp only [List.takeWhile_cons, q]
      refine List.filter_eq_nil_iff.mpr ?_
      intro w hw
      rcases List.mem_cons.mp hw with rfl | hw
      · rw [q]; decide
      · have := h1 w hw
        rw [tlt_eq] at *
        intro z
        rcases lex_negTrans _ (tks u) _ z with y | y
        · rw [this] at y; cases y
        · rw [q] at y; cases y
theorem tput_perm {l : List (List D)} {t : List D} (h : Asc l) : (tput l t).Perm (l ++ [t]) := by
  unfold tput
  rw [asc_filter h]
  have e := drop_tw (fun u => tlt u t) l
  rw [e]
  have q := List.takeWhile_append_dropWhile (p := fun u => tlt u t) (l := l)
  generalize l.takeWhile (fun u => tlt u t) = x at *
  generalize l.dropWhile (fun u => tlt u t) = y at *
  rw [← q, List.append_assoc, List.append_assoc]
  exact (List.perm_append_left_iff x).mpr List.perm_append_comm
theorem tput_asc {l : List (List D)} {t : List D} (h : Asc l) : Asc (tput l t) := by
  unfold tput
  have ef := asc_filter (t := t) h
  have e := drop_tw (fun u => tlt u t) l
  have hx : ∀ u ∈ l.takeWhile (fun u => tlt u t), tlt u t = true := fun u hu => by
    rw [← ef] at hu
    exact (List.mem_filter.mp hu).2
  have hy : ∀ u ∈ l.dropWhile (fun u => tlt u t), tlt u t = false := fun u hu => by
    cases z : tlt u t with
    | false => rfl
    | true =>
      exfalso
      have q := List.takeWhile_append_dropWhile (p := fun u => tlt u t) (l := l)
      have c1 : (l.filter fun u => tlt u t) = (l.takeWhile fun u => tlt u t).filter (fun u => tlt u t) ++ (l.dropWhile fun u => tlt u t).filter fun u => tlt u t := by
        rw [← List.filter_append, q]
      rw [ef, List.filter_eq_self.mpr hx] at c1
      have c2 : (l.dropWhile fun u => tlt u t).filter (fun u => tlt u t) = [] := by simpa using c1
      exact absurd z (by simpa using List.filter_eq_nil_iff.mp c2 u hu)
  rw [ef, e]
  have q := List.takeWhile_append_dropWhile (p := fun u => tlt u t) (l := l)
  rw [← q] at h
  generalize l.takeWhile (fun u => tlt u t) = x at *
  generalize l.dropWhile (fun u => tlt u t) = y at *
  obtain ⟨p1, p2, p3⟩ := List.pairwise_append.mp h
  rw [List.append_assoc]
  refine List.pairwise_append.mpr ⟨p1, List.pairwise_cons.mpr ⟨fun u hu => hy u hu, p2⟩, fun a ha b hb => ?_⟩
  rcases List.mem_append.mp hb with hb | hb
  · rw [List.mem_singleton.mp hb]
    exact tlt_asymm (hx a ha)
  · exact p3 a ha b hb
theorem insert_eq {l : List (List D)} (hl : ∀ t ∈ l, valsAll t) : l.foldl tput [] = tsort l := by
  have go : ∀ (m acc : List (List D)), Asc acc → Asc (m.foldl tput acc) ∧ (m.foldl tput acc).Perm (acc ++ m) := by
    intro m
    induction m with
    | nil => intro acc h; exact ⟨h, by rw [List.append_nil]; exact List.Perm.refl _⟩
    | cons t m ih =>
      intro acc h
      obtain ⟨i1, i2⟩ := ih (tput acc t) (tput_asc h)
      refine ⟨i1, i2.trans ?_⟩
      have := (List.perm_append_right_iff m).mpr (tput_perm (t := t) h)
      rw [List.append_assoc] at this
      exact this
  obtain ⟨g1, g2⟩ := go l [] List.Pairwise.nil
  rw [List.nil_append] at g2
  exact asc_unique (fun t ht => hl t (g2.mem_iff.mp ht)) g1 (tsort_asc l hl) (g2.trans (tsort_perm l).symm)
end PM

namespace PM
open PySem

/-! ## comprehensions whose source changes the names -/
section
variable {orc : Orc} {elt : E} {t : Tg} {it : It} {cs : Ts} {own : List Nat} {en en0 : En} {ds : List D}
theorem lc_from (hi : evI orc it en = .ok ds en0) {it' : It} (hi' : evI orc it' en0 = .ok ds en0) : evE orc (.lc elt t it cs own) en = evE orc (.lc elt t it' cs own) en0 := by
  rw [evE_lc, evE_lc, hi, hi', bnd_ok]
/-- the list itself as a source -/
def srcOf (ds : List D) : It := .val (.lit (.lst ds))
theorem evI_src : evI orc (srcOf ds) en = .ok ds en := by
  unfold srcOf
  rw [evI_val, evE_lit]
  rfl
theorem lc_one0 {i : Nat} {x : Sl} {f : D → D} (hi : evI orc it en = .ok ds en0) (hx : en0[i]? = some x) (hc : x.cold = true)
    (hf : ∀ d ∈ ds, evE orc elt (en0.set i (.ov (.frz d))) = .ok (.frz (f d)) (en0.set i (.ov (.frz d)))) (hn : ds.length ≤ sizeLine) :
    evE orc (.lc elt (.nm i) it .nil [i]) en = .ok (.lst ((ds.map f).map .frz)) en0 := by
  rw [lc_from hi evI_src]
  exact lc_one' evI_src hx hc hf hn
/-- two names from a pair, the second one told -/
theorem lc_pair0 {i j : Nat} {x y : Sl} {α : Type} {l : List α} {p q : α → D} (hi : evI orc it en = .ok (l.map fun a => .tup [p a, q a]) en0) (hij : i ≠ j) (hx : en0[i]? = some x) (hc : x.cold = true) (hy : en0[j]? = some y) (hd : y.cold = true) (hn : l.length ≤ sizeLine) :
    evE orc (.lc (.var j) (.tp [.nm i, .nm j]) it .nil [i, j]) en = .ok (.lst ((l.map q).map .frz)) en0 := by
  rw [lc_from hi evI_src]
  have li : i < en0.length := (List.getElem?_eq_some_iff.mp hx).1
  have lj : j < en0.length := (List.getElem?_eq_some_iff.mp hy).1
  have w : wipeE en0 [i, j] = (en0.set j .no).set i .no := rfl
  have key := lc_gen (orc := orc) (cs := .nil) (elt := .var j) (t := .tp [.nm i, .nm j]) (it := srcOf (l.map fun a => .tup [p a, q a])) (own := [i, j]) (en := en0) (ds := l.map fun a => .tup [p a, q a])
    (put := fun d => match d with | .tup [a, b] => ((en0.set j .no).set i (.ov (.frz a))).set j (.ov (.frz b)) | _ => (en0.set j .no).set i .no) (g := fun _ => true) (f := fun d => match d with | .tup [_, b] => b | _ => .non) evI_src ?_ ?_ ?_ ?_ ?_ (fun _ _ => evCs_nil) ?_ (by rw [List.length_map]; exact hn)
  · rw [key, List.filter_eq_self.mpr (fun _ _ => rfl), List.map_map, List.map_map, List.map_map]
    rfl
  · simp [okOwn, hx, hy, hc, hd]
  · intro d hd'
    obtain ⟨a, _, rfl⟩ := List.mem_map.mp hd'
    rw [w]
    simp [li, lj, hij, List.getElem?_set]
  · intro d
    simp only [okOwn]
    split <;> simp [li, lj, hij, hij.symm, List.getElem?_set, Sl.cold]
  · intro d
    rw [w]
    apply List.ext_getElem?
    intro k
    simp only [wipeE]
    split <;> simp only [List.getElem?_set, List.length_set] <;> grind
  · rw [w]
    apply List.ext_getElem?
    intro k
    simp only [undo, List.getElem?_set, List.length_set, List.getD_eq_getElem?_getD]
    grind
  · intro d hd' _
    obtain ⟨a, _, rfl⟩ := List.mem_map.mp hd'
    refine ⟨.frz (q a), ?_, cool_frz, by simp⟩
    simp [li, lj, hij, List.getElem?_set]
end
/-! ## a dict with texts, numbers or tuples of values for names -/
def kvt (l : List (List D)) : List (D × D) := l.map fun t => (.tup t, .bl true)
def dput (acc : List (List D)) (t : List D) : List (List D) := if acc.any (fun u => keyEq (.tup u) (.tup t)) then acc else acc ++ [t]
theorem kvt_put (acc : List (List D)) (t : List D) : putD (kvt acc) (.tup t) (.bl true) = kvt (dput acc t) := by
  unfold putD dput kvt
  rw [List.any_map]
  have e : ((fun p : D × D => keyEq p.1 (.tup t)) ∘ fun t => (.tup t, .bl true)) = fun u => keyEq (.tup u) (.tup t) := rfl
  rw [e]
  split
  · rw [List.map_map]
    refine List.map_congr_left fun u _ => ?_
    simp only [Function.comp]
    split <;> rfl
  · rw [List.map_append]
    rfl
def nkOf : D → NestedKey
  | .int i => .num i
  | .str x => .text x
  | _ => .none
theorem key_val {v : D} (h : valOk v = true) : v.key = some (nkOf v) := by
  rcases valOk_cases h with ⟨i, rfl, _⟩ | ⟨x, rfl, _⟩ <;> simp only [D.key, nkOf]
theorem keys_vals : ∀ {vs : List D}, valsAll vs → D.keys vs = some (vs.map nkOf)
  | [], _ => by simp only [D.keys, List.map_nil]
  | v :: vs, h => by simp only [D.keys, key_val h.head, keys_vals h.tail, List.map_cons]
theorem key_tup {vs : List D} (h : valsAll vs) : (D.tup vs).key = some (.tup (vs.map nkOf)) := by simp only [D.key, keys_vals h, Option.map_some]
theorem nkOf_inj {v w : D} (hv : valOk v = true) (hw : valOk w = true) (e : nkOf v = nkOf w) : v = w := by
  rcases valOk_cases hv with ⟨i, rfl, _⟩ | ⟨x, rfl, _⟩ <;> rcases valOk_cases hw with ⟨j, rfl, _⟩ | ⟨y, rfl, _⟩ <;> simp [nkOf] at e
  · rw [e]
  · rw [e]
theorem nks_inj : ∀ {vs ws : List D}, valsAll vs → valsAll ws → vs.map nkOf = ws.map nkOf → vs = ws
  | [], [], _, _, _ => rfl
  | [], _ :: _, _, _, e => by simp at e
  | _ :: _, [], _, _, e => by simp at e
  | v :: vs, w :: ws, hv, hw, e => by
    simp only [List.map_cons, List.cons.injEq] at e
    rw [nkOf_inj hv.head hw.head e.1, nks_inj hv.tail hw.tail e.2]
theorem keyEq_tup {vs ws : List D} (hv : valsAll vs) (hw : valsAll ws) : keyEq (.tup vs) (.tup ws) = true ↔ vs = ws := by
  unfold keyEq
  rw [key_tup hv, key_tup hw, decide_eq_true_eq]
  constructor
  · intro e
    simp only [Option.some.injEq, NestedKey.tup.injEq] at e
    exact nks_inj hv hw e
  · intro e; rw [e]
theorem nks_deep : ∀ (vs : List D), NestedKey.depthAll (vs.map nkOf) ≤ 7
  | [] => by simp [NestedKey.depthAll]
  | v :: vs => by
    have := nks_deep vs
    have : (nkOf v).depth ≤ 7 := by cases v <;> simp [nkOf, NestedKey.depth]
    simp only [List.map_cons, NestedKey.depthAll]
    omega
theorem ask_tup {acc : List (List D)} {t : List D} (h : valsAll t) : askOk ((kvt acc).map (·.1)) (.tup t) = true := by
  unfold askOk
  rw [key_tup h]
  have q := nks_deep t
  have : (NestedKey.tup (t.map nkOf)).depth ≤ 8 := by simp only [NestedKey.depth]; omega
  simp only [decide_eq_true this, Bool.true_and, Bool.or_eq_true, Bool.and_eq_true]
  refine .inr ⟨rfl, ?_⟩
  simp [kvt, D.isTup]
theorem dput_new {acc : List (List D)} {t : List D} (ha : ∀ u ∈ acc, valsAll u) (ht : valsAll t) (n : t ∉ acc) : dput acc t = acc ++ [t] := by
  unfold dput
  rw [if_neg]
  intro z
  obtain ⟨u, hu, e⟩ := List.any_eq_true.mp z
  exact n ((keyEq_tup (ha u hu) ht).mp e ▸ hu)
theorem dput_old {acc : List (List D)} {t : List D} (ht : valsAll t) (n : t ∈ acc) : dput acc t = acc := by
  unfold dput
  rw [if_pos]
  exact List.any_eq_true.mpr ⟨t, n, (keyEq_tup ht ht).mpr rfl⟩
theorem dput_all {l : List (List D)} (h : ∀ t ∈ l, valsAll t) (n : l.Nodup) : l.foldl dput [] = l := by
  have go : ∀ (m acc : List (List D)), (∀ t ∈ m, valsAll t) → (∀ t ∈ acc, valsAll t) → (acc ++ m).Nodup → m.foldl dput acc = acc ++ m := by
    intro m
    induction m with
    | nil => intro acc _ _ _; simp
    | cons t m ih =>
      intro acc h1 h2 h3
      have nt : t ∉ acc := fun z => by
        have := (List.nodup_append.mp h3).2.2 t z t (List.mem_cons_self ..)
        exact this rfl
      rw [List.foldl_cons, dput_new h2 (h1 t (List.mem_cons_self ..)) nt, ih (acc ++ [t]) (fun u hu => h1 u (List.mem_cons_of_mem _ hu)) (fun u hu => ?_) (by rw [List.append_assoc]; exact h3), List.append_assoc]
      · rfl
      · rcases List.mem_append.mp hu with hu | hu
        · exact h2 u hu
        · rw [List.mem_singleton.mp hu]; exact h1 t (List.mem_cons_self ..)
  simpa using go l [] h (fun _ z => by cases z) (by simpa using n)
theorem kvt_keys (l : List (List D)) : (D.dic (kvt l)).items = some (l.map .tup) := by
  simp only [D.items, kvt, List.map_map, Option.some.injEq]
  rfl
theorem kvt_len (l : List (List D)) : (kvt l).length = l.length := List.length_map ..
/-- a dict comprehension over tuples of values -/
theorem dc_tups {orc : Orc} {it : It} {en en0 : En} {i : Nat} {x : Sl} {l : List (List D)} (hi : evI orc it en = .ok (l.map .tup) en0) (hx : en0[i]? = some x) (hc : x.cold = true) (h : ∀ t ∈ l, valsAll t) (hn : l.length < sizeLine) :
    evE orc (.dc (.var i) (.lit (.bl true)) (.nm i) it .nil [i]) en = .ok (.dic ((kvt (l.foldl dput [])).map fun p => (p.1, .frz p.2))) en0 := by
  have li : i < en0.length := (List.getElem?_eq_some_iff.mp hx).1
  rw [evE_dc, hi, bnd_ok, if_pos (by rw [okOwn1, hx]; exact hc)]
  have w : ∀ e : En, wipeE e [i] = e.set i .no := fun e => rfl
  have dl : ∀ acc t, (dput acc t).length ≤ acc.length + 1 := fun acc t => by
    unfold dput
    split
    · exact Nat.le_succ _
    · rw [List.length_append]; exact Nat.le_refl _
  have go : ∀ (m acc : List (List D)) (e : En), (∀ t ∈ m, valsAll t) → acc.length + m.length < sizeLine → okOwn e [i] = true → wipeE e [i] = en0.set i .no →
      ∃ e', dcGo (bind1 (.nm i)) (evCs orc .nil) (evE orc (.var i)) (evE orc (.lit (.bl true))) [i] (m.map .tup) (kvt acc) e = .ok (kvt (m.foldl dput acc)) e' ∧ wipeE e' [i] = en0.set i .no := by
    intro m
    induction m with
    | nil => intro acc e _ _ h0 h1; exact ⟨e, by simp [dcGo, h0], h1⟩
    | cons t m ih =>
      intro acc e hm hl h0 h1
      have ht := hm t (List.mem_cons_self ..)
      rw [List.length_cons] at hl
      obtain ⟨e', r1, r2⟩ := ih (dput acc t) (en0.set i (.ov (.frz (.tup t)))) (fun u hu => hm u (List.mem_cons_of_mem _ hu)) (by have := dl acc t; omega) (by rw [okOwn1]; simp [li, Sl.cold]) (by rw [w]; simp)
      refine ⟨e', ?_, r2⟩
      have ak := ask_tup (acc := acc) ht
      have ln : (kvt acc).length < sizeLine := by rw [kvt_len]; omega
      have b1 : bind1 (.nm i) (.tup t) (en0.set i .no) = some (en0.set i (.ov (.frz (.tup t)))) := by simp [li]
      have v1 : evE orc (.var i) (en0.set i (.ov (.frz (.tup t)))) = .ok (.frz (.tup t)) (en0.set i (.ov (.frz (.tup t)))) := by simp [li]
      simp only [List.map_cons, dcGo, h0, if_true, h1, b1, evCs_nil, bnd_ok, v1, evE_lit, cool_frz, ak, decide_eq_true ln, Bool.and_self, d_frz, kvt_put, r1, List.foldl_cons]
  obtain ⟨e', r1, r2⟩ := go l [] en0 h (by simpa using hn) (by rw [okOwn1, hx]; exact hc) (by rw [w])
  have r1' : dcGo (bind1 (.nm i)) (evCs orc .nil) (evE orc (.var i)) (evE orc (.lit (.bl true))) [i] (l.map .tup) [] en0 = .ok (kvt (l.foldl dput [])) e' := r1
  rw [r1', nx_ok, bnd_ok, r2]
  congr 1
  exact set_set_self hx _
theorem setk_tup {orc : Orc} {acc : List (List D)} {t : List D} {r : En} {y : Sl} (h : valsAll t) (hn : acc.length < sizeLine) : setK 1 (.tup t) (.bl true) (y :: .ov (.dic ((kvt acc).map fun p => (p.1, .frz p.2))) :: r) = some (y :: .ov (.dic ((kvt (dput acc t)).map fun p => (p.1, .frz p.2))) :: r) := by
  simp only [setK, List.getElem?_cons_succ, List.getElem?_cons_zero, flatKV_map', Option.bind_some]
  rw [gd, if_pos ⟨ask_tup h, by rw [kvt_len]; exact hn⟩, kvt_put]
  rfl

/-! ## the pairs can be sorted -/
section
open PySem.W
theorem eqv_eq {v w : D} (hv : valOk v = true) (hw : valOk w = true) : PyData.eqv v.py w.py = true ↔ v = w := by
  rcases valOk_cases hv with ⟨i, rfl, _⟩ | ⟨x, rfl, _⟩ <;> rcases valOk_cases hw with ⟨j, rfl, _⟩ | ⟨y, rfl, _⟩ <;> simp [D.py, PyData.eqv]
theorem upto_ords : ∀ {vs ws : List D}, valsAll vs → valsAll ws → PyData.eqvAll (D.pys (vs.map vord)) (D.pys (ws.map vord)) = true → vs = ws
  | [], [], _, _, _ => rfl
  | [], w :: ws, _, _, e => by simp [D.pys, PyData.eqvAll] at e
  | v :: vs, [], _, _, e => by simp [D.pys, PyData.eqvAll] at e
  | v :: vs, w :: ws, hv, hw, e => by
    simp only [List.map_cons, D.pys, PyData.eqvAll, Bool.and_eq_true] at e
    rw [upto_ords hv.tail hw.tail e.2]
    have e1 := e.1
    rcases valOk_cases hv.head with ⟨i, rfl, _⟩ | ⟨x, rfl, _⟩ <;> rcases valOk_cases hw.head with ⟨j, rfl, _⟩ | ⟨y, rfl, _⟩ <;> simp [vord, D.py, D.pys, PyData.eqv, PyData.eqvAll] at e1
    · rw [e1]
    · rw [e1]
theorem alike_ords : ∀ {vs ws : List D}, valsAll vs → valsAll ws → alikeAll (D.pys (vs.map vord)) (D.pys (ws.map vord)) = true
  | [], _, _, _ => by simp only [List.map_nil, D.pys, alikeAll]
  | v :: vs, [], _, _ => by simp only [List.map_nil, D.pys, List.map_cons, alikeAll]
  | v :: vs, w :: ws, hv, hw => by
    simp only [List.map_cons, D.pys, alikeAll, alike_ords hv.tail hw.tail, Bool.and_true]
    rcases valOk_cases hv.head with ⟨i, rfl, _⟩ | ⟨x, rfl, _⟩ <;> rcases valOk_cases hw.head with ⟨j, rfl, _⟩ | ⟨y, rfl, _⟩ <;> simp [vord, D.py, D.pys, alike, alikeAll]
theorem alike_self : ∀ {vs : List D}, valsAll vs → alikeAll (D.pys vs) (D.pys vs) = true
  | [], _ => by simp only [D.pys, alikeAll]
  | v :: vs, hv => by
    simp only [D.pys, alikeAll, alike_self hv.tail, Bool.and_true]
    rcases valOk_cases hv.head with ⟨i, rfl, _⟩ | ⟨x, rfl, _⟩ <;> simp [D.py, alike]
theorem ord_flat {v : D} (h : valOk v = true) : (vord v).plain = true ∧ (vord v).py.depth ≤ 1 := by
  rcases valOk_cases h with ⟨i, rfl, _⟩ | ⟨x, rfl, _⟩ <;> simp [vord, D.py, D.pys, PyData.depth, PyData.depthAll]
theorem ords_flat : ∀ {vs : List D}, valsAll vs → D.plains (vs.map vord) = true ∧ PyData.depthAll (D.pys (vs.map vord)) ≤ 1
  | [], _ => by simp [D.pys, PyData.depthAll]
  | v :: vs, h => by
    have a := ord_flat h.head
    have b := ords_flat h.tail
    simp only [List.map_cons, plains_cons, a.1, b.1, D.pys, PyData.depthAll, Bool.and_self, true_and]
    have := a.2; have := b.2
    omega
theorem vals_flat : ∀ {vs : List D}, valsAll vs → D.plains vs = true ∧ PyData.depthAll (D.pys vs) ≤ 0
  | [], _ => by simp [D.pys, PyData.depthAll]
  | v :: vs, h => by
    have b := vals_flat h.tail
    have a : v.plain = true ∧ v.py.depth = 0 := by
      rcases valOk_cases h.head with ⟨i, rfl, _⟩ | ⟨x, rfl, _⟩ <;> simp [D.py, PyData.depth]
    simp only [plains_cons, a.1, b.1, D.pys, PyData.depthAll, Bool.and_self, true_and]
    have := a.2; have := b.2
    omega
theorem pairs_sortOk {l : List (List D)} (h : ∀ t ∈ l, valsAll t) : sortOk2 (l.map pairOf) = true := by
  unfold sortOk2
  simp only [Bool.and_eq_true, List.all_eq_true, List.mem_map, forall_exists_index, and_imp, forall_apply_eq_imp_iff₂]
  refine ⟨⟨⟨?_, fun t ht => ?_⟩, fun t ht u hu => ?_⟩, fun t ht => ?_⟩
  · rw [plains_iff, List.all_map]
    refine List.all_eq_true.mpr fun t ht => ?_
    simp only [Function.comp, pairOf, plain_tup, plains_cons, (ords_flat (h t ht)).1, (vals_flat (h t ht)).1, plains_nil, Bool.and_self]
  · have a := (ords_flat (h t ht)).2
    have b := (vals_flat (h t ht)).2
    unfold D.shal D.depth
    simp only [pairOf, D.py, D.pys, PyData.depth, PyData.depthAll, decide_eq_true_eq]
    omega
  · simp only [upto2, pairOf, D.pys, D.py, uptoAll, alike, PyData.eqv, Bool.and_true, Bool.or_true, Bool.and_eq_true, Bool.or_eq_true, Bool.not_eq_true']
    refine ⟨alike_ords (h t ht) (h u hu), ?_⟩
    cases e : PyData.eqvAll (D.pys (t.map vord)) (D.pys (u.map vord)) with
    | false => exact .inl rfl
    | true =>
      have := upto_ords (h t ht) (h u hu) e
      subst this
      exact .inr (alike_self (h t ht))
  · rfl
end
end PM


namespace K02
open PySem PySem.Spec PyProof.Rows PM
open L2 hiding St

def top (i : Nat) : Stmt := PySem.Challenge.pw_eitherrows_k02_whole_values_and_their_tu.main.body.getD i (.Pass ⟨0, 0, 0, 0⟩)
/-! is_whole -/
def B_is_whole : Ss := (.cons (.ret (.and (.isi (.var 0) .int) (.not (.isi (.var 0) .bool)))) .nil)
def O_is_whole : Orc := fun i => match i with
  | _ => fun _ => .bad
def F_is_whole : List Sl → COut := callOf O_is_whole 1 1 B_is_whole
/-! is_between -/
def B_is_between : Ss := (.cons (.ret (.and (.call 0 (.cons (.var 0) .nil) [false] (List.range 1)) (.chn .le .le (.var 1) (.var 0) (.var 2)))) .nil)
def O_is_between : Orc := fun i => match i with
  | 0 => F_is_whole
  | _ => fun _ => .bad
def F_is_between : List Sl → COut := callOf O_is_between 3 3 B_is_between
/-! are_unlike -/
def B_are_unlike : Ss := (.cons (.set 1 (.dict .nil)) (.cons (.for_ (.nm 2) (.val (.var 0)) (.cons (.setk 1 (.var 2) (.lit (.bl true))) .nil)) (.cons (.ret (.cmp .eq (.bif .len (.var 1)) (.bif .len (.var 0)))) .nil)))
def O_are_unlike : Orc := fun i => match i with
  | _ => fun _ => .bad
def F_are_unlike : List Sl → COut := callOf O_are_unlike 1 3 B_are_unlike
/-! plain_number -/
def B_plain_number : Ss := (.cons (.if_ (.or (.val (.cmp .eq (.var 0) (.lit (.str "")))) (.or (.val (.cmp .gt (.bif .len (.var 0)) (.lit (.int 100)))) (.not (.val (.bif .all (.lc (.cmp .in_ (.var 3) (.lit (.str "0123456789"))) (.nm 3) (.val (.var 0)) .nil [3])))))) (.cons (.ret (.lit .non)) .nil) .nil) (.cons (.if_ (.and (.val (.cmp .gt (.bif .len (.var 0)) (.lit (.int 1)))) (.val (.cmp .eq (.sub (.var 0) (.lit (.int 0))) (.lit (.str "0"))))) (.cons (.ret (.lit .non)) .nil) .nil) (.cons (.set 4 (.bif .int (.var 0))) (.cons (.ret (.ite (.val (.call 1 (.cons (.var 4) (.cons (.var 1) (.cons (.var 2) .nil))) [false, false, false] (List.range 3))) (.var 4) (.lit .non))) .nil))))
def O_plain_number : Orc := fun i => match i with
  | 1 => F_is_between
  | _ => fun _ => .bad
def F_plain_number : List Sl → COut := callOf O_plain_number 3 5 B_plain_number
/-! are_letters -/
def B_are_letters : Ss := (.cons (.if_ (.or (.not (.val (.isi (.var 0) .str))) (.or (.val (.cmp .eq (.var 0) (.lit (.str "")))) (.val (.cmp .gt (.bif .len (.var 0)) (.var 1))))) (.cons (.ret (.lit (.bl false))) .nil) .nil) (.cons (.ret (.bif .all (.lc (.cmp .in_ (.var 2) (.lit (.str "abcdefghijklmnopqrstuvwxyz"))) (.nm 2) (.val (.var 0)) .nil [2]))) .nil))
def O_are_letters : Orc := fun i => match i with
  | _ => fun _ => .bad
def F_are_letters : List Sl → COut := callOf O_are_letters 2 3 B_are_letters
/-! is_name -/
def B_is_name : Ss := (.cons (.ret (.call 4 (.cons (.var 0) (.cons (.lit (.int 8)) .nil)) [false, false] (List.range 2))) .nil)
def O_is_name : Orc := fun i => match i with
  | 4 => F_are_letters
  | _ => fun _ => .bad
def F_is_name : List Sl → COut := callOf O_is_name 1 1 B_is_name
/-! value_ok -/
def B_value_ok : Ss := (.cons (.ret (.or (.call 1 (.cons (.var 0) (.cons (.bin .sub (.lit (.int 0)) (.lit (.int 9999))) (.cons (.lit (.int 9999)) .nil))) [false, false, false] (List.range 3)) (.call 5 (.cons (.var 0) .nil) [false] (List.range 1)))) .nil)
def O_value_ok : Orc := fun i => match i with
  | 1 => F_is_between
  | 5 => F_is_name
  | _ => fun _ => .bad
def F_value_ok : List Sl → COut := callOf O_value_ok 1 1 B_value_ok
/-! values_ok -/
def B_values_ok : Ss := (.cons (.ret (.and (.isi (.var 0) .tuple) (.bif .all (.lc (.call 6 (.cons (.var 1) .nil) [false] (List.range 1)) (.nm 1) (.val (.var 0)) .nil [1])))) .nil)
def O_values_ok : Orc := fun i => match i with
  | 6 => F_value_ok
  | _ => fun _ => .bad
def F_values_ok : List Sl → COut := callOf O_values_ok 1 2 B_values_ok
/-! value_order -/
def B_value_order : Ss := (.cons (.ret (.ite (.val (.call 0 (.cons (.var 0) .nil) [false] (List.range 1))) (.tup (.cons (.lit (.int 0)) (.cons (.var 0) (.cons (.lit (.str "")) .nil)))) (.tup (.cons (.lit (.int 1)) (.cons (.lit (.int 0)) (.cons (.var 0) .nil)))))) .nil)
def O_value_order : Orc := fun i => match i with
  | 0 => F_is_whole
  | _ => fun _ => .bad
def F_value_order : List Sl → COut := callOf O_value_order 1 1 B_value_order
/-! values_order -/
def B_values_order : Ss := (.cons (.ret (.bif .tuple (.lc (.call 8 (.cons (.var 1) .nil) [false] (List.range 1)) (.nm 1) (.val (.var 0)) .nil [1]))) .nil)
def O_values_order : Orc := fun i => match i with
  | 8 => F_value_order
  | _ => fun _ => .bad
def F_values_order : List Sl → COut := callOf O_values_order 1 2 B_values_order
/-! ascending_by -/
def B_ascending_by : Ss := (.cons (.set 1 (.dc (.var 2) (.lit (.bl true)) (.nm 2) (.val (.var 0)) .nil [2])) (.cons (.ret (.bif .tuple (.lc (.var 2) (.tp [(.nm 3), (.nm 2)]) (.val (.bif .sorted (.lc (.tup (.cons (.call 9 (.cons (.var 2) .nil) [false] (List.range 1)) (.cons (.var 2) .nil))) (.nm 2) (.val (.var 1)) .nil [2]))) .nil [3, 2]))) .nil))
def O_ascending_by : Orc := fun i => match i with
  | 9 => F_values_order
  | _ => fun _ => .bad
def F_ascending_by : List Sl → COut := callOf O_ascending_by 1 4 B_ascending_by
/-! text_of_value -/
def B_text_of_value : Ss := (.cons (.ret (.fmt (.var 0))) .nil)
def O_text_of_value : Orc := fun i => match i with
  | _ => fun _ => .bad
def F_text_of_value : List Sl → COut := callOf O_text_of_value 1 1 B_text_of_value
/-! text_of_values -/
def B_text_of_values : Ss := (.cons (.ret (.ite (.val (.cmp .gt (.bif .len (.var 0)) (.lit (.int 0)))) (.met1 .join (.lit (.str " ")) (.lc (.call 11 (.cons (.var 1) .nil) [false] (List.range 1)) (.nm 1) (.val (.var 0)) .nil [1])) (.lit (.str "-")))) .nil)
def O_text_of_values : Orc := fun i => match i with
  | 11 => F_text_of_value
  | _ => fun _ => .bad
def F_text_of_values : List Sl → COut := callOf O_text_of_values 1 2 B_text_of_values
/-! value_from -/
def B_value_from : Ss := (.cons (.if_ (.val (.call 5 (.cons (.var 0) .nil) [false] (List.range 1))) (.cons (.ret (.var 0)) .nil) .nil) (.cons (.if_ (.val (.cmp .eq (.slc (.var 0) (.lit .non) (.lit (.int 1))) (.lit (.str "-")))) (.cons (.set 1 (.call 3 (.cons (.slc (.var 0) (.lit (.int 1)) (.lit .non)) (.cons (.lit (.int 1)) (.cons (.lit (.int 9999)) .nil))) [false, false, false] (List.range 3))) (.cons (.ret (.ite (.val (.cmp .isnot (.var 1) (.lit .non))) (.bin .sub (.lit (.int 0)) (.var 1)) (.lit .non))) .nil)) .nil) (.cons (.ret (.call 3 (.cons (.var 0) (.cons (.lit (.int 0)) (.cons (.lit (.int 9999)) .nil))) [false, false, false] (List.range 3))) .nil)))
def O_value_from : Orc := fun i => match i with
  | 3 => F_plain_number
  | 5 => F_is_name
  | _ => fun _ => .bad
def F_value_from : List Sl → COut := callOf O_value_from 1 2 B_value_from
/-! values_from -/
def B_values_from : Ss := (.cons (.if_ (.val (.cmp .eq (.var 0) (.lit (.str "-")))) (.cons (.ret (.tup .nil)) .nil) .nil) (.cons (.set 1 (.bif .tuple (.lc (.call 13 (.cons (.var 2) .nil) [false] (List.range 1)) (.nm 2) (.val (.met1 .split (.var 0) (.lit (.str " ")))) .nil [2]))) (.cons (.ret (.ite (.val (.cmp .notin (.lit .non) (.var 1))) (.var 1) (.lit .non))) .nil)))
def O_values_from : Orc := fun i => match i with
  | 13 => F_value_from
  | _ => fun _ => .bad
def F_values_from : List Sl → COut := callOf O_values_from 1 3 B_values_from
/-! check_values -/
def B_check_values : Ss := (.cons (.if_ (.not (.val (.call 7 (.cons (.var 0) .nil) [false] (List.range 1)))) (.cons (.raise 0 (.var 0)) .nil) .nil) .nil)
def O_check_values : Orc := fun i => match i with
  | 7 => F_values_ok
  | _ => fun _ => .bad
def F_check_values : List Sl → COut := callOf O_check_values 1 1 B_check_values
/-! check_text -/
def B_check_text : Ss := (.cons (.if_ (.not (.val (.isi (.var 0) .str))) (.cons (.raise 1 (.var 0)) .nil) .nil) .nil)
def O_check_text : Orc := fun i => match i with
  | _ => fun _ => .bad
def F_check_text : List Sl → COut := callOf O_check_text 1 1 B_check_text
/-! is_value -/
def B_is_value : Ss := (.cons (.ret (.call 6 (.cons (.var 0) .nil) [false] (List.range 1))) .nil)
def O_is_value : Orc := fun i => match i with
  | 6 => F_value_ok
  | _ => fun _ => .bad
def F_is_value : List Sl → COut := callOf O_is_value 1 1 B_is_value
/-! values_text -/
def B_values_text : Ss := (.cons (.expr (.call 15 (.cons (.var 0) .nil) [false] (List.range 1))) (.cons (.ret (.call 12 (.cons (.var 0) .nil) [false] (List.range 1))) .nil))
def O_values_text : Orc := fun i => match i with
  | 12 => F_text_of_values
  | 15 => F_check_values
  | _ => fun _ => .bad
def F_values_text : List Sl → COut := callOf O_values_text 1 1 B_values_text
/-! read_values -/
def B_read_values : Ss := (.cons (.expr (.call 16 (.cons (.var 0) .nil) [false] (List.range 1))) (.cons (.set 1 (.call 14 (.cons (.var 0) .nil) [false] (List.range 1))) (.cons (.if_ (.val (.cmp .is (.var 1) (.lit .non))) (.cons (.raise 1 (.var 0)) .nil) .nil) (.cons (.ret (.var 1)) .nil))))
def O_read_values : Orc := fun i => match i with
  | 14 => F_values_from
  | 16 => F_check_text
  | _ => fun _ => .bad
def F_read_values : List Sl → COut := callOf O_read_values 1 2 B_read_values
/-! ascending -/
def B_ascending : Ss := (.cons (.if_ (.or (.not (.val (.isi (.var 0) .tuple))) (.or (.not (.val (.bif .all (.lc (.call 7 (.cons (.var 1) .nil) [false] (List.range 1)) (.nm 1) (.val (.var 0)) .nil [1])))) (.not (.val (.call 2 (.cons (.var 0) .nil) [false] (List.range 1)))))) (.cons (.raise 0 (.var 0)) .nil) .nil) (.cons (.ret (.call 10 (.cons (.var 0) .nil) [false] (List.range 1))) .nil))
def O_ascending : Orc := fun i => match i with
  | 2 => F_are_unlike
  | 7 => F_values_ok
  | 10 => F_ascending_by
  | _ => fun _ => .bad
def F_ascending : List Sl → COut := callOf O_ascending 1 2 B_ascending
/-! _law_jug -/
def B__law_jug : Ss := (.cons (.set 2 (.ite (.val (.cmp .lt (.var 1) (.bif .len (.var 0)))) (.bif .int (.sub (.var 0) (.var 1))) (.bin .sub (.lit (.int 1013)) (.bin .mul (.lit (.int 17)) (.var 1))))) (.cons (.set 3 (.bin .add (.lit (.int 50111)) (.bin .mul (.lit (.int 3)) (.var 1)))) (.cons (.for_ (.tp [(.nm 4), (.nm 5)]) (.enum (.bin .add (.lst (.cons (.var 2) .nil)) (.bif .list (.slc (.var 0) (.lit .non) (.lit (.int 9)))))) (.cons (.set 3 (.bin .mod (.bif .int (.bin .add (.bin .add (.bin .mul (.var 3) (.lit (.int 39373))) (.bin .mod (.bif .int (.var 5)) (.lit (.int 999983)))) (.var 4))) (.lit (.int 2147483563)))) .nil)) (.cons (.ret (.dict (.cons (.lit (.str "far")) (.cons (.ite (.or (.val (.cmp .lt (.var 2) (.lit (.int 0)))) (.val (.cmp .ge (.var 2) (.bin .pow (.lit (.int 10)) (.lit (.int 17)))))) (.bin .mod (.bif .int (.bif .abs (.var 2))) (.bin .pow (.lit (.int 10)) (.lit (.int 58)))) (.lit (.int 0))) (.cons (.lit (.str "screw")) (.cons (.var 3) .nil)))))) .nil))))
def O__law_jug : Orc := fun i => match i with
  | _ => fun _ => .bad
def F__law_jug : List Sl → COut := callOf O__law_jug 2 6 B__law_jug
/-! _law_pour -/
def B__law_pour : Ss := (.cons (.if_ (.val (.cmp .gt (.sub (.var 0) (.lit (.str "far"))) (.lit (.int 0)))) (.cons (.set 2 (.bin .mod (.sub (.var 0) (.lit (.str "far"))) (.var 1))) (.cons (.setk 0 (.lit (.str "far")) (.bin .fdiv (.sub (.var 0) (.lit (.str "far"))) (.var 1))) (.cons (.ret (.bif .int (.var 2))) .nil))) .nil) (.cons (.setk 0 (.lit (.str "screw")) (.bin .mod (.bif .int (.bin .add (.bin .mul (.sub (.var 0) (.lit (.str "screw"))) (.lit (.int 39373))) (.lit (.int 101)))) (.lit (.int 2147483563)))) (.cons (.ret (.bin .mod (.bif .int (.bin .fdiv (.sub (.var 0) (.lit (.str "screw"))) (.lit (.int 2048)))) (.var 1))) .nil)))
def O__law_pour : Orc := fun i => match i with
  | _ => fun _ => .bad
def F__law_pour : List Sl → COut := callOf O__law_pour 2 3 B__law_pour
/-! _law_some -/
def B__law_some : Ss := (.cons (.ret (.sub (.var 1) (.call 22 (.cons (.var 0) (.cons (.bif .len (.var 1)) .nil)) [true, false] (List.range 2)))) .nil)
def O__law_some : Orc := fun i => match i with
  | 22 => F__law_pour
  | _ => fun _ => .bad
def F__law_some : List Sl → COut := callOf O__law_some 2 2 B__law_some
/-! _law_equal -/
def B__law_equal : Ss := (.cons (.ret (.and (.cmp .eq (.bif .repr (.var 0)) (.bif .repr (.var 1))) (.cmp .eq (.var 0) (.var 1)))) .nil)
def O__law_equal : Orc := fun i => match i with
  | _ => fun _ => .bad
def F__law_equal : List Sl → COut := callOf O__law_equal 2 2 B__law_equal
/-! _law_words -/
def B__law_words : Ss := (.cons (.ret (.ite (.val (.cmp .ne (.var 0) (.tup .nil))) (.met1 .join (.lit (.str " ")) (.lc (.bif .str (.var 1)) (.nm 1) (.val (.var 0)) .nil [1])) (.lit (.str "-")))) .nil)
def O__law_words : Orc := fun i => match i with
  | _ => fun _ => .bad
def F__law_words : List Sl → COut := callOf O__law_words 1 2 B__law_words
/-! _law_is_value -/
def B__law_is_value : Ss := (.cons (.if_ (.val (.isi (.var 0) .str)) (.cons (.ret (.and (.chn .lt .lt (.lit (.int 0)) (.bif .len (.var 0)) (.lit (.int 9))) (.bif .all (.lc (.cmp .in_ (.var 1) (.lit (.str "abcdefghijklmnopqrstuvwxyz"))) (.nm 1) (.val (.var 0)) .nil [1])))) .nil) .nil) (.cons (.ret (.and (.isi (.var 0) .int) (.and (.not (.isi (.var 0) .bool)) (.chn .lt .lt (.lit (.int (-10000))) (.var 0) (.lit (.int 10000)))))) .nil))
def O__law_is_value : Orc := fun i => match i with
  | _ => fun _ => .bad
def F__law_is_value : List Sl → COut := callOf O__law_is_value 1 2 B__law_is_value
/-! _law_drawn -/
def B__law_drawn : Ss := (.cons (.ret (.call 23 (.cons (.var 0) (.cons (.tup (.cons (.lit (.int 0)) (.cons (.lit (.int 7)) (.cons (.lit (.int (-7))) (.cons (.lit (.int 9999)) (.cons (.lit (.int (-9999))) (.cons (.lit (.int 10)) (.cons (.lit (.str "a")) (.cons (.lit (.str "rome")) (.cons (.lit (.str "zzzzzzzz")) (.cons (.lit (.str "aa")) (.cons (.lit (.str "ab")) (.cons (.lit (.str "b")) (.cons (.lit (.int (-1))) (.cons (.lit (.int 123)) .nil))))))))))))))) .nil)) [true, false] (List.range 2))) .nil)
def O__law_drawn : Orc := fun i => match i with
  | 23 => F__law_some
  | _ => fun _ => .bad
def F__law_drawn : List Sl → COut := callOf O__law_drawn 1 1 B__law_drawn
/-! _law_less -/
def B__law_less : Ss := (.cons (.for_ (.tp [(.nm 2), (.nm 3)]) (.zip (.var 0) (.var 1)) (.cons (.if_ (.val (.cmp .ne (.bif .repr (.var 2)) (.bif .repr (.var 3)))) (.cons (.if_ (.val (.cmp .ne (.isi (.var 2) .str) (.isi (.var 3) .str))) (.cons (.ret (.isi (.var 3) .str)) .nil) .nil) (.cons (.ret (.cmp .lt (.var 2) (.var 3))) .nil)) .nil) .nil)) (.cons (.ret (.cmp .lt (.bif .len (.var 0)) (.bif .len (.var 1)))) .nil))
def O__law_less : Orc := fun i => match i with
  | _ => fun _ => .bad
def F__law_less : List Sl → COut := callOf O__law_less 2 4 B__law_less
/-! _law_sorted -/
def B__law_sorted : Ss := (.cons (.set 1 (.lst .nil)) (.cons (.for_ (.nm 2) (.val (.var 0)) (.cons (.set 3 (.lc (.var 4) (.nm 4) (.val (.var 1)) (.cons (.val (.call 28 (.cons (.var 4) (.cons (.var 2) .nil)) [false, false] (List.range 2))) .nil) [4])) (.cons (.set 1 (.bin .add (.bin .add (.var 3) (.lst (.cons (.var 2) .nil))) (.slc (.var 1) (.bif .len (.var 3)) (.lit .non)))) .nil))) (.cons (.ret (.bif .tuple (.var 1))) .nil)))
def O__law_sorted : Orc := fun i => match i with
  | 28 => F__law_less
  | _ => fun _ => .bad
def F__law_sorted : List Sl → COut := callOf O__law_sorted 1 5 B__law_sorted
/-! _law_read -/
def B__law_read : Ss := (.cons (.if_ (.val (.cmp .eq (.var 0) (.lit (.str "-")))) (.cons (.ret (.tup .nil)) .nil) .nil) (.cons (.set 1 (.tup .nil)) (.cons (.for_ (.nm 2) (.val (.met1 .split (.var 0) (.lit (.str " ")))) (.cons (.set 3 (.ite (.val (.cmp .eq (.slc (.var 2) (.lit .non) (.lit (.int 1))) (.lit (.str "-")))) (.slc (.var 2) (.lit (.int 1)) (.lit .non)) (.var 2))) (.cons (.set 4 (.and (.cmp .ne (.var 3) (.lit (.str ""))) (.and (.cmp .lt (.bif .len (.var 3)) (.lit (.int 5))) (.bif .all (.lc (.cmp .in_ (.var 5) (.lit (.str "0123456789"))) (.nm 5) (.val (.var 3)) .nil [5]))))) (.cons (.set 1 (.bin .add (.var 1) (.tup (.cons (.ite (.val (.var 4)) (.bif .int (.var 2)) (.var 2)) .nil)))) .nil)))) (.cons (.ret (.ite (.and (.val (.bif .all (.lc (.call 26 (.cons (.var 6) .nil) [false] (List.range 1)) (.nm 6) (.val (.var 1)) .nil [6]))) (.val (.cmp .eq (.call 25 (.cons (.var 1) .nil) [false] (List.range 1)) (.var 0)))) (.var 1) (.lit .non))) .nil))))
def O__law_read : Orc := fun i => match i with
  | 25 => F__law_words
  | 26 => F__law_is_value
  | _ => fun _ => .bad
def F__law_read : List Sl → COut := callOf O__law_read 1 7 B__law_read
/-! _law_texts_right -/
def B__law_texts_right : Ss := (.cons (.set 2 (.call 25 (.cons (.var 1) .nil) [false] (List.range 1))) (.cons (.if_ (.not (.val (.call 24 (.cons (.tup (.cons (.call 18 (.cons (.var 1) .nil) [false] (List.range 1)) (.cons (.call 18 (.cons (.var 1) .nil) [false] (List.range 1)) (.cons (.call 19 (.cons (.var 2) .nil) [false] (List.range 1)) (.cons (.call 19 (.cons (.var 2) .nil) [false] (List.range 1)) .nil))))) (.cons (.tup (.cons (.var 2) (.cons (.var 2) (.cons (.var 1) (.cons (.var 1) .nil))))) .nil)) [false, false] (List.range 2)))) (.cons (.ret (.lit (.bl false))) .nil) .nil) (.cons (.set 3 (.call 22 (.cons (.var 0) (.cons (.bin .add (.bif .len (.var 2)) (.lit (.int 1))) .nil)) [true, false] (List.range 2))) (.cons (.set 4 (.bin .add (.lc (.bin .add (.bin .add (.slc (.var 2) (.lit .non) (.var 3)) (.var 5)) (.slc (.var 2) (.var 3) (.lit .non))) (.nm 5) (.val (.lit (.str " -0aA,?"))) .nil [5]) (.lst (.cons (.bin .add (.slc (.var 2) (.lit .non) (.var 3)) (.slc (.var 2) (.bin .add (.var 3) (.lit (.int 1))) (.lit .non))) (.cons (.bin .add (.var 2) (.lit (.str " "))) (.cons (.lit (.str "")) (.cons (.lit (.str "--1")) (.cons (.lit (.str "01")) (.cons (.lit (.str "+1")) (.cons (.lit (.str "-0")) (.cons (.lit (.str "10000")) (.cons (.lit (.str "abcdefghi")) (.cons (.lit (.str " a")) (.cons (.lit (.str "a  b")) (.cons (.lit (.str "- a")) (.cons (.lit (.str "a -")) (.cons (.lit (.str "1 -")) (.cons (.lit (.str "a\n")) .nil)))))))))))))))))) (.cons (.for_ (.nm 6) (.val (.var 4)) (.cons (.set 7 (.call 31 (.cons (.var 6) .nil) [false] (List.range 1))) (.cons (.if_ (.not (.val (.call 24 (.cons (.heard (.pair "told") [([1], (.pair "text")), ([0], (.pair "values")), ([0, 1], (.const (.frz (.tup [(.str "other"), .non]))))] (.call 19 (.cons (.var 6) .nil) [false] (List.range 1))) (.cons (.ite (.val (.cmp .isnot (.var 7) (.lit .non))) (.tup (.cons (.lit (.str "told")) (.cons (.var 7) .nil))) (.tup (.cons (.lit (.str "text")) (.cons (.var 6) .nil)))) .nil)) [false, false] (List.range 2)))) (.cons (.ret (.lit (.bl false))) .nil) .nil) .nil))) (.cons (.ret (.lit (.bl true))) .nil))))))
def O__law_texts_right : Orc := fun i => match i with
  | 18 => F_values_text
  | 19 => F_read_values
  | 22 => F__law_pour
  | 24 => F__law_equal
  | 25 => F__law_words
  | 31 => F__law_read
  | _ => fun _ => .bad
def F__law_texts_right : List Sl → COut := callOf O__law_texts_right 2 8 B__law_texts_right
/-! _law_bears -/
def B__law_bears : Ss := (.cons (.set 1 (.lst (.cons (.lit .non) (.cons (.lit (.bl true)) (.cons (.lit (.bl false)) (.cons (.lit (.str "")) (.cons (.lit (.str "A")) (.cons (.lit (.str "a b")) (.cons (.lit (.str "a1")) (.cons (.lit (.str "abcdefghi")) (.cons (.lit (.str "zzzzzzzz")) (.cons (.lit (.int 9999)) (.cons (.lit (.int (-9999))) (.cons (.lit (.int 10000)) (.cons (.lit (.int (-10000))) (.cons (.bin .pow (.lit (.int 10)) (.lit (.int 30))) (.cons (.tup .nil) (.cons (.tup (.cons (.lit (.int 1)) .nil)) (.cons (.lst (.cons (.lit (.str "a")) .nil)) (.cons (.dict .nil) (.cons (.lit (.str "-")) (.cons (.lit (.str "a-b")) (.cons (.lit (.int 0)) .nil))))))))))))))))))))))) (.cons (.if_ (.not (.val (.bif .all (.lc (.call 24 (.cons (.tup (.cons (.call 17 (.cons (.var 2) .nil) [false] (List.range 1)) (.cons (.call 17 (.cons (.var 2) .nil) [false] (List.range 1)) .nil))) (.cons (.bin .mul (.tup (.cons (.call 26 (.cons (.var 2) .nil) [false] (List.range 1)) .nil)) (.lit (.int 2))) .nil)) [false, false] (List.range 2)) (.nm 2) (.val (.var 1)) .nil [2])))) (.cons (.ret (.lit (.bl false))) .nil) .nil) (.cons (.for_ (.nm 3) (.range (.lit (.int 8))) (.cons (.set 4 (.bif .tuple (.lc (.call 27 (.cons (.var 0) .nil) [true] (List.range 1)) (.nm 5) (.range (.call 22 (.cons (.var 0) (.cons (.lit (.int 6)) .nil)) [true, false] (List.range 2))) .nil [5]))) (.cons (.if_ (.or (.not (.val (.bif .all (.lc (.call 17 (.cons (.var 6) .nil) [false] (List.range 1)) (.nm 6) (.val (.var 4)) .nil [6])))) (.not (.val (.call 32 (.cons (.var 0) (.cons (.var 4) .nil)) [true, false] (List.range 2))))) (.cons (.ret (.lit (.bl false))) .nil) .nil) (.cons (.set 7 (.tup .nil)) (.cons (.for_ (.nm 8) (.range (.call 22 (.cons (.var 0) (.cons (.lit (.int 12)) .nil)) [true, false] (List.range 2))) (.cons (.set 6 (.bif .tuple (.lc (.call 27 (.cons (.var 0) .nil) [true] (List.range 1)) (.nm 5) (.range (.call 22 (.cons (.var 0) (.cons (.lit (.int 4)) .nil)) [true, false] (List.range 2))) .nil [5]))) (.cons (.set 7 (.bin .add (.var 7) (.ite (.val (.cmp .notin (.var 6) (.var 7))) (.tup (.cons (.var 6) .nil)) (.tup .nil)))) .nil))) (.cons (.set 9 (.call 29 (.cons (.var 7) .nil) [false] (List.range 1))) (.cons (.if_ (.not (.val (.call 24 (.cons (.tup (.cons (.call 20 (.cons (.var 7) .nil) [false] (List.range 1)) (.cons (.call 20 (.cons (.var 7) .nil) [false] (List.range 1)) (.cons (.call 20 (.cons (.rev (.var 7)) .nil) [false] (List.range 1)) (.cons (.call 20 (.cons (.var 9) .nil) [false] (List.range 1)) .nil))))) (.cons (.bin .mul (.tup (.cons (.var 9) .nil)) (.lit (.int 4))) .nil)) [false, false] (List.range 2)))) (.cons (.ret (.lit (.bl false))) .nil) .nil) (.cons (.set 10 (.lst (.cons (.lit .non) (.cons (.bif .list (.var 7)) (.cons (.bin .add (.var 7) (.tup (.cons (.lit (.str "a")) .nil))) (.cons (.bin .add (.var 7) (.tup (.cons (.tup (.cons (.lit (.bl true)) .nil)) .nil))) (.cons (.bin .add (.var 7) (.tup (.cons (.tup (.cons (.lit (.str "A")) .nil)) .nil))) (.cons (.bin .add (.var 7) (.tup (.cons (.lst (.cons (.lit (.int 1)) .nil)) .nil))) (.cons (.bin .add (.var 7) (.tup (.cons (.lit .non) .nil))) (.cons (.bin .add (.var 7) (.tup (.cons (.tup (.cons (.lit (.int 1)) (.cons (.lit (.int 10000)) .nil))) .nil))) (.cons (.lit (.str "a")) (.cons (.lit (.int 5)) (.cons (.bin .add (.var 7) (.tup (.cons (.tup (.cons (.tup (.cons (.lit (.str "a")) .nil)) .nil)) .nil))) .nil))))))))))))) (.cons (.if_ (.not (.val (.bif .all (.lc (.call 24 (.cons (.heard (.pair "told") [([1], (.pair "text")), ([0], (.pair "values")), ([0, 1], (.const (.frz (.tup [(.str "other"), .non]))))] (.call 20 (.cons (.var 2) .nil) [false] (List.range 1))) (.cons (.tup (.cons (.lit (.str "values")) (.cons (.var 2) .nil))) .nil)) [false, false] (List.range 2)) (.nm 2) (.val (.var 10)) .nil [2])))) (.cons (.ret (.lit (.bl false))) .nil) .nil) (.cons (.if_ (.and (.val (.cmp .ne (.var 7) (.tup .nil))) (.not (.val (.call 24 (.cons (.heard (.pair "told") [([1], (.pair "text")), ([0], (.pair "values")), ([0, 1], (.const (.frz (.tup [(.str "other"), .non]))))] (.call 20 (.cons (.bin .add (.var 7) (.slc (.var 7) (.lit .non) (.lit (.int 1)))) .nil) [false] (List.range 1))) (.cons (.tup (.cons (.lit (.str "values")) (.cons (.bin .add (.var 7) (.slc (.var 7) (.lit .non) (.lit (.int 1)))) .nil))) .nil)) [false, false] (List.range 2))))) (.cons (.ret (.lit (.bl false))) .nil) .nil) (.cons (.set 11 (.lst (.cons (.lit .non) (.cons (.bif .list (.var 4)) (.cons (.bin .add (.var 4) (.tup (.cons (.lit .non) .nil))) (.cons (.bin .add (.var 4) (.tup (.cons (.tup .nil) .nil))) (.cons (.bin .add (.var 4) (.tup (.cons (.lit (.bl true)) .nil))) (.cons (.lit (.str "a")) (.cons (.lit (.int 5)) (.cons (.bin .add (.var 4) (.tup (.cons (.lit (.str "a b")) .nil))) .nil)))))))))) (.cons (.if_ (.not (.val (.bif .all (.lc (.call 24 (.cons (.heard (.pair "told") [([1], (.pair "text")), ([0], (.pair "values")), ([0, 1], (.const (.frz (.tup [(.str "other"), .non]))))] (.call 18 (.cons (.var 2) .nil) [false] (List.range 1))) (.cons (.tup (.cons (.lit (.str "values")) (.cons (.var 2) .nil))) .nil)) [false, false] (List.range 2)) (.nm 2) (.val (.var 11)) .nil [2])))) (.cons (.ret (.lit (.bl false))) .nil) .nil) .nil)))))))))))) (.cons (.ret (.lit (.bl true))) .nil))))
def O__law_bears : Orc := fun i => match i with
  | 17 => F_is_value
  | 18 => F_values_text
  | 20 => F_ascending
  | 22 => F__law_pour
  | 24 => F__law_equal
  | 26 => F__law_is_value
  | 27 => F__law_drawn
  | 29 => F__law_sorted
  | 32 => F__law_texts_right
  | _ => fun _ => .bad
def F__law_bears : List Sl → COut := callOf O__law_bears 1 12 B__law_bears
/-! law -/
def B_law : Ss := (.cons (.ret (.bif .all (.lc (.call 33 (.cons (.call 21 (.cons (.var 0) (.cons (.var 1) .nil)) [false, false] (List.range 2)) .nil) [false] (List.range 1)) (.nm 1) (.val (.tup (.cons (.lit (.int 0)) (.cons (.lit (.int 1)) .nil)))) .nil [1]))) .nil)
def O_law : Orc := fun i => match i with
  | 21 => F__law_jug
  | 33 => F__law_bears
  | _ => fun _ => .bad
def F_law : List Sl → COut := callOf O_law 1 2 B_law
end K02


namespace K02
open PySem PySem.Spec PyProof.Rows PM
open L2 hiding St
def fa : List He.Fa := [
.free "isinstance",
  .free "bool",
  .free "int",
  .free "len",
  .str "FIGURES" "0123456789",
  .free "all",
  .int "LONGEST_NUMBER" 100,
  .str "LETTERS" "abcdefghijklmnopqrstuvwxyz",
  .free "str",
  .int "LONGEST_NAME" 8,
  .int "GREATEST" 9999,
  .free "tuple",
  .free "sorted",
  .str "BLANK" " ",
  .str "NOTHING" "-",
  .str "MINUS" "-",
  .free "abs",
  .free "list",
  .free "enumerate",
  .free "repr",
  .free "zip",
  .glo "InvalidText",
  .glo "InvalidValues",
  .glo "EitherError",
  .glo "_law_heard",
  .free "range",
  .glo "is_whole",
  .glo "is_between",
  .glo "are_unlike",
  .glo "plain_number"] ++ [.glo "are_letters",
  .glo "is_name",
  .glo "value_ok",
  .glo "values_ok",
  .glo "value_order",
  .glo "values_order",
  .glo "ascending_by",
  .glo "text_of_value",
  .glo "text_of_values",
  .glo "value_from",
  .glo "values_from",
  .glo "check_values",
  .glo "check_text",
  .glo "is_value",
  .glo "values_text",
  .glo "read_values",
  .glo "ascending",
  .glo "_law_jug",
  .glo "_law_pour",
  .glo "_law_some",
  .glo "_law_equal",
  .glo "_law_words",
  .glo "_law_is_value",
  .glo "_law_drawn",
  .glo "_law_less",
  .glo "_law_sorted",
  .glo "_law_read",
  .glo "_law_texts_right",
  .glo "_law_bears",
  .glo "law"]
def fn : List He.DefD := [
⟨("is_whole", none), "is_whole", "is_whole", defArgs (top 5), defBody (top 5), defScope (top 5), [], []⟩,
  ⟨("is_between", none), "is_between", "is_between", defArgs (top 6), defBody (top 6), defScope (top 6), [], []⟩,
  ⟨("are_unlike", none), "are_unlike", "are_unlike", defArgs (top 7), defBody (top 7), defScope (top 7), [], []⟩,
  ⟨("plain_number", none), "plain_number", "plain_number", defArgs (top 8), defBody (top 8), defScope (top 8), [], []⟩,
  ⟨("are_letters", none), "are_letters", "are_letters", defArgs (top 9), defBody (top 9), defScope (top 9), [], []⟩,
  ⟨("is_name", none), "is_name", "is_name", defArgs (top 10), defBody (top 10), defScope (top 10), [], []⟩,
  ⟨("value_ok", none), "value_ok", "value_ok", defArgs (top 16), defBody (top 16), defScope (top 16), [], []⟩,
  ⟨("values_ok", none), "values_ok", "values_ok", defArgs (top 17), defBody (top 17), defScope (top 17), [], []⟩,
  ⟨("value_order", none), "value_order", "value_order", defArgs (top 18), defBody (top 18), defScope (top 18), [], []⟩,
  ⟨("values_order", none), "values_order", "values_order", defArgs (top 19), defBody (top 19), defScope (top 19), [], []⟩,
  ⟨("ascending_by", none), "ascending_by", "ascending_by", defArgs (top 20), defBody (top 20), defScope (top 20), [], []⟩,
  ⟨("text_of_value", none), "text_of_value", "text_of_value", defArgs (top 21), defBody (top 21), defScope (top 21), [], []⟩,
  ⟨("text_of_values", none), "text_of_values", "text_of_values", defArgs (top 22), defBody (top 22), defScope (top 22), [], []⟩,
  ⟨("value_from", none), "value_from", "value_from", defArgs (top 23), defBody (top 23), defScope (top 23), [], []⟩,
  ⟨("values_from", none), "values_from", "values_from", defArgs (top 24), defBody (top 24), defScope (top 24), [], []⟩,
  ⟨("check_values", none), "check_values", "check_values", defArgs (top 30), defBody (top 30), defScope (top 30), [], []⟩,
  ⟨("check_text", none), "check_text", "check_text", defArgs (top 31), defBody (top 31), defScope (top 31), [], []⟩,
  ⟨("is_value", none), "is_value", "is_value", defArgs (top 33), defBody (top 33), defScope (top 33), [], []⟩,
  ⟨("values_text", none), "values_text", "values_text", defArgs (top 34), defBody (top 34), defScope (top 34), [], []⟩,
  ⟨("read_values", none), "read_values", "read_values", defArgs (top 35), defBody (top 35), defScope (top 35), [], []⟩,
  ⟨("ascending", none), "ascending", "ascending", defArgs (top 36), defBody (top 36), defScope (top 36), [], []⟩,
  ⟨("_law_jug", none), "_law_jug", "_law_jug", defArgs (top 38), defBody (top 38), defScope (top 38), [], []⟩,
  ⟨("_law_pour", none), "_law_pour", "_law_pour", defArgs (top 39), defBody (top 39), defScope (top 39), [], []⟩,
  ⟨("_law_some", none), "_law_some", "_law_some", defArgs (top 40), defBody (top 40), defScope (top 40), [], []⟩,
  ⟨("_law_equal", none), "_law_equal", "_law_equal", defArgs (top 41), defBody (top 41), defScope (top 41), [], []⟩,
  ⟨("_law_words", none), "_law_words", "_law_words", defArgs (top 42), defBody (top 42), defScope (top 42), [], []⟩,
  ⟨("_law_is_value", none), "_law_is_value", "_law_is_value", defArgs (top 43), defBody (top 43), defScope (top 43), [], []⟩,
  ⟨("_law_drawn", none), "_law_drawn", "_law_drawn", defArgs (top 44), defBody (top 44), defScope (top 44), [], []⟩,
  ⟨("_law_less", none), "_law_less", "_law_less", defArgs (top 45), defBody (top 45), defScope (top 45), [], []⟩,
  ⟨("_law_sorted", none), "_law_sorted", "_law_sorted", defArgs (top 46), defBody (top 46), defScope (top 46), [], []⟩] ++ [⟨("_law_heard", none), "_law_heard", "_law_heard", defArgs (top 47), defBody (top 47), defScope (top 47), [], []⟩,
  ⟨("_law_read", none), "_law_read", "_law_read", defArgs (top 48), defBody (top 48), defScope (top 48), [], []⟩,
  ⟨("_law_texts_right", none), "_law_texts_right", "_law_texts_right", defArgs (top 49), defBody (top 49), defScope (top 49), [], []⟩,
  ⟨("_law_bears", none), "_law_bears", "_law_bears", defArgs (top 50), defBody (top 50), defScope (top 50), [], []⟩,
  ⟨("law", none), "law", "law", defArgs (top 51), defBody (top 51), defScope (top 51), [], []⟩,
  ⟨("InvalidValues", some "__init__"), "__init__", "InvalidValues.__init__", defArgs (inCls (top 27) 0), defBody (inCls (top 27) 0), defScope (inCls (top 27) 0), [], []⟩,
  ⟨("InvalidText", some "__init__"), "__init__", "InvalidText.__init__", defArgs (inCls (top 28) 0), defBody (inCls (top 28) 0), defScope (inCls (top 28) 0), [], []⟩]
def tf : List He.Defn := [("_law_texts_right", none), ("_law_bears", none)]
def kcs : List CN := [⟨"InvalidValues", "given"⟩, ⟨"InvalidText", "given"⟩]
def exL (K : PySem.W.Frag) : List Bool := [kcs.all (clsOneB K), decide (tf.map fun p => (He.cT K p).2).Nodup, noLst K, exmB K kcs "InvalidText" [1], exmB K kcs "InvalidValues" [0], exmB K kcs "EitherError" [0, 1]]
abbrev exB (K : PySem.W.Frag) : Bool := (exL K).all id
abbrev TT (K : PySem.W.Frag) : Tb := ⟨fun _ => none, clsAt kcs K, []⟩
section
variable [TC]
structure HD (P : Program) (w : World) (K : PySem.W.Frag) (h base : Heap) (mg : Str → Option Value) : Prop extends Hd fa fn tf kcs (fun K => (exL K).all id) w K h base mg where
  ts : TC.ts = tsOf K tf
variable {P : Program} {w : World} {K : PySem.W.Frag} {h base : Heap} {mg : Str → Option Value}
theorem HD.free (Z : HD P w K h base mg) (i : Nat) {x : Str} (e : fa[i]? = some (.free x) := by rfl) : mg x = none := Z.toHd.free i e
theorem HD.glo (Z : HD P w K h base mg) (i : Nat) {x : Str} (e : fa[i]? = some (.glo x) := by rfl) : mg x = some (.ref (He.ga K x)) := Z.toHd.glo i e
theorem HD.int (Z : HD P w K h base mg) (i : Nat) {x : Str} {n : Int} (e : fa[i]? = some (.int x n) := by rfl) : ∃ t, mg x = some (.int n t) := Z.toHd.int i e
theorem HD.str (Z : HD P w K h base mg) (i : Nat) {x y : Str} (e : fa[i]? = some (.str x y) := by rfl) : ∃ t, mg x = some (.str y t) := Z.toHd.str i e
theorem HD.def_ (Z : HD P w K h base mg) (i : Nat) {d : He.DefD} (e : fn[i]? = some d := by rfl) : ∃ fd, FunD K d.name d.qual d.params d.body d.scope (d.dvs K) (d.kws K) (He.fAd K d.at_) fd := Z.toHd.def_ i e
theorem HD.clsI (Z : HD P w K h base mg) (i : Nat) {c : CN} (e : kcs[i]? = some c := by rfl) : ClsOne K c := Z.toHd.clsI i e
theorem HD.exI (Z : HD P w K h base mg) (i : Nat) {b : Bool} (e : (exL K)[i]? = some b := by rfl) : b = true := Z.toHd.exI i e
theorem B_ (Z : HD P w K h base mg) : Tbs K tf base mg := ⟨Z.ts, of_decide_eq_true (Z.exI 1), Z.tb⟩
theorem r_InvalidValues (Z : HD P w K h base mg) : RaiseOk P w K mg base ⟨"InvalidValues", "given"⟩ := by
  obtain ⟨fd, D⟩ := Z.def_ 35
  exact ⟨fd, ["self", "given"], (Z.glo 22), init_ok (C := ⟨"InvalidValues", "given"⟩) D (Z.clsI 0) ⟨rfl, rfl, rfl, by decide +kernel, rfl, by decide +kernel, by decide +kernel⟩ (fun _ => rfl) rfl rfl, D.bindsN fun _ _ _ _ _ _ us hl => match us, hl with | [_, _], _ => rfl⟩
theorem r_InvalidText (Z : HD P w K h base mg) : RaiseOk P w K mg base ⟨"InvalidText", "given"⟩ := by
  obtain ⟨fd, D⟩ := Z.def_ 36
  exact ⟨fd, ["self", "given"], (Z.glo 21), init_ok (C := ⟨"InvalidText", "given"⟩) D (Z.clsI 1) ⟨rfl, rfl, rfl, by decide +kernel, rfl, by decide +kernel, by decide +kernel⟩ (fun _ => rfl) rfl rfl, D.bindsN fun _ _ _ _ _ _ us hl => match us, hl with | [_, _], _ => rfl⟩
end
end K02


namespace K02
open PySem PySem.Spec PyProof.Rows PM
open L2 (FnScope defScope defArgs defBody FunD Cx)
variable [TC] {P : Program} {w : World} {K : PySem.W.Frag} {h base : Heap} {mg : Str → Option Value}
theorem sc_is_whole : FnScope ["value"] ["value"] (defScope (top 5)) := ⟨rfl, rfl, rfl, by decide +kernel, rfl, by decide +kernel, by decide +kernel⟩
set_option maxHeartbeats 8000000 in
theorem b_is_whole (Z : HD P w K h base mg) : BodyOk P w K mg base (TT K) (PM.fldAt kcs) 0 ["value"] "is_whole" (defScope (top 5)) O_is_whole (defBody (top 5)) B_is_whole := by
  intro A s0 H0 L outer ex calm pn xe J b hp hf
  exact (pss_cons (PM.ps_ret (PM.pe_and (pe_isi b.hG rfl (Z.free 0) (c := .int) rfl (Z.free 2) (po_var rfl (vis_by rfl) rfl rfl)) (PM.pe_one (pe_not b.hG (po_val (pe_isi b.hG rfl (Z.free 0) (c := .bool) rfl (Z.free 1) (po_var rfl (vis_by rfl) rfl rfl)) (fun _ z => by cases z))))))
  pss_nil)
theorem f_is_whole (Z : HD P w K h base mg) : CallOk P w K mg base 1 "is_whole" ["value"] (spF (GG P w K (TT K)) (PM.fldAt kcs) 1 F_is_whole) := by
  obtain ⟨fd, D⟩ := Z.def_ 0
  exact def_ok (T := TT K) (B := B_is_whole) (orc := O_is_whole) D (Z.glo 26) sc_is_whole rfl rfl (fun _ _ _ _ _ _ us hl => match us, hl with | [_], _ => rfl) (fun _ _ _ _ _ _ us hl => match us, hl with | [_], _ => rfl) (b_is_whole Z)
theorem sc_is_between : FnScope ["value", "low", "high"] ["value", "low", "high"] (defScope (top 6)) := ⟨rfl, rfl, rfl, by decide +kernel, rfl, by decide +kernel, by decide +kernel⟩
set_option maxHeartbeats 8000000 in
theorem b_is_between (Z : HD P w K h base mg) : BodyOk P w K mg base (TT K) (PM.fldAt kcs) 1 ["value", "low", "high"] "is_between" (defScope (top 6)) O_is_between (defBody (top 6)) B_is_between := by
  intro A s0 H0 L outer ex calm pn xe J b hp hf
  exact (pss_cons (PM.ps_ret (PM.pe_and (pe_callC (F := F_is_whole) b hf (f_is_whole Z) rfl (by decide) rfl (paa_cons (parg_val (pe_nm rfl (vis_by rfl) rfl rfl)) paa_nil) rfl) (PM.pe_one (pe_chn (o := .le) (p := .le) b.hG b.hu (po_var rfl (vis_by rfl) rfl rfl) (po_var rfl (vis_by rfl) rfl rfl) (po_var rfl (vis_by rfl) rfl rfl) rfl))))
  pss_nil)
theorem f_is_between (Z : HD P w K h base mg) : CallOk P w K mg base 2 "is_between" ["value", "low", "high"] (spF (GG P w K (TT K)) (PM.fldAt kcs) 3 F_is_between) := by
  obtain ⟨fd, D⟩ := Z.def_ 1
  exact def_ok (T := TT K) (B := B_is_between) (orc := O_is_between) D (Z.glo 27) sc_is_between rfl rfl (fun _ _ _ _ _ _ us hl => match us, hl with | [_, _, _], _ => rfl) (fun _ _ _ _ _ _ us hl => match us, hl with | [_, _, _], _ => rfl) (b_is_between Z)
theorem sc_are_unlike : FnScope ["things", "known", "thing"] ["things"] (defScope (top 7)) := ⟨rfl, rfl, rfl, by decide +kernel, rfl, by decide +kernel, by decide +kernel⟩
set_option maxHeartbeats 8000000 in
theorem b_are_unlike (Z : HD P w K h base mg) : BodyOk P w K mg base (TT K) (PM.fldAt kcs) 0 ["things", "known", "thing"] "are_unlike" (defScope (top 7)) O_are_unlike (defBody (top 7)) B_are_unlike := by
  intro A s0 H0 L outer ex calm pn xe J b hp hf
  exact (pss_cons (PM.ps_set b.nd rfl (loc_by rfl) (pe_dict0 b.hG) (.inl rfl))
  (pss_cons (PM.ps_for hp b.calm (PM.pi_val b.hG (pe_nm rfl (vis_by rfl) rfl rfl)) (PM.pg_nm b.nd rfl (loc_by rfl) (by first | exact .inl rfl | exact .inr rfl)) (pss_cons (ps_setk b.hG b.hu rfl (vis_by rfl) rfl rfl pe_lbl (pe_nm rfl (vis_by rfl) rfl rfl))
  pss_nil))
  (pss_cons (PM.ps_ret (PM.pe_cmp (o := .eq) b.hG b.hu (po_val (pe_bif (b := .len) b.hG b.calm b.hu b.gd rfl (Z.free 3) (po_var rfl (vis_by rfl) rfl rfl)) (fun _ z => by cases z)) (po_val (pe_bif (b := .len) b.hG b.calm b.hu b.gd rfl (Z.free 3) (po_var rfl (vis_by rfl) rfl rfl)) (fun _ z => by cases z)) rfl))
  pss_nil)))
theorem f_are_unlike (Z : HD P w K h base mg) : CallOk P w K mg base 1 "are_unlike" ["things"] (spF (GG P w K (TT K)) (PM.fldAt kcs) 1 F_are_unlike) := by
  obtain ⟨fd, D⟩ := Z.def_ 2
  exact def_ok (T := TT K) (B := B_are_unlike) (orc := O_are_unlike) D (Z.glo 28) sc_are_unlike rfl rfl (fun _ _ _ _ _ _ us hl => match us, hl with | [_], _ => rfl) (fun _ _ _ _ _ _ us hl => match us, hl with | [_], _ => rfl) (b_are_unlike Z)
theorem sc_plain_number : FnScope ["text", "low", "high", "sign", "number"] ["text", "low", "high"] (defScope (top 8)) := ⟨rfl, rfl, rfl, by decide +kernel, rfl, by decide +kernel, by decide +kernel⟩
set_option maxHeartbeats 8000000 in
theorem b_plain_number (Z : HD P w K h base mg) : BodyOk P w K mg base (TT K) (PM.fldAt kcs) 2 ["text", "low", "high", "sign", "number"] "plain_number" (defScope (top 8)) O_plain_number (defBody (top 8)) B_plain_number := by
  intro A s0 H0 L outer ex calm pn xe J b hp hf
  exact (pss_cons (PM.ps_if (L2.PW.pt (PM.pw_or (PM.pt_cmp (o := .eq) b.hG b.hu (po_var rfl (vis_by rfl) rfl rfl) (po_val pe_lstr (fun _ z => by cases z)) rfl) (PM.pw_or (PM.pt_cmp (o := .gt) b.hG b.hu (po_val (pe_bif (b := .len) b.hG b.calm b.hu b.gd rfl (Z.free 3) (po_var rfl (vis_by rfl) rfl rfl)) (fun _ z => by cases z)) (po_val (pe_gint rfl (Z.int 6)) (fun _ z => by cases z)) rfl) (PM.pw_or1 (PM.pt_not (PM.pt_val b.hG (po_val (pe_bif (b := .all) b.hG b.calm b.hu b.gd rfl (Z.free 5) (po_val (pe_lcB (own := [("sign", 3)]) b (PM.pi_val b.hG (pe_nm rfl (vis_by rfl) rfl rfl)) (L2.blkOk_by (by kernel_rfl)) (fun s H C cl fp b => (PM.pg_nm b.nd rfl (loc_by rfl) (by first | exact .inl rfl | exact .inr rfl))) (by decide) (fun s H C cl fp b => pts_nil') (fun s H C cl fp b => (PM.pe_cmp (o := .in_) b.hG b.hu (po_var rfl (vis_by rfl) rfl rfl) (po_val (pe_gstr rfl (Z.str 4)) (fun _ z => by cases z)) rfl))) (fun _ z => by cases z))) (fun _ z => by cases z)) (fun _ => rfl))))))) (pss_cons (PM.ps_ret pe_lnon)
  pss_nil) pss_nil)
  (pss_cons (PM.ps_if (L2.PW.pt (PM.pw_and (PM.pt_cmp (o := .gt) b.hG b.hu (po_val (pe_bif (b := .len) b.hG b.calm b.hu b.gd rfl (Z.free 3) (po_var rfl (vis_by rfl) rfl rfl)) (fun _ z => by cases z)) (po_val pe_lint (fun _ z => by cases z)) rfl) (PM.pw_and1 (PM.pt_cmp (o := .eq) b.hG b.hu (po_val (PM.pe_sub b.hG b.hu (po_var rfl (vis_by rfl) rfl rfl) (po_val pe_lint (fun _ z => by cases z)) (fun _ _ => rfl)) (fun _ z => by cases z)) (po_val pe_lstr (fun _ z => by cases z)) rfl)))) (pss_cons (PM.ps_ret pe_lnon)
  pss_nil) pss_nil)
  (pss_cons (PM.ps_set b.nd rfl (loc_by rfl) (pe_bif (b := .int) b.hG b.calm b.hu b.gd rfl (Z.free 2) (po_var rfl (vis_by rfl) rfl rfl)) (.inl rfl))
  (pss_cons (PM.ps_ret (pe_ite (PM.pt_val b.hG (po_val (pe_callC (F := F_is_between) b hf (f_is_between Z) rfl (by decide) rfl (paa_cons (parg_val (pe_nm rfl (vis_by rfl) rfl rfl)) (paa_cons (parg_val (pe_nm rfl (vis_by rfl) rfl rfl)) (paa_cons (parg_val (pe_nm rfl (vis_by rfl) rfl rfl)) paa_nil))) rfl) (fun _ z => by cases z)) (fun _ => rfl)) (pe_nm rfl (vis_by rfl) rfl rfl) pe_lnon))
  pss_nil))))
theorem f_plain_number (Z : HD P w K h base mg) : CallOk P w K mg base 3 "plain_number" ["text", "low", "high"] (spF (GG P w K (TT K)) (PM.fldAt kcs) 3 F_plain_number) := by
  obtain ⟨fd, D⟩ := Z.def_ 3
  exact def_ok (T := TT K) (B := B_plain_number) (orc := O_plain_number) D (Z.glo 29) sc_plain_number rfl rfl (fun _ _ _ _ _ _ us hl => match us, hl with | [_, _, _], _ => rfl) (fun _ _ _ _ _ _ us hl => match us, hl with | [_, _, _], _ => rfl) (b_plain_number Z)
theorem sc_are_letters : FnScope ["value", "most", "sign"] ["value", "most"] (defScope (top 9)) := ⟨rfl, rfl, rfl, by decide +kernel, rfl, by decide +kernel, by decide +kernel⟩
set_option maxHeartbeats 8000000 in
theorem b_are_letters (Z : HD P w K h base mg) : BodyOk P w K mg base (TT K) (PM.fldAt kcs) 0 ["value", "most", "sign"] "are_letters" (defScope (top 9)) O_are_letters (defBody (top 9)) B_are_letters := by
  intro A s0 H0 L outer ex calm pn xe J b hp hf
  exact (pss_cons (PM.ps_if (L2.PW.pt (PM.pw_or (PM.pt_not (PM.pt_val b.hG (po_val (pe_isi b.hG rfl (Z.free 0) (c := .str) rfl (Z.free 8) (po_var rfl (vis_by rfl) rfl rfl)) (fun _ z => by cases z)) (fun _ => rfl))) (PM.pw_or (PM.pt_cmp (o := .eq) b.hG b.hu (po_var rfl (vis_by rfl) rfl rfl) (po_val pe_lstr (fun _ z => by cases z)) rfl) (PM.pw_or1 (PM.pt_cmp (o := .gt) b.hG b.hu (po_val (pe_bif (b := .len) b.hG b.calm b.hu b.gd rfl (Z.free 3) (po_var rfl (vis_by rfl) rfl rfl)) (fun _ z => by cases z)) (po_var rfl (vis_by rfl) rfl rfl) rfl))))) (pss_cons (PM.ps_ret pe_lbl)
  pss_nil) pss_nil)
  (pss_cons (PM.ps_ret (pe_bif (b := .all) b.hG b.calm b.hu b.gd rfl (Z.free 5) (po_val (pe_lcB (own := [("sign", 2)]) b (PM.pi_val b.hG (pe_nm rfl (vis_by rfl) rfl rfl)) (L2.blkOk_by (by kernel_rfl)) (fun s H C cl fp b => (PM.pg_nm b.nd rfl (loc_by rfl) (by first | exact .inl rfl | exact .inr rfl))) (by decide) (fun s H C cl fp b => pts_nil') (fun s H C cl fp b => (PM.pe_cmp (o := .in_) b.hG b.hu (po_var rfl (vis_by rfl) rfl rfl) (po_val (pe_gstr rfl (Z.str 7)) (fun _ z => by cases z)) rfl))) (fun _ z => by cases z))))
  pss_nil))
theorem f_are_letters (Z : HD P w K h base mg) : CallOk P w K mg base 1 "are_letters" ["value", "most"] (spF (GG P w K (TT K)) (PM.fldAt kcs) 2 F_are_letters) := by
  obtain ⟨fd, D⟩ := Z.def_ 4
  exact def_ok (T := TT K) (B := B_are_letters) (orc := O_are_letters) D (Z.glo 30) sc_are_letters rfl rfl (fun _ _ _ _ _ _ us hl => match us, hl with | [_, _], _ => rfl) (fun _ _ _ _ _ _ us hl => match us, hl with | [_, _], _ => rfl) (b_are_letters Z)
theorem sc_is_name : FnScope ["value"] ["value"] (defScope (top 10)) := ⟨rfl, rfl, rfl, by decide +kernel, rfl, by decide +kernel, by decide +kernel⟩
set_option maxHeartbeats 8000000 in
theorem b_is_name (Z : HD P w K h base mg) : BodyOk P w K mg base (TT K) (PM.fldAt kcs) 1 ["value"] "is_name" (defScope (top 10)) O_is_name (defBody (top 10)) B_is_name := by
  intro A s0 H0 L outer ex calm pn xe J b hp hf
  exact (pss_cons (PM.ps_ret (pe_callC (F := F_are_letters) b hf (f_are_letters Z) rfl (by decide) rfl (paa_cons (parg_val (pe_nm rfl (vis_by rfl) rfl rfl)) (paa_cons (parg_val (pe_gint rfl (Z.int 9))) paa_nil)) rfl))
  pss_nil)
theorem f_is_name (Z : HD P w K h base mg) : CallOk P w K mg base 2 "is_name" ["value"] (spF (GG P w K (TT K)) (PM.fldAt kcs) 1 F_is_name) := by
  obtain ⟨fd, D⟩ := Z.def_ 5
  exact def_ok (T := TT K) (B := B_is_name) (orc := O_is_name) D (Z.glo 31) sc_is_name rfl rfl (fun _ _ _ _ _ _ us hl => match us, hl with | [_], _ => rfl) (fun _ _ _ _ _ _ us hl => match us, hl with | [_], _ => rfl) (b_is_name Z)
theorem sc_value_ok : FnScope ["value"] ["value"] (defScope (top 16)) := ⟨rfl, rfl, rfl, by decide +kernel, rfl, by decide +kernel, by decide +kernel⟩
set_option maxHeartbeats 8000000 in
theorem b_value_ok (Z : HD P w K h base mg) : BodyOk P w K mg base (TT K) (PM.fldAt kcs) 2 ["value"] "value_ok" (defScope (top 16)) O_value_ok (defBody (top 16)) B_value_ok := by
  intro A s0 H0 L outer ex calm pn xe J b hp hf
  exact (pss_cons (PM.ps_ret (PM.pe_or (pe_callC (F := F_is_between) b hf (f_is_between Z) rfl (by decide) rfl (paa_cons (parg_val (pe_nm rfl (vis_by rfl) rfl rfl)) (paa_cons (parg_val (pe_bin (o := .sub) b.hG (po_val pe_lint (fun _ z => by cases z)) (po_val (pe_gint rfl (Z.int 10)) (fun _ z => by cases z)))) (paa_cons (parg_val (pe_gint rfl (Z.int 10))) paa_nil))) rfl) (PM.pe_one (pe_callC (F := F_is_name) b hf (f_is_name Z) rfl (by decide) rfl (paa_cons (parg_val (pe_nm rfl (vis_by rfl) rfl rfl)) paa_nil) rfl))))
  pss_nil)
theorem f_value_ok (Z : HD P w K h base mg) : CallOk P w K mg base 3 "value_ok" ["value"] (spF (GG P w K (TT K)) (PM.fldAt kcs) 1 F_value_ok) := by
  obtain ⟨fd, D⟩ := Z.def_ 6
  exact def_ok (T := TT K) (B := B_value_ok) (orc := O_value_ok) D (Z.glo 32) sc_value_ok rfl rfl (fun _ _ _ _ _ _ us hl => match us, hl with | [_], _ => rfl) (fun _ _ _ _ _ _ us hl => match us, hl with | [_], _ => rfl) (b_value_ok Z)
theorem sc_values_ok : FnScope ["value", "each"] ["value"] (defScope (top 17)) := ⟨rfl, rfl, rfl, by decide +kernel, rfl, by decide +kernel, by decide +kernel⟩
set_option maxHeartbeats 8000000 in
theorem b_values_ok (Z : HD P w K h base mg) : BodyOk P w K mg base (TT K) (PM.fldAt kcs) 3 ["value", "each"] "values_ok" (defScope (top 17)) O_values_ok (defBody (top 17)) B_values_ok := by
  intro A s0 H0 L outer ex calm pn xe J b hp hf
  exact (pss_cons (PM.ps_ret (PM.pe_and (pe_isi b.hG rfl (Z.free 0) (c := .tuple) rfl (Z.free 11) (po_var rfl (vis_by rfl) rfl rfl)) (PM.pe_one (pe_bif (b := .all) b.hG b.calm b.hu b.gd rfl (Z.free 5) (po_val (pe_lcB (own := [("each", 1)]) b (PM.pi_val b.hG (pe_nm rfl (vis_by rfl) rfl rfl)) (L2.blkOk_by (by kernel_rfl)) (fun s H C cl fp b => (PM.pg_nm b.nd rfl (loc_by rfl) (by first | exact .inl rfl | exact .inr rfl))) (by decide) (fun s H C cl fp b => pts_nil') (fun s H C cl fp b => (pe_callC (F := F_value_ok) b hf (f_value_ok Z) rfl (by decide) rfl (paa_cons (parg_val (pe_nm rfl (vis_by rfl) rfl rfl)) paa_nil) rfl))) (fun _ z => by cases z))))))
  pss_nil)
theorem f_values_ok (Z : HD P w K h base mg) : CallOk P w K mg base 4 "values_ok" ["value"] (spF (GG P w K (TT K)) (PM.fldAt kcs) 1 F_values_ok) := by
  obtain ⟨fd, D⟩ := Z.def_ 7
  exact def_ok (T := TT K) (B := B_values_ok) (orc := O_values_ok) D (Z.glo 33) sc_values_ok rfl rfl (fun _ _ _ _ _ _ us hl => match us, hl with | [_], _ => rfl) (fun _ _ _ _ _ _ us hl => match us, hl with | [_], _ => rfl) (b_values_ok Z)
end K02


namespace K02
open PySem PySem.Spec PyProof.Rows PM
open L2 (FnScope defScope defArgs defBody FunD Cx)
variable [TC] {P : Program} {w : World} {K : PySem.W.Frag} {h base : Heap} {mg : Str → Option Value}
theorem sc_value_order : FnScope ["value"] ["value"] (defScope (top 18)) := ⟨rfl, rfl, rfl, by decide +kernel, rfl, by decide +kernel, by decide +kernel⟩
set_option maxHeartbeats 8000000 in
theorem b_value_order (Z : HD P w K h base mg) : BodyOk P w K mg base (TT K) (PM.fldAt kcs) 1 ["value"] "value_order" (defScope (top 18)) O_value_order (defBody (top 18)) B_value_order := by
  intro A s0 H0 L outer ex calm pn xe J b hp hf
  exact (pss_cons (PM.ps_ret (pe_ite (PM.pt_val b.hG (po_val (pe_callC (F := F_is_whole) b hf (f_is_whole Z) rfl (by decide) rfl (paa_cons (parg_val (pe_nm rfl (vis_by rfl) rfl rfl)) paa_nil) rfl) (fun _ z => by cases z)) (fun _ => rfl)) (PM.pe_tup (pl_cons pe_lint (pl_cons (pe_nm rfl (vis_by rfl) rfl rfl) (pl_cons pe_lstr pl_nil)))) (PM.pe_tup (pl_cons pe_lint (pl_cons pe_lint (pl_cons (pe_nm rfl (vis_by rfl) rfl rfl) pl_nil))))))
  pss_nil)
theorem f_value_order (Z : HD P w K h base mg) : CallOk P w K mg base 2 "value_order" ["value"] (spF (GG P w K (TT K)) (PM.fldAt kcs) 1 F_value_order) := by
  obtain ⟨fd, D⟩ := Z.def_ 8
  exact def_ok (T := TT K) (B := B_value_order) (orc := O_value_order) D (Z.glo 34) sc_value_order rfl rfl (fun _ _ _ _ _ _ us hl => match us, hl with | [_], _ => rfl) (fun _ _ _ _ _ _ us hl => match us, hl with | [_], _ => rfl) (b_value_order Z)
theorem sc_values_order : FnScope ["values", "value"] ["values"] (defScope (top 19)) := ⟨rfl, rfl, rfl, by decide +kernel, rfl, by decide +kernel, by decide +kernel⟩
set_option maxHeartbeats 8000000 in
theorem b_values_order (Z : HD P w K h base mg) : BodyOk P w K mg base (TT K) (PM.fldAt kcs) 2 ["values", "value"] "values_order" (defScope (top 19)) O_values_order (defBody (top 19)) B_values_order := by
  intro A s0 H0 L outer ex calm pn xe J b hp hf
  exact (pss_cons (PM.ps_ret (pe_bif (b := .tuple) b.hG b.calm b.hu b.gd rfl (Z.free 11) (po_val (pe_lcB (own := [("value", 1)]) b (PM.pi_val b.hG (pe_nm rfl (vis_by rfl) rfl rfl)) (L2.blkOk_by (by kernel_rfl)) (fun s H C cl fp b => (PM.pg_nm b.nd rfl (loc_by rfl) (by first | exact .inl rfl | exact .inr rfl))) (by decide) (fun s H C cl fp b => pts_nil') (fun s H C cl fp b => (pe_callC (F := F_value_order) b hf (f_value_order Z) rfl (by decide) rfl (paa_cons (parg_val (pe_nm rfl (vis_by rfl) rfl rfl)) paa_nil) rfl))) (fun _ z => by cases z))))
  pss_nil)
theorem f_values_order (Z : HD P w K h base mg) : CallOk P w K mg base 3 "values_order" ["values"] (spF (GG P w K (TT K)) (PM.fldAt kcs) 1 F_values_order) := by
  obtain ⟨fd, D⟩ := Z.def_ 9
  exact def_ok (T := TT K) (B := B_values_order) (orc := O_values_order) D (Z.glo 35) sc_values_order rfl rfl (fun _ _ _ _ _ _ us hl => match us, hl with | [_], _ => rfl) (fun _ _ _ _ _ _ us hl => match us, hl with | [_], _ => rfl) (b_values_order Z)
theorem sc_ascending_by : FnScope ["lot", "known", "values", "order"] ["lot"] (defScope (top 20)) := ⟨rfl, rfl, rfl, by decide +kernel, rfl, by decide +kernel, by decide +kernel⟩
set_option maxHeartbeats 8000000 in
theorem b_ascending_by (Z : HD P w K h base mg) : BodyOk P w K mg base (TT K) (PM.fldAt kcs) 3 ["lot", "known", "values", "order"] "ascending_by" (defScope (top 20)) O_ascending_by (defBody (top 20)) B_ascending_by := by
  intro A s0 H0 L outer ex calm pn xe J b hp hf
  exact (pss_cons (ps_setDcB (own := [("values", 2)]) b rfl rfl rfl (PM.pi_val b.hG (pe_nm rfl (vis_by rfl) rfl rfl)) (L2.blkOk_by (by kernel_rfl)) (fun s H C cl fp b => (PM.pg_nm b.nd rfl (loc_by rfl) (by first | exact .inl rfl | exact .inr rfl))) (by decide) (fun s H C cl fp b => pts_nil') (fun s H C cl fp b => (pe_nm rfl (vis_by rfl) rfl rfl)) (fun s H C cl fp b => pe_lbl))
  (pss_cons (PM.ps_ret (pe_bif (b := .tuple) b.hG b.calm b.hu b.gd rfl (Z.free 11) (po_val (pe_lcB (own := [("order", 3), ("values", 2)]) b (PM.pi_val b.hG (pe_bif (b := .sorted) b.hG b.calm b.hu b.gd rfl (Z.free 12) (po_val (pe_lcB (own := [("values", 2)]) b (PM.pi_val b.hG (pe_nm rfl (vis_by rfl) rfl rfl)) (L2.blkOk_by (by kernel_rfl)) (fun s H C cl fp b => (PM.pg_nm b.nd rfl (loc_by rfl) (by first | exact .inl rfl | exact .inr rfl))) (by decide) (fun s H C cl fp b => pts_nil') (fun s H C cl fp b => (PM.pe_tup (pl_cons (pe_callC (F := F_values_order) b hf (f_values_order Z) rfl (by decide) rfl (paa_cons (parg_val (pe_nm rfl (vis_by rfl) rfl rfl)) paa_nil) rfl) (pl_cons (pe_nm rfl (vis_by rfl) rfl rfl) pl_nil))))) (fun _ z => by cases z)))) (L2.blkOk_by (by kernel_rfl)) (fun s H C cl fp b => (PM.pg_tp b.hG b.calm (pgs_cons' (PM.pg_nm b.nd rfl (loc_by rfl) (by first | exact .inl rfl | exact .inr rfl)) (pgs_cons' (PM.pg_nm b.nd rfl (loc_by rfl) (by first | exact .inl rfl | exact .inr rfl)) pgs_nil')) rfl)) (by decide) (fun s H C cl fp b => pts_nil') (fun s H C cl fp b => (pe_nm rfl (vis_by rfl) rfl rfl))) (fun _ z => by cases z))))
  pss_nil))
theorem f_ascending_by (Z : HD P w K h base mg) : CallOk P w K mg base 4 "ascending_by" ["lot"] (spF (GG P w K (TT K)) (PM.fldAt kcs) 1 F_ascending_by) := by
  obtain ⟨fd, D⟩ := Z.def_ 10
  exact def_ok (T := TT K) (B := B_ascending_by) (orc := O_ascending_by) D (Z.glo 36) sc_ascending_by rfl rfl (fun _ _ _ _ _ _ us hl => match us, hl with | [_], _ => rfl) (fun _ _ _ _ _ _ us hl => match us, hl with | [_], _ => rfl) (b_ascending_by Z)
theorem sc_text_of_value : FnScope ["value"] ["value"] (defScope (top 21)) := ⟨rfl, rfl, rfl, by decide +kernel, rfl, by decide +kernel, by decide +kernel⟩
set_option maxHeartbeats 8000000 in
theorem b_text_of_value (Z : HD P w K h base mg) : BodyOk P w K mg base (TT K) (PM.fldAt kcs) 0 ["value"] "text_of_value" (defScope (top 21)) O_text_of_value (defBody (top 21)) B_text_of_value := by
  intro A s0 H0 L outer ex calm pn xe J b hp hf
  exact (pss_cons (PM.ps_ret (PM.pe_joined1 (PM.pe_fmt b.hG (po_var rfl (vis_by rfl) rfl rfl))))
  pss_nil)
theorem f_text_of_value (Z : HD P w K h base mg) : CallOk P w K mg base 1 "text_of_value" ["value"] (spF (GG P w K (TT K)) (PM.fldAt kcs) 1 F_text_of_value) := by
  obtain ⟨fd, D⟩ := Z.def_ 11
  exact def_ok (T := TT K) (B := B_text_of_value) (orc := O_text_of_value) D (Z.glo 37) sc_text_of_value rfl rfl (fun _ _ _ _ _ _ us hl => match us, hl with | [_], _ => rfl) (fun _ _ _ _ _ _ us hl => match us, hl with | [_], _ => rfl) (b_text_of_value Z)
theorem sc_text_of_values : FnScope ["values", "value"] ["values"] (defScope (top 22)) := ⟨rfl, rfl, rfl, by decide +kernel, rfl, by decide +kernel, by decide +kernel⟩
set_option maxHeartbeats 8000000 in
theorem b_text_of_values (Z : HD P w K h base mg) : BodyOk P w K mg base (TT K) (PM.fldAt kcs) 1 ["values", "value"] "text_of_values" (defScope (top 22)) O_text_of_values (defBody (top 22)) B_text_of_values := by
  intro A s0 H0 L outer ex calm pn xe J b hp hf
  exact (pss_cons (PM.ps_ret (pe_ite (PM.pt_cmp (o := .gt) b.hG b.hu (po_val (pe_bif (b := .len) b.hG b.calm b.hu b.gd rfl (Z.free 3) (po_var rfl (vis_by rfl) rfl rfl)) (fun _ z => by cases z)) (po_val pe_lint (fun _ z => by cases z)) rfl) (PM.pe_met (m := .join) b.hG (by decide) (po_val (pe_gstr rfl (Z.str 13)) (fun _ z => by cases z)) (po_val (pe_lcB (own := [("value", 1)]) b (PM.pi_val b.hG (pe_nm rfl (vis_by rfl) rfl rfl)) (L2.blkOk_by (by kernel_rfl)) (fun s H C cl fp b => (PM.pg_nm b.nd rfl (loc_by rfl) (by first | exact .inl rfl | exact .inr rfl))) (by decide) (fun s H C cl fp b => pts_nil') (fun s H C cl fp b => (pe_callC (F := F_text_of_value) b hf (f_text_of_value Z) rfl (by decide) rfl (paa_cons (parg_val (pe_nm rfl (vis_by rfl) rfl rfl)) paa_nil) rfl))) (fun _ z => by cases z))) (pe_gstr rfl (Z.str 14))))
  pss_nil)
theorem f_text_of_values (Z : HD P w K h base mg) : CallOk P w K mg base 2 "text_of_values" ["values"] (spF (GG P w K (TT K)) (PM.fldAt kcs) 1 F_text_of_values) := by
  obtain ⟨fd, D⟩ := Z.def_ 12
  exact def_ok (T := TT K) (B := B_text_of_values) (orc := O_text_of_values) D (Z.glo 38) sc_text_of_values rfl rfl (fun _ _ _ _ _ _ us hl => match us, hl with | [_], _ => rfl) (fun _ _ _ _ _ _ us hl => match us, hl with | [_], _ => rfl) (b_text_of_values Z)
theorem sc_value_from : FnScope ["text", "number"] ["text"] (defScope (top 23)) := ⟨rfl, rfl, rfl, by decide +kernel, rfl, by decide +kernel, by decide +kernel⟩
set_option maxHeartbeats 8000000 in
theorem b_value_from (Z : HD P w K h base mg) : BodyOk P w K mg base (TT K) (PM.fldAt kcs) 3 ["text", "number"] "value_from" (defScope (top 23)) O_value_from (defBody (top 23)) B_value_from := by
  intro A s0 H0 L outer ex calm pn xe J b hp hf
  exact (pss_cons (PM.ps_if (PM.pt_val b.hG (po_val (pe_callC (F := F_is_name) b hf (f_is_name Z) rfl (by decide) rfl (paa_cons (parg_val (pe_nm rfl (vis_by rfl) rfl rfl)) paa_nil) rfl) (fun _ z => by cases z)) (fun _ => rfl)) (pss_cons (PM.ps_ret (pe_nm rfl (vis_by rfl) rfl rfl))
  pss_nil) pss_nil)
  (pss_cons (PM.ps_if (PM.pt_cmp (o := .eq) b.hG b.hu (po_val (PM.pe_slc b.hG (po_var rfl (vis_by rfl) rfl rfl) pp_none (pp_some (po_val pe_lint (fun _ z => by cases z)))) (fun _ z => by cases z)) (po_val (pe_gstr rfl (Z.str 15)) (fun _ z => by cases z)) rfl) (pss_cons (PM.ps_set b.nd rfl (loc_by rfl) (pe_callC (F := F_plain_number) b hf (f_plain_number Z) rfl (by decide) rfl (paa_cons (parg_val (PM.pe_slc b.hG (po_var rfl (vis_by rfl) rfl rfl) (pp_some (po_val pe_lint (fun _ z => by cases z))) pp_none)) (paa_cons (parg_val pe_lint) (paa_cons (parg_val (pe_gint rfl (Z.int 10))) paa_nil))) rfl) (.inl rfl))
  (pss_cons (PM.ps_ret (pe_ite (PM.pt_cmp (o := .isnot) b.hG b.hu (po_var rfl (vis_by rfl) rfl rfl) (po_val pe_lnon (fun _ z => by cases z)) rfl) (pe_bin (o := .sub) b.hG (po_val pe_lint (fun _ z => by cases z)) (po_var rfl (vis_by rfl) rfl rfl)) pe_lnon))
  pss_nil)) pss_nil)
  (pss_cons (PM.ps_ret (pe_callC (F := F_plain_number) b hf (f_plain_number Z) rfl (by decide) rfl (paa_cons (parg_val (pe_nm rfl (vis_by rfl) rfl rfl)) (paa_cons (parg_val pe_lint) (paa_cons (parg_val (pe_gint rfl (Z.int 10))) paa_nil))) rfl))
  pss_nil)))
theorem f_value_from (Z : HD P w K h base mg) : CallOk P w K mg base 4 "value_from" ["text"] (spF (GG P w K (TT K)) (PM.fldAt kcs) 1 F_value_from) := by
  obtain ⟨fd, D⟩ := Z.def_ 13
  exact def_ok (T := TT K) (B := B_value_from) (orc := O_value_from) D (Z.glo 39) sc_value_from rfl rfl (fun _ _ _ _ _ _ us hl => match us, hl with | [_], _ => rfl) (fun _ _ _ _ _ _ us hl => match us, hl with | [_], _ => rfl) (b_value_from Z)
theorem sc_values_from : FnScope ["text", "found", "word"] ["text"] (defScope (top 24)) := ⟨rfl, rfl, rfl, by decide +kernel, rfl, by decide +kernel, by decide +kernel⟩
set_option maxHeartbeats 8000000 in
theorem b_values_from (Z : HD P w K h base mg) : BodyOk P w K mg base (TT K) (PM.fldAt kcs) 4 ["text", "found", "word"] "values_from" (defScope (top 24)) O_values_from (defBody (top 24)) B_values_from := by
  intro A s0 H0 L outer ex calm pn xe J b hp hf
  exact (pss_cons (PM.ps_if (PM.pt_cmp (o := .eq) b.hG b.hu (po_var rfl (vis_by rfl) rfl rfl) (po_val (pe_gstr rfl (Z.str 14)) (fun _ z => by cases z)) rfl) (pss_cons (PM.ps_ret (PM.pe_tup pl_nil))
  pss_nil) pss_nil)
  (pss_cons (PM.ps_set b.nd rfl (loc_by rfl) (pe_bif (b := .tuple) b.hG b.calm b.hu b.gd rfl (Z.free 11) (po_val (pe_lcB (own := [("word", 2)]) b (PM.pi_val b.hG (PM.pe_met (m := .split) b.hG (by decide) (po_var rfl (vis_by rfl) rfl rfl) (po_val (pe_gstr rfl (Z.str 13)) (fun _ z => by cases z)))) (L2.blkOk_by (by kernel_rfl)) (fun s H C cl fp b => (PM.pg_nm b.nd rfl (loc_by rfl) (by first | exact .inl rfl | exact .inr rfl))) (by decide) (fun s H C cl fp b => pts_nil') (fun s H C cl fp b => (pe_callC (F := F_value_from) b hf (f_value_from Z) rfl (by decide) rfl (paa_cons (parg_val (pe_nm rfl (vis_by rfl) rfl rfl)) paa_nil) rfl))) (fun _ z => by cases z))) (.inl rfl))
  (pss_cons (PM.ps_ret (pe_ite (PM.pt_cmp (o := .notin) b.hG b.hu (po_val pe_lnon (fun _ z => by cases z)) (po_var rfl (vis_by rfl) rfl rfl) rfl) (pe_nm rfl (vis_by rfl) rfl rfl) pe_lnon))
  pss_nil)))
theorem f_values_from (Z : HD P w K h base mg) : CallOk P w K mg base 5 "values_from" ["text"] (spF (GG P w K (TT K)) (PM.fldAt kcs) 1 F_values_from) := by
  obtain ⟨fd, D⟩ := Z.def_ 14
  exact def_ok (T := TT K) (B := B_values_from) (orc := O_values_from) D (Z.glo 40) sc_values_from rfl rfl (fun _ _ _ _ _ _ us hl => match us, hl with | [_], _ => rfl) (fun _ _ _ _ _ _ us hl => match us, hl with | [_], _ => rfl) (b_values_from Z)
end K02


namespace K02
open PySem PySem.Spec PyProof.Rows PM
open L2 (FnScope defScope defArgs defBody FunD Cx)
variable [TC] {P : Program} {w : World} {K : PySem.W.Frag} {h base : Heap} {mg : Str → Option Value}
theorem sc_check_values : FnScope ["values"] ["values"] (defScope (top 30)) := ⟨rfl, rfl, rfl, by decide +kernel, rfl, by decide +kernel, by decide +kernel⟩
set_option maxHeartbeats 8000000 in
theorem b_check_values (Z : HD P w K h base mg) : BodyOk P w K mg base (TT K) (PM.fldAt kcs) 4 ["values"] "check_values" (defScope (top 30)) O_check_values (defBody (top 30)) B_check_values := by
  intro A s0 H0 L outer ex calm pn xe J b hp hf
  exact (pss_cons (PM.ps_if (PM.pt_not (PM.pt_val b.hG (po_val (pe_callC (F := F_values_ok) b hf (f_values_ok Z) rfl (by decide) rfl (paa_cons (parg_val (pe_nm rfl (vis_by rfl) rfl rfl)) paa_nil) rfl) (fun _ z => by cases z)) (fun _ => rfl))) (pss_cons (ps_raiseC (i := 0) (c := ⟨"InvalidValues", "given"⟩) b hf rfl rfl (r_InvalidValues Z) (Z.clsI 0) (by decide) rfl (pe_nm rfl (vis_by rfl) rfl rfl))
  pss_nil) pss_nil)
  pss_nil)
theorem f_check_values (Z : HD P w K h base mg) : CallOk P w K mg base 5 "check_values" ["values"] (spF (GG P w K (TT K)) (PM.fldAt kcs) 1 F_check_values) := by
  obtain ⟨fd, D⟩ := Z.def_ 15
  exact def_ok (T := TT K) (B := B_check_values) (orc := O_check_values) D (Z.glo 41) sc_check_values rfl rfl (fun _ _ _ _ _ _ us hl => match us, hl with | [_], _ => rfl) (fun _ _ _ _ _ _ us hl => match us, hl with | [_], _ => rfl) (b_check_values Z)
theorem sc_check_text : FnScope ["text"] ["text"] (defScope (top 31)) := ⟨rfl, rfl, rfl, by decide +kernel, rfl, by decide +kernel, by decide +kernel⟩
set_option maxHeartbeats 8000000 in
theorem b_check_text (Z : HD P w K h base mg) : BodyOk P w K mg base (TT K) (PM.fldAt kcs) 2 ["text"] "check_text" (defScope (top 31)) O_check_text (defBody (top 31)) B_check_text := by
  intro A s0 H0 L outer ex calm pn xe J b hp hf
  exact (pss_cons (PM.ps_if (PM.pt_not (PM.pt_val b.hG (po_val (pe_isi b.hG rfl (Z.free 0) (c := .str) rfl (Z.free 8) (po_var rfl (vis_by rfl) rfl rfl)) (fun _ z => by cases z)) (fun _ => rfl))) (pss_cons (ps_raiseC (i := 1) (c := ⟨"InvalidText", "given"⟩) b hf rfl rfl (r_InvalidText Z) (Z.clsI 1) (by decide) rfl (pe_nm rfl (vis_by rfl) rfl rfl))
  pss_nil) pss_nil)
  pss_nil)
theorem f_check_text (Z : HD P w K h base mg) : CallOk P w K mg base 3 "check_text" ["text"] (spF (GG P w K (TT K)) (PM.fldAt kcs) 1 F_check_text) := by
  obtain ⟨fd, D⟩ := Z.def_ 16
  exact def_ok (T := TT K) (B := B_check_text) (orc := O_check_text) D (Z.glo 42) sc_check_text rfl rfl (fun _ _ _ _ _ _ us hl => match us, hl with | [_], _ => rfl) (fun _ _ _ _ _ _ us hl => match us, hl with | [_], _ => rfl) (b_check_text Z)
theorem sc_is_value : FnScope ["value"] ["value"] (defScope (top 33)) := ⟨rfl, rfl, rfl, by decide +kernel, rfl, by decide +kernel, by decide +kernel⟩
set_option maxHeartbeats 8000000 in
theorem b_is_value (Z : HD P w K h base mg) : BodyOk P w K mg base (TT K) (PM.fldAt kcs) 3 ["value"] "is_value" (defScope (top 33)) O_is_value (defBody (top 33)) B_is_value := by
  intro A s0 H0 L outer ex calm pn xe J b hp hf
  exact (pss_cons (PM.ps_ret (pe_callC (F := F_value_ok) b hf (f_value_ok Z) rfl (by decide) rfl (paa_cons (parg_val (pe_nm rfl (vis_by rfl) rfl rfl)) paa_nil) rfl))
  pss_nil)
theorem f_is_value (Z : HD P w K h base mg) : CallOk P w K mg base 4 "is_value" ["value"] (spF (GG P w K (TT K)) (PM.fldAt kcs) 1 F_is_value) := by
  obtain ⟨fd, D⟩ := Z.def_ 17
  exact def_ok (T := TT K) (B := B_is_value) (orc := O_is_value) D (Z.glo 43) sc_is_value rfl rfl (fun _ _ _ _ _ _ us hl => match us, hl with | [_], _ => rfl) (fun _ _ _ _ _ _ us hl => match us, hl with | [_], _ => rfl) (b_is_value Z)
theorem sc_values_text : FnScope ["values"] ["values"] (defScope (top 34)) := ⟨rfl, rfl, rfl, by decide +kernel, rfl, by decide +kernel, by decide +kernel⟩
set_option maxHeartbeats 8000000 in
theorem b_values_text (Z : HD P w K h base mg) : BodyOk P w K mg base (TT K) (PM.fldAt kcs) 5 ["values"] "values_text" (defScope (top 34)) O_values_text (defBody (top 34)) B_values_text := by
  intro A s0 H0 L outer ex calm pn xe J b hp hf
  exact (pss_cons (PM.ps_expr (pe_callC (F := F_check_values) b hf (f_check_values Z) rfl (by decide) rfl (paa_cons (parg_val (pe_nm rfl (vis_by rfl) rfl rfl)) paa_nil) rfl))
  (pss_cons (PM.ps_ret (pe_callC (F := F_text_of_values) b hf (f_text_of_values Z) rfl (by decide) rfl (paa_cons (parg_val (pe_nm rfl (vis_by rfl) rfl rfl)) paa_nil) rfl))
  pss_nil))
theorem f_values_text (Z : HD P w K h base mg) : CallOk P w K mg base 6 "values_text" ["values"] (spF (GG P w K (TT K)) (PM.fldAt kcs) 1 F_values_text) := by
  obtain ⟨fd, D⟩ := Z.def_ 18
  exact def_ok (T := TT K) (B := B_values_text) (orc := O_values_text) D (Z.glo 44) sc_values_text rfl rfl (fun _ _ _ _ _ _ us hl => match us, hl with | [_], _ => rfl) (fun _ _ _ _ _ _ us hl => match us, hl with | [_], _ => rfl) (b_values_text Z)
theorem sc_read_values : FnScope ["text", "values"] ["text"] (defScope (top 35)) := ⟨rfl, rfl, rfl, by decide +kernel, rfl, by decide +kernel, by decide +kernel⟩
set_option maxHeartbeats 8000000 in
theorem b_read_values (Z : HD P w K h base mg) : BodyOk P w K mg base (TT K) (PM.fldAt kcs) 5 ["text", "values"] "read_values" (defScope (top 35)) O_read_values (defBody (top 35)) B_read_values := by
  intro A s0 H0 L outer ex calm pn xe J b hp hf
  exact (pss_cons (PM.ps_expr (pe_callC (F := F_check_text) b hf (f_check_text Z) rfl (by decide) rfl (paa_cons (parg_val (pe_nm rfl (vis_by rfl) rfl rfl)) paa_nil) rfl))
  (pss_cons (PM.ps_set b.nd rfl (loc_by rfl) (pe_callC (F := F_values_from) b hf (f_values_from Z) rfl (by decide) rfl (paa_cons (parg_val (pe_nm rfl (vis_by rfl) rfl rfl)) paa_nil) rfl) (.inl rfl))
  (pss_cons (PM.ps_if (PM.pt_cmp (o := .is) b.hG b.hu (po_var rfl (vis_by rfl) rfl rfl) (po_val pe_lnon (fun _ z => by cases z)) rfl) (pss_cons (ps_raiseC (i := 1) (c := ⟨"InvalidText", "given"⟩) b hf rfl rfl (r_InvalidText Z) (Z.clsI 1) (by decide) rfl (pe_nm rfl (vis_by rfl) rfl rfl))
  pss_nil) pss_nil)
  (pss_cons (PM.ps_ret (pe_nm rfl (vis_by rfl) rfl rfl))
  pss_nil))))
theorem f_read_values (Z : HD P w K h base mg) : CallOk P w K mg base 6 "read_values" ["text"] (spF (GG P w K (TT K)) (PM.fldAt kcs) 1 F_read_values) := by
  obtain ⟨fd, D⟩ := Z.def_ 19
  exact def_ok (T := TT K) (B := B_read_values) (orc := O_read_values) D (Z.glo 45) sc_read_values rfl rfl (fun _ _ _ _ _ _ us hl => match us, hl with | [_], _ => rfl) (fun _ _ _ _ _ _ us hl => match us, hl with | [_], _ => rfl) (b_read_values Z)
theorem sc_ascending : FnScope ["lot", "values"] ["lot"] (defScope (top 36)) := ⟨rfl, rfl, rfl, by decide +kernel, rfl, by decide +kernel, by decide +kernel⟩
set_option maxHeartbeats 8000000 in
theorem b_ascending (Z : HD P w K h base mg) : BodyOk P w K mg base (TT K) (PM.fldAt kcs) 4 ["lot", "values"] "ascending" (defScope (top 36)) O_ascending (defBody (top 36)) B_ascending := by
  intro A s0 H0 L outer ex calm pn xe J b hp hf
  exact (pss_cons (PM.ps_if (L2.PW.pt (PM.pw_or (PM.pt_not (PM.pt_val b.hG (po_val (pe_isi b.hG rfl (Z.free 0) (c := .tuple) rfl (Z.free 11) (po_var rfl (vis_by rfl) rfl rfl)) (fun _ z => by cases z)) (fun _ => rfl))) (PM.pw_or (PM.pt_not (PM.pt_val b.hG (po_val (pe_bif (b := .all) b.hG b.calm b.hu b.gd rfl (Z.free 5) (po_val (pe_lcB (own := [("values", 1)]) b (PM.pi_val b.hG (pe_nm rfl (vis_by rfl) rfl rfl)) (L2.blkOk_by (by kernel_rfl)) (fun s H C cl fp b => (PM.pg_nm b.nd rfl (loc_by rfl) (by first | exact .inl rfl | exact .inr rfl))) (by decide) (fun s H C cl fp b => pts_nil') (fun s H C cl fp b => (pe_callC (F := F_values_ok) b hf (f_values_ok Z) rfl (by decide) rfl (paa_cons (parg_val (pe_nm rfl (vis_by rfl) rfl rfl)) paa_nil) rfl))) (fun _ z => by cases z))) (fun _ z => by cases z)) (fun _ => rfl))) (PM.pw_or1 (PM.pt_not (PM.pt_val b.hG (po_val (pe_callC (F := F_are_unlike) b hf (f_are_unlike Z) rfl (by decide) rfl (paa_cons (parg_val (pe_nm rfl (vis_by rfl) rfl rfl)) paa_nil) rfl) (fun _ z => by cases z)) (fun _ => rfl))))))) (pss_cons (ps_raiseC (i := 0) (c := ⟨"InvalidValues", "given"⟩) b hf rfl rfl (r_InvalidValues Z) (Z.clsI 0) (by decide) rfl (pe_nm rfl (vis_by rfl) rfl rfl))
  pss_nil) pss_nil)
  (pss_cons (PM.ps_ret (pe_callC (F := F_ascending_by) b hf (f_ascending_by Z) rfl (by decide) rfl (paa_cons (parg_val (pe_nm rfl (vis_by rfl) rfl rfl)) paa_nil) rfl))
  pss_nil))
theorem f_ascending (Z : HD P w K h base mg) : CallOk P w K mg base 5 "ascending" ["lot"] (spF (GG P w K (TT K)) (PM.fldAt kcs) 1 F_ascending) := by
  obtain ⟨fd, D⟩ := Z.def_ 20
  exact def_ok (T := TT K) (B := B_ascending) (orc := O_ascending) D (Z.glo 46) sc_ascending rfl rfl (fun _ _ _ _ _ _ us hl => match us, hl with | [_], _ => rfl) (fun _ _ _ _ _ _ us hl => match us, hl with | [_], _ => rfl) (b_ascending Z)
theorem sc__law_jug : FnScope ["script", "side", "far", "screw", "step", "each"] ["script", "side"] (defScope (top 38)) := ⟨rfl, rfl, rfl, by decide +kernel, rfl, by decide +kernel, by decide +kernel⟩
set_option maxHeartbeats 8000000 in
theorem b__law_jug (Z : HD P w K h base mg) : BodyOk P w K mg base (TT K) (PM.fldAt kcs) 0 ["script", "side", "far", "screw", "step", "each"] "_law_jug" (defScope (top 38)) O__law_jug (defBody (top 38)) B__law_jug := by
  intro A s0 H0 L outer ex calm pn xe J b hp hf
  exact (pss_cons (PM.ps_set b.nd rfl (loc_by rfl) (pe_ite (PM.pt_cmp (o := .lt) b.hG b.hu (po_var rfl (vis_by rfl) rfl rfl) (po_val (pe_bif (b := .len) b.hG b.calm b.hu b.gd rfl (Z.free 3) (po_var rfl (vis_by rfl) rfl rfl)) (fun _ z => by cases z)) rfl) (pe_bif (b := .int) b.hG b.calm b.hu b.gd rfl (Z.free 2) (po_val (PM.pe_sub b.hG b.hu (po_var rfl (vis_by rfl) rfl rfl) (po_var rfl (vis_by rfl) rfl rfl) (fun _ _ => rfl)) (fun _ z => by cases z))) (pe_bin (o := .sub) b.hG (po_val pe_lint (fun _ z => by cases z)) (po_val (pe_bin (o := .mul) b.hG (po_val pe_lint (fun _ z => by cases z)) (po_var rfl (vis_by rfl) rfl rfl)) (fun _ z => by cases z)))) (.inl rfl))
  (pss_cons (PM.ps_set b.nd rfl (loc_by rfl) (pe_bin (o := .add) b.hG (po_val pe_lint (fun _ z => by cases z)) (po_val (pe_bin (o := .mul) b.hG (po_val pe_lint (fun _ z => by cases z)) (po_var rfl (vis_by rfl) rfl rfl)) (fun _ z => by cases z))) (.inl rfl))
  (pss_cons (PM.ps_for hp b.calm (PM.pi_enum b.hG rfl (Z.free 18) (pe_bin (o := .add) b.hG (po_val (PM.pe_lst (pl_cons (pe_nm rfl (vis_by rfl) rfl rfl) pl_nil)) (fun _ z => by cases z)) (po_val (pe_bif (b := .list) b.hG b.calm b.hu b.gd rfl (Z.free 17) (po_val (PM.pe_slc b.hG (po_var rfl (vis_by rfl) rfl rfl) pp_none (pp_some (po_val pe_lint (fun _ z => by cases z)))) (fun _ z => by cases z))) (fun _ z => by cases z)))) (PM.pg_tp b.hG b.calm (pgs_cons' (PM.pg_nm b.nd rfl (loc_by rfl) (by first | exact .inl rfl | exact .inr rfl)) (pgs_cons' (PM.pg_nm b.nd rfl (loc_by rfl) (by first | exact .inl rfl | exact .inr rfl)) pgs_nil')) rfl) (pss_cons (PM.ps_set b.nd rfl (loc_by rfl) (pe_bin (o := .mod) b.hG (po_val (pe_bif (b := .int) b.hG b.calm b.hu b.gd rfl (Z.free 2) (po_val (pe_bin (o := .add) b.hG (po_val (pe_bin (o := .add) b.hG (po_val (pe_bin (o := .mul) b.hG (po_var rfl (vis_by rfl) rfl rfl) (po_val pe_lint (fun _ z => by cases z))) (fun _ z => by cases z)) (po_val (pe_bin (o := .mod) b.hG (po_val (pe_bif (b := .int) b.hG b.calm b.hu b.gd rfl (Z.free 2) (po_var rfl (vis_by rfl) rfl rfl)) (fun _ z => by cases z)) (po_val pe_lint (fun _ z => by cases z))) (fun _ z => by cases z))) (fun _ z => by cases z)) (po_var rfl (vis_by rfl) rfl rfl)) (fun _ z => by cases z))) (fun _ z => by cases z)) (po_val pe_lint (fun _ z => by cases z))) (.inl rfl))
  pss_nil))
  (pss_cons (PM.ps_ret (PM.pe_dict b.hG (pkv_cons pe_lstr (pe_ite (L2.PW.pt (PM.pw_or (PM.pt_cmp (o := .lt) b.hG b.hu (po_var rfl (vis_by rfl) rfl rfl) (po_val pe_lint (fun _ z => by cases z)) rfl) (PM.pw_or1 (PM.pt_cmp (o := .ge) b.hG b.hu (po_var rfl (vis_by rfl) rfl rfl) (po_val (pe_bin (o := .pow) b.hG (po_val pe_lint (fun _ z => by cases z)) (po_val pe_lint (fun _ z => by cases z))) (fun _ z => by cases z)) rfl)))) (pe_bin (o := .mod) b.hG (po_val (pe_bif (b := .int) b.hG b.calm b.hu b.gd rfl (Z.free 2) (po_val (pe_bif (b := .abs) b.hG b.calm b.hu b.gd rfl (Z.free 16) (po_var rfl (vis_by rfl) rfl rfl)) (fun _ z => by cases z))) (fun _ z => by cases z)) (po_val (pe_bin (o := .pow) b.hG (po_val pe_lint (fun _ z => by cases z)) (po_val pe_lint (fun _ z => by cases z))) (fun _ z => by cases z))) pe_lint) (pkv_cons pe_lstr (pe_nm rfl (vis_by rfl) rfl rfl) pkv_nil)) rfl rfl (by decide) (by decide)))
  pss_nil))))
theorem f__law_jug (Z : HD P w K h base mg) : CallOk P w K mg base 1 "_law_jug" ["script", "side"] (spF (GG P w K (TT K)) (PM.fldAt kcs) 2 F__law_jug) := by
  obtain ⟨fd, D⟩ := Z.def_ 21
  exact def_ok (T := TT K) (B := B__law_jug) (orc := O__law_jug) D (Z.glo 47) sc__law_jug rfl rfl (fun _ _ _ _ _ _ us hl => match us, hl with | [_, _], _ => rfl) (fun _ _ _ _ _ _ us hl => match us, hl with | [_, _], _ => rfl) (b__law_jug Z)
end K02


namespace K02
open PySem PySem.Spec PyProof.Rows PM
open L2 (FnScope defScope defArgs defBody FunD Cx)
variable [TC] {P : Program} {w : World} {K : PySem.W.Frag} {h base : Heap} {mg : Str → Option Value}
theorem sc__law_pour : FnScope ["jug", "many", "left"] ["jug", "many"] (defScope (top 39)) := ⟨rfl, rfl, rfl, by decide +kernel, rfl, by decide +kernel, by decide +kernel⟩
set_option maxHeartbeats 8000000 in
theorem b__law_pour (Z : HD P w K h base mg) : BodyOk P w K mg base (TT K) (PM.fldAt kcs) 0 ["jug", "many", "left"] "_law_pour" (defScope (top 39)) O__law_pour (defBody (top 39)) B__law_pour := by
  intro A s0 H0 L outer ex calm pn xe J b hp hf
  exact (pss_cons (PM.ps_if (PM.pt_cmp (o := .gt) b.hG b.hu (po_val (PM.pe_sub b.hG b.hu (po_var rfl (vis_by rfl) rfl rfl) (po_val pe_lstr (fun _ z => by cases z)) (fun _ _ => rfl)) (fun _ z => by cases z)) (po_val pe_lint (fun _ z => by cases z)) rfl) (pss_cons (PM.ps_set b.nd rfl (loc_by rfl) (pe_bin (o := .mod) b.hG (po_val (PM.pe_sub b.hG b.hu (po_var rfl (vis_by rfl) rfl rfl) (po_val pe_lstr (fun _ z => by cases z)) (fun _ _ => rfl)) (fun _ z => by cases z)) (po_var rfl (vis_by rfl) rfl rfl)) (.inl rfl))
  (pss_cons (ps_setk b.hG b.hu rfl (vis_by rfl) rfl rfl (pe_bin (o := .fdiv) b.hG (po_val (PM.pe_sub b.hG b.hu (po_var rfl (vis_by rfl) rfl rfl) (po_val pe_lstr (fun _ z => by cases z)) (fun _ _ => rfl)) (fun _ z => by cases z)) (po_var rfl (vis_by rfl) rfl rfl)) pe_lstr)
  (pss_cons (PM.ps_ret (pe_bif (b := .int) b.hG b.calm b.hu b.gd rfl (Z.free 2) (po_var rfl (vis_by rfl) rfl rfl)))
  pss_nil))) pss_nil)
  (pss_cons (ps_setk b.hG b.hu rfl (vis_by rfl) rfl rfl (pe_bin (o := .mod) b.hG (po_val (pe_bif (b := .int) b.hG b.calm b.hu b.gd rfl (Z.free 2) (po_val (pe_bin (o := .add) b.hG (po_val (pe_bin (o := .mul) b.hG (po_val (PM.pe_sub b.hG b.hu (po_var rfl (vis_by rfl) rfl rfl) (po_val pe_lstr (fun _ z => by cases z)) (fun _ _ => rfl)) (fun _ z => by cases z)) (po_val pe_lint (fun _ z => by cases z))) (fun _ z => by cases z)) (po_val pe_lint (fun _ z => by cases z))) (fun _ z => by cases z))) (fun _ z => by cases z)) (po_val pe_lint (fun _ z => by cases z))) pe_lstr)
  (pss_cons (PM.ps_ret (pe_bin (o := .mod) b.hG (po_val (pe_bif (b := .int) b.hG b.calm b.hu b.gd rfl (Z.free 2) (po_val (pe_bin (o := .fdiv) b.hG (po_val (PM.pe_sub b.hG b.hu (po_var rfl (vis_by rfl) rfl rfl) (po_val pe_lstr (fun _ z => by cases z)) (fun _ _ => rfl)) (fun _ z => by cases z)) (po_val pe_lint (fun _ z => by cases z))) (fun _ z => by cases z))) (fun _ z => by cases z)) (po_var rfl (vis_by rfl) rfl rfl)))
  pss_nil)))
theorem f__law_pour (Z : HD P w K h base mg) : CallOk P w K mg base 1 "_law_pour" ["jug", "many"] (spF (GG P w K (TT K)) (PM.fldAt kcs) 2 F__law_pour) := by
  obtain ⟨fd, D⟩ := Z.def_ 22
  exact def_ok (T := TT K) (B := B__law_pour) (orc := O__law_pour) D (Z.glo 48) sc__law_pour rfl rfl (fun _ _ _ _ _ _ us hl => match us, hl with | [_, _], _ => rfl) (fun _ _ _ _ _ _ us hl => match us, hl with | [_, _], _ => rfl) (b__law_pour Z)
theorem sc__law_some : FnScope ["jug", "things"] ["jug", "things"] (defScope (top 40)) := ⟨rfl, rfl, rfl, by decide +kernel, rfl, by decide +kernel, by decide +kernel⟩
set_option maxHeartbeats 8000000 in
theorem b__law_some (Z : HD P w K h base mg) : BodyOk P w K mg base (TT K) (PM.fldAt kcs) 1 ["jug", "things"] "_law_some" (defScope (top 40)) O__law_some (defBody (top 40)) B__law_some := by
  intro A s0 H0 L outer ex calm pn xe J b hp hf
  exact (pss_cons (PM.ps_ret (PM.pe_sub b.hG b.hu (po_var rfl (vis_by rfl) rfl rfl) (po_val (pe_callC (F := F__law_pour) b hf (f__law_pour Z) rfl (by decide) rfl (paa_cons (parg_lend (po_var rfl (vis_by rfl) rfl rfl)) (paa_cons (parg_val (pe_bif (b := .len) b.hG b.calm b.hu b.gd rfl (Z.free 3) (po_var rfl (vis_by rfl) rfl rfl))) paa_nil)) rfl) (fun _ z => by cases z)) (fun _ _ => rfl)))
  pss_nil)
theorem f__law_some (Z : HD P w K h base mg) : CallOk P w K mg base 2 "_law_some" ["jug", "things"] (spF (GG P w K (TT K)) (PM.fldAt kcs) 2 F__law_some) := by
  obtain ⟨fd, D⟩ := Z.def_ 23
  exact def_ok (T := TT K) (B := B__law_some) (orc := O__law_some) D (Z.glo 49) sc__law_some rfl rfl (fun _ _ _ _ _ _ us hl => match us, hl with | [_, _], _ => rfl) (fun _ _ _ _ _ _ us hl => match us, hl with | [_, _], _ => rfl) (b__law_some Z)
theorem sc__law_equal : FnScope ["told", "due"] ["told", "due"] (defScope (top 41)) := ⟨rfl, rfl, rfl, by decide +kernel, rfl, by decide +kernel, by decide +kernel⟩
set_option maxHeartbeats 8000000 in
theorem b__law_equal (Z : HD P w K h base mg) : BodyOk P w K mg base (TT K) (PM.fldAt kcs) 0 ["told", "due"] "_law_equal" (defScope (top 41)) O__law_equal (defBody (top 41)) B__law_equal := by
  intro A s0 H0 L outer ex calm pn xe J b hp hf
  exact (pss_cons (PM.ps_ret (PM.pe_and (PM.pe_cmp (o := .eq) b.hG b.hu (po_val (pe_bif (b := .repr) b.hG b.calm b.hu b.gd rfl (Z.free 19) (po_var rfl (vis_by rfl) rfl rfl)) (fun _ z => by cases z)) (po_val (pe_bif (b := .repr) b.hG b.calm b.hu b.gd rfl (Z.free 19) (po_var rfl (vis_by rfl) rfl rfl)) (fun _ z => by cases z)) rfl) (PM.pe_one (PM.pe_cmp (o := .eq) b.hG b.hu (po_var rfl (vis_by rfl) rfl rfl) (po_var rfl (vis_by rfl) rfl rfl) rfl))))
  pss_nil)
theorem f__law_equal (Z : HD P w K h base mg) : CallOk P w K mg base 1 "_law_equal" ["told", "due"] (spF (GG P w K (TT K)) (PM.fldAt kcs) 2 F__law_equal) := by
  obtain ⟨fd, D⟩ := Z.def_ 24
  exact def_ok (T := TT K) (B := B__law_equal) (orc := O__law_equal) D (Z.glo 50) sc__law_equal rfl rfl (fun _ _ _ _ _ _ us hl => match us, hl with | [_, _], _ => rfl) (fun _ _ _ _ _ _ us hl => match us, hl with | [_, _], _ => rfl) (b__law_equal Z)
theorem sc__law_words : FnScope ["values", "value"] ["values"] (defScope (top 42)) := ⟨rfl, rfl, rfl, by decide +kernel, rfl, by decide +kernel, by decide +kernel⟩
set_option maxHeartbeats 8000000 in
theorem b__law_words (Z : HD P w K h base mg) : BodyOk P w K mg base (TT K) (PM.fldAt kcs) 0 ["values", "value"] "_law_words" (defScope (top 42)) O__law_words (defBody (top 42)) B__law_words := by
  intro A s0 H0 L outer ex calm pn xe J b hp hf
  exact (pss_cons (PM.ps_ret (pe_ite (PM.pt_cmp (o := .ne) b.hG b.hu (po_var rfl (vis_by rfl) rfl rfl) (po_val (PM.pe_tup pl_nil) (fun _ z => by cases z)) rfl) (PM.pe_met (m := .join) b.hG (by decide) (po_val pe_lstr (fun _ z => by cases z)) (po_val (pe_lcB (own := [("value", 1)]) b (PM.pi_val b.hG (pe_nm rfl (vis_by rfl) rfl rfl)) (L2.blkOk_by (by kernel_rfl)) (fun s H C cl fp b => (PM.pg_nm b.nd rfl (loc_by rfl) (by first | exact .inl rfl | exact .inr rfl))) (by decide) (fun s H C cl fp b => pts_nil') (fun s H C cl fp b => (pe_bif (b := .str) b.hG b.calm b.hu b.gd rfl (Z.free 8) (po_var rfl (vis_by rfl) rfl rfl)))) (fun _ z => by cases z))) pe_lstr))
  pss_nil)
theorem f__law_words (Z : HD P w K h base mg) : CallOk P w K mg base 1 "_law_words" ["values"] (spF (GG P w K (TT K)) (PM.fldAt kcs) 1 F__law_words) := by
  obtain ⟨fd, D⟩ := Z.def_ 25
  exact def_ok (T := TT K) (B := B__law_words) (orc := O__law_words) D (Z.glo 51) sc__law_words rfl rfl (fun _ _ _ _ _ _ us hl => match us, hl with | [_], _ => rfl) (fun _ _ _ _ _ _ us hl => match us, hl with | [_], _ => rfl) (b__law_words Z)
theorem sc__law_is_value : FnScope ["thing", "sign"] ["thing"] (defScope (top 43)) := ⟨rfl, rfl, rfl, by decide +kernel, rfl, by decide +kernel, by decide +kernel⟩
set_option maxHeartbeats 8000000 in
theorem b__law_is_value (Z : HD P w K h base mg) : BodyOk P w K mg base (TT K) (PM.fldAt kcs) 0 ["thing", "sign"] "_law_is_value" (defScope (top 43)) O__law_is_value (defBody (top 43)) B__law_is_value := by
  intro A s0 H0 L outer ex calm pn xe J b hp hf
  exact (pss_cons (PM.ps_if (PM.pt_val b.hG (po_val (pe_isi b.hG rfl (Z.free 0) (c := .str) rfl (Z.free 8) (po_var rfl (vis_by rfl) rfl rfl)) (fun _ z => by cases z)) (fun _ => rfl)) (pss_cons (PM.ps_ret (PM.pe_and (pe_chn (o := .lt) (p := .lt) b.hG b.hu (po_val pe_lint (fun _ z => by cases z)) (po_val (pe_bif (b := .len) b.hG b.calm b.hu b.gd rfl (Z.free 3) (po_var rfl (vis_by rfl) rfl rfl)) (fun _ z => by cases z)) (po_val pe_lint (fun _ z => by cases z)) rfl) (PM.pe_one (pe_bif (b := .all) b.hG b.calm b.hu b.gd rfl (Z.free 5) (po_val (pe_lcB (own := [("sign", 1)]) b (PM.pi_val b.hG (pe_nm rfl (vis_by rfl) rfl rfl)) (L2.blkOk_by (by kernel_rfl)) (fun s H C cl fp b => (PM.pg_nm b.nd rfl (loc_by rfl) (by first | exact .inl rfl | exact .inr rfl))) (by decide) (fun s H C cl fp b => pts_nil') (fun s H C cl fp b => (PM.pe_cmp (o := .in_) b.hG b.hu (po_var rfl (vis_by rfl) rfl rfl) (po_val pe_lstr (fun _ z => by cases z)) rfl))) (fun _ z => by cases z))))))
  pss_nil) pss_nil)
  (pss_cons (PM.ps_ret (PM.pe_and (pe_isi b.hG rfl (Z.free 0) (c := .int) rfl (Z.free 2) (po_var rfl (vis_by rfl) rfl rfl)) (PM.pe_and (pe_not b.hG (po_val (pe_isi b.hG rfl (Z.free 0) (c := .bool) rfl (Z.free 1) (po_var rfl (vis_by rfl) rfl rfl)) (fun _ z => by cases z))) (PM.pe_one (pe_chn (o := .lt) (p := .lt) b.hG b.hu (po_val (pe_neg (i := 10000)) (fun _ z => by cases z)) (po_var rfl (vis_by rfl) rfl rfl) (po_val pe_lint (fun _ z => by cases z)) rfl)))))
  pss_nil))
theorem f__law_is_value (Z : HD P w K h base mg) : CallOk P w K mg base 1 "_law_is_value" ["thing"] (spF (GG P w K (TT K)) (PM.fldAt kcs) 1 F__law_is_value) := by
  obtain ⟨fd, D⟩ := Z.def_ 26
  exact def_ok (T := TT K) (B := B__law_is_value) (orc := O__law_is_value) D (Z.glo 52) sc__law_is_value rfl rfl (fun _ _ _ _ _ _ us hl => match us, hl with | [_], _ => rfl) (fun _ _ _ _ _ _ us hl => match us, hl with | [_], _ => rfl) (b__law_is_value Z)
theorem sc__law_drawn : FnScope ["jug"] ["jug"] (defScope (top 44)) := ⟨rfl, rfl, rfl, by decide +kernel, rfl, by decide +kernel, by decide +kernel⟩
set_option maxHeartbeats 8000000 in
theorem b__law_drawn (Z : HD P w K h base mg) : BodyOk P w K mg base (TT K) (PM.fldAt kcs) 2 ["jug"] "_law_drawn" (defScope (top 44)) O__law_drawn (defBody (top 44)) B__law_drawn := by
  intro A s0 H0 L outer ex calm pn xe J b hp hf
  exact (pss_cons (PM.ps_ret (pe_callC (F := F__law_some) b hf (f__law_some Z) rfl (by decide) rfl (paa_cons (parg_lend (po_var rfl (vis_by rfl) rfl rfl)) (paa_cons (parg_val (PM.pe_tup (pl_cons pe_lint (pl_cons pe_lint (pl_cons (pe_neg (i := 7)) (pl_cons pe_lint (pl_cons (pe_neg (i := 9999)) (pl_cons pe_lint (pl_cons pe_lstr (pl_cons pe_lstr (pl_cons pe_lstr (pl_cons pe_lstr (pl_cons pe_lstr (pl_cons pe_lstr (pl_cons (pe_neg (i := 1)) (pl_cons pe_lint pl_nil)))))))))))))))) paa_nil)) rfl))
  pss_nil)
theorem f__law_drawn (Z : HD P w K h base mg) : CallOk P w K mg base 3 "_law_drawn" ["jug"] (spF (GG P w K (TT K)) (PM.fldAt kcs) 1 F__law_drawn) := by
  obtain ⟨fd, D⟩ := Z.def_ 27
  exact def_ok (T := TT K) (B := B__law_drawn) (orc := O__law_drawn) D (Z.glo 53) sc__law_drawn rfl rfl (fun _ _ _ _ _ _ us hl => match us, hl with | [_], _ => rfl) (fun _ _ _ _ _ _ us hl => match us, hl with | [_], _ => rfl) (b__law_drawn Z)
theorem sc__law_less : FnScope ["one", "two", "own", "other"] ["one", "two"] (defScope (top 45)) := ⟨rfl, rfl, rfl, by decide +kernel, rfl, by decide +kernel, by decide +kernel⟩
set_option maxHeartbeats 8000000 in
theorem b__law_less (Z : HD P w K h base mg) : BodyOk P w K mg base (TT K) (PM.fldAt kcs) 0 ["one", "two", "own", "other"] "_law_less" (defScope (top 45)) O__law_less (defBody (top 45)) B__law_less := by
  intro A s0 H0 L outer ex calm pn xe J b hp hf
  exact (pss_cons (PM.ps_for hp b.calm (PM.pi_zip b.hG rfl (Z.free 20) (pe_nm rfl (vis_by rfl) rfl rfl) (pe_nm rfl (vis_by rfl) rfl rfl)) (PM.pg_tp b.hG b.calm (pgs_cons' (PM.pg_nm b.nd rfl (loc_by rfl) (by first | exact .inl rfl | exact .inr rfl)) (pgs_cons' (PM.pg_nm b.nd rfl (loc_by rfl) (by first | exact .inl rfl | exact .inr rfl)) pgs_nil')) rfl) (pss_cons (PM.ps_if (PM.pt_cmp (o := .ne) b.hG b.hu (po_val (pe_bif (b := .repr) b.hG b.calm b.hu b.gd rfl (Z.free 19) (po_var rfl (vis_by rfl) rfl rfl)) (fun _ z => by cases z)) (po_val (pe_bif (b := .repr) b.hG b.calm b.hu b.gd rfl (Z.free 19) (po_var rfl (vis_by rfl) rfl rfl)) (fun _ z => by cases z)) rfl) (pss_cons (PM.ps_if (PM.pt_cmp (o := .ne) b.hG b.hu (po_val (pe_isi b.hG rfl (Z.free 0) (c := .str) rfl (Z.free 8) (po_var rfl (vis_by rfl) rfl rfl)) (fun _ z => by cases z)) (po_val (pe_isi b.hG rfl (Z.free 0) (c := .str) rfl (Z.free 8) (po_var rfl (vis_by rfl) rfl rfl)) (fun _ z => by cases z)) rfl) (pss_cons (PM.ps_ret (pe_isi b.hG rfl (Z.free 0) (c := .str) rfl (Z.free 8) (po_var rfl (vis_by rfl) rfl rfl)))
  pss_nil) pss_nil)
  (pss_cons (PM.ps_ret (PM.pe_cmp (o := .lt) b.hG b.hu (po_var rfl (vis_by rfl) rfl rfl) (po_var rfl (vis_by rfl) rfl rfl) rfl))
  pss_nil)) pss_nil)
  pss_nil))
  (pss_cons (PM.ps_ret (PM.pe_cmp (o := .lt) b.hG b.hu (po_val (pe_bif (b := .len) b.hG b.calm b.hu b.gd rfl (Z.free 3) (po_var rfl (vis_by rfl) rfl rfl)) (fun _ z => by cases z)) (po_val (pe_bif (b := .len) b.hG b.calm b.hu b.gd rfl (Z.free 3) (po_var rfl (vis_by rfl) rfl rfl)) (fun _ z => by cases z)) rfl))
  pss_nil))
theorem f__law_less (Z : HD P w K h base mg) : CallOk P w K mg base 1 "_law_less" ["one", "two"] (spF (GG P w K (TT K)) (PM.fldAt kcs) 2 F__law_less) := by
  obtain ⟨fd, D⟩ := Z.def_ 28
  exact def_ok (T := TT K) (B := B__law_less) (orc := O__law_less) D (Z.glo 54) sc__law_less rfl rfl (fun _ _ _ _ _ _ us hl => match us, hl with | [_, _], _ => rfl) (fun _ _ _ _ _ _ us hl => match us, hl with | [_, _], _ => rfl) (b__law_less Z)
end K02


namespace K02
open PySem PySem.Spec PyProof.Rows PM
open L2 (FnScope defScope defArgs defBody FunD Cx)
variable [TC] {P : Program} {w : World} {K : PySem.W.Frag} {h base : Heap} {mg : Str → Option Value}
theorem sc__law_sorted : FnScope ["lot", "found", "own", "ahead", "other"] ["lot"] (defScope (top 46)) := ⟨rfl, rfl, rfl, by decide +kernel, rfl, by decide +kernel, by decide +kernel⟩
set_option maxHeartbeats 8000000 in
theorem b__law_sorted (Z : HD P w K h base mg) : BodyOk P w K mg base (TT K) (PM.fldAt kcs) 1 ["lot", "found", "own", "ahead", "other"] "_law_sorted" (defScope (top 46)) O__law_sorted (defBody (top 46)) B__law_sorted := by
  intro A s0 H0 L outer ex calm pn xe J b hp hf
  exact (pss_cons (PM.ps_set b.nd rfl (loc_by rfl) (PM.pe_lst pl_nil) (.inl rfl))
  (pss_cons (PM.ps_for hp b.calm (PM.pi_val b.hG (pe_nm rfl (vis_by rfl) rfl rfl)) (PM.pg_nm b.nd rfl (loc_by rfl) (by first | exact .inl rfl | exact .inr rfl)) (pss_cons (ps_setLcB (own := [("other", 4)]) b rfl rfl rfl (PM.pi_val b.hG (pe_nm rfl (vis_by rfl) rfl rfl)) (L2.blkOk_by (by kernel_rfl)) (fun s H C cl fp b => (PM.pg_nm b.nd rfl (loc_by rfl) (by first | exact .inl rfl | exact .inr rfl))) (by decide) (fun s H C cl fp b => (pts_one' (PM.pt_val b.hG (po_val (pe_callC (F := F__law_less) b hf (f__law_less Z) rfl (by decide) rfl (paa_cons (parg_val (pe_nm rfl (vis_by rfl) rfl rfl)) (paa_cons (parg_val (pe_nm rfl (vis_by rfl) rfl rfl)) paa_nil)) rfl) (fun _ z => by cases z)) (fun _ => rfl)))) (fun s H C cl fp b => (pe_nm rfl (vis_by rfl) rfl rfl)))
  (pss_cons (PM.ps_set b.nd rfl (loc_by rfl) (pe_bin (o := .add) b.hG (po_val (pe_bin (o := .add) b.hG (po_var rfl (vis_by rfl) rfl rfl) (po_val (PM.pe_lst (pl_cons (pe_nm rfl (vis_by rfl) rfl rfl) pl_nil)) (fun _ z => by cases z))) (fun _ z => by cases z)) (po_val (PM.pe_slc b.hG (po_var rfl (vis_by rfl) rfl rfl) (pp_some (po_val (pe_bif (b := .len) b.hG b.calm b.hu b.gd rfl (Z.free 3) (po_var rfl (vis_by rfl) rfl rfl)) (fun _ z => by cases z))) pp_none) (fun _ z => by cases z))) (.inl rfl))
  pss_nil)))
  (pss_cons (PM.ps_ret (pe_bif (b := .tuple) b.hG b.calm b.hu b.gd rfl (Z.free 11) (po_var rfl (vis_by rfl) rfl rfl)))
  pss_nil)))
theorem f__law_sorted (Z : HD P w K h base mg) : CallOk P w K mg base 2 "_law_sorted" ["lot"] (spF (GG P w K (TT K)) (PM.fldAt kcs) 1 F__law_sorted) := by
  obtain ⟨fd, D⟩ := Z.def_ 29
  exact def_ok (T := TT K) (B := B__law_sorted) (orc := O__law_sorted) D (Z.glo 55) sc__law_sorted rfl rfl (fun _ _ _ _ _ _ us hl => match us, hl with | [_], _ => rfl) (fun _ _ _ _ _ _ us hl => match us, hl with | [_], _ => rfl) (b__law_sorted Z)
theorem sc__law_heard : FnScope ["call", "e"] ["call"] (defScope (top 47)) := ⟨rfl, rfl, rfl, by decide +kernel, rfl, by decide +kernel, by decide +kernel⟩
theorem d__law_heard (Z : HD P w K h base mg) : ∃ fd, FunD K "_law_heard" "_law_heard" (defArgs (top 47)) (defBody (top 47)) (defScope (top 47)) [] [] (He.ga K "_law_heard") fd := Z.def_ 30
theorem eh__law_heard (Z : HD P w K h base mg) : EarHs K mg (TT K) (PM.fldAt kcs) ["call", "e"] "_law_heard" (defScope (top 47)) (fun _ _ => .bad) (match (defBody (top 47)).getD 0 (.Pass ⟨0, 0, 0, 0⟩) with | .Try _ hd _ _ _ => hd | _ => []) (.cons [1] (.pair 1 "text") (.cons [0] (.pair 1 "values") (.cons [0, 1] (.plain (.tup (.cons (.lit (.str "other")) (.cons (.lit .non) .nil)))) .nil))) := fun P w base A s0 H0 L g cdg outer stack ex fn calm pn xe J hA hf => ⟨_, (.pair ⟨rfl, by decide, .inl (Z.glo 21)⟩ rfl rfl rfl rfl (hcls_ok rfl hA hf Z.cls (Z.exI 3) (by decide)) (.pair ⟨rfl, by decide, .inl (Z.glo 22)⟩ rfl rfl rfl rfl (hcls_ok rfl hA hf Z.cls (Z.exI 4) (by decide)) (.plain ⟨rfl, by decide, .inl (Z.glo 23)⟩ (his_ok rfl hA (Z.exI 5)) (fun _ _ => (PM.pe_tup (pl_cons pe_lstr (pl_cons pe_lnon pl_nil)))) .nil)))⟩
theorem ear__law_heard (Z : HD P w K h base mg) : EarBody K mg (TT K) (PM.fldAt kcs) ["call", "e"] "_law_heard" "call" (defScope (top 47)) (defBody (top 47)) (.pair "told") [([1], (.pair "text")), ([0], (.pair "values")), ([0, 1], (.const (.frz (.tup [(.str "other"), .non]))))] := earB_pair (orc := fun _ _ => .bad) (hsE := (.cons [1] (.pair 1 "text") (.cons [0] (.pair 1 "values") (.cons [0, 1] (.plain (.tup (.cons (.lit (.str "other")) (.cons (.lit .non) .nil)))) .nil)))) (by decide) (by decide) (.cons (fun p => ⟨_, rfl⟩) (.cons (fun p => ⟨_, rfl⟩) (.cons (fun p => ⟨_, rfl⟩) .nil))) (eh__law_heard Z)
theorem sc__law_read : FnScope ["text", "found", "word", "figures", "number", "sign", "own"] ["text"] (defScope (top 48)) := ⟨rfl, rfl, rfl, by decide +kernel, rfl, by decide +kernel, by decide +kernel⟩
set_option maxHeartbeats 8000000 in
theorem b__law_read (Z : HD P w K h base mg) : BodyOk P w K mg base (TT K) (PM.fldAt kcs) 1 ["text", "found", "word", "figures", "number", "sign", "own"] "_law_read" (defScope (top 48)) O__law_read (defBody (top 48)) B__law_read := by
  intro A s0 H0 L outer ex calm pn xe J b hp hf
  exact (pss_cons (PM.ps_if (PM.pt_cmp (o := .eq) b.hG b.hu (po_var rfl (vis_by rfl) rfl rfl) (po_val pe_lstr (fun _ z => by cases z)) rfl) (pss_cons (PM.ps_ret (PM.pe_tup pl_nil))
  pss_nil) pss_nil)
  (pss_cons (PM.ps_set b.nd rfl (loc_by rfl) (PM.pe_tup pl_nil) (.inl rfl))
  (pss_cons (PM.ps_for hp b.calm (PM.pi_val b.hG (PM.pe_met (m := .split) b.hG (by decide) (po_var rfl (vis_by rfl) rfl rfl) (po_val pe_lstr (fun _ z => by cases z)))) (PM.pg_nm b.nd rfl (loc_by rfl) (by first | exact .inl rfl | exact .inr rfl)) (pss_cons (PM.ps_set b.nd rfl (loc_by rfl) (pe_ite (PM.pt_cmp (o := .eq) b.hG b.hu (po_val (PM.pe_slc b.hG (po_var rfl (vis_by rfl) rfl rfl) pp_none (pp_some (po_val pe_lint (fun _ z => by cases z)))) (fun _ z => by cases z)) (po_val pe_lstr (fun _ z => by cases z)) rfl) (PM.pe_slc b.hG (po_var rfl (vis_by rfl) rfl rfl) (pp_some (po_val pe_lint (fun _ z => by cases z))) pp_none) (pe_nm rfl (vis_by rfl) rfl rfl)) (.inl rfl))
  (pss_cons (PM.ps_set b.nd rfl (loc_by rfl) (PM.pe_and (PM.pe_cmp (o := .ne) b.hG b.hu (po_var rfl (vis_by rfl) rfl rfl) (po_val pe_lstr (fun _ z => by cases z)) rfl) (PM.pe_and (PM.pe_cmp (o := .lt) b.hG b.hu (po_val (pe_bif (b := .len) b.hG b.calm b.hu b.gd rfl (Z.free 3) (po_var rfl (vis_by rfl) rfl rfl)) (fun _ z => by cases z)) (po_val pe_lint (fun _ z => by cases z)) rfl) (PM.pe_one (pe_bif (b := .all) b.hG b.calm b.hu b.gd rfl (Z.free 5) (po_val (pe_lcB (own := [("sign", 5)]) b (PM.pi_val b.hG (pe_nm rfl (vis_by rfl) rfl rfl)) (L2.blkOk_by (by kernel_rfl)) (fun s H C cl fp b => (PM.pg_nm b.nd rfl (loc_by rfl) (by first | exact .inl rfl | exact .inr rfl))) (by decide) (fun s H C cl fp b => pts_nil') (fun s H C cl fp b => (PM.pe_cmp (o := .in_) b.hG b.hu (po_var rfl (vis_by rfl) rfl rfl) (po_val pe_lstr (fun _ z => by cases z)) rfl))) (fun _ z => by cases z)))))) (.inl rfl))
  (pss_cons (PM.ps_set b.nd rfl (loc_by rfl) (pe_bin (o := .add) b.hG (po_var rfl (vis_by rfl) rfl rfl) (po_val (PM.pe_tup (pl_cons (pe_ite (PM.pt_val b.hG (po_var rfl (vis_by rfl) rfl rfl) (fun _ => rfl)) (pe_bif (b := .int) b.hG b.calm b.hu b.gd rfl (Z.free 2) (po_var rfl (vis_by rfl) rfl rfl)) (pe_nm rfl (vis_by rfl) rfl rfl)) pl_nil)) (fun _ z => by cases z))) (.inl rfl))
  pss_nil))))
  (pss_cons (PM.ps_ret (pe_ite (L2.PW.pt (PM.pw_and (PM.pt_val b.hG (po_val (pe_bif (b := .all) b.hG b.calm b.hu b.gd rfl (Z.free 5) (po_val (pe_lcB (own := [("own", 6)]) b (PM.pi_val b.hG (pe_nm rfl (vis_by rfl) rfl rfl)) (L2.blkOk_by (by kernel_rfl)) (fun s H C cl fp b => (PM.pg_nm b.nd rfl (loc_by rfl) (by first | exact .inl rfl | exact .inr rfl))) (by decide) (fun s H C cl fp b => pts_nil') (fun s H C cl fp b => (pe_callC (F := F__law_is_value) b hf (f__law_is_value Z) rfl (by decide) rfl (paa_cons (parg_val (pe_nm rfl (vis_by rfl) rfl rfl)) paa_nil) rfl))) (fun _ z => by cases z))) (fun _ z => by cases z)) (fun _ => rfl)) (PM.pw_and1 (PM.pt_cmp (o := .eq) b.hG b.hu (po_val (pe_callC (F := F__law_words) b hf (f__law_words Z) rfl (by decide) rfl (paa_cons (parg_val (pe_nm rfl (vis_by rfl) rfl rfl)) paa_nil) rfl) (fun _ z => by cases z)) (po_var rfl (vis_by rfl) rfl rfl) rfl)))) (pe_nm rfl (vis_by rfl) rfl rfl) pe_lnon))
  pss_nil))))
theorem f__law_read (Z : HD P w K h base mg) : CallOk P w K mg base 2 "_law_read" ["text"] (spF (GG P w K (TT K)) (PM.fldAt kcs) 1 F__law_read) := by
  obtain ⟨fd, D⟩ := Z.def_ 31
  exact def_ok (T := TT K) (B := B__law_read) (orc := O__law_read) D (Z.glo 56) sc__law_read rfl rfl (fun _ _ _ _ _ _ us hl => match us, hl with | [_], _ => rfl) (fun _ _ _ _ _ _ us hl => match us, hl with | [_], _ => rfl) (b__law_read Z)
theorem sc__law_texts_right : FnScope ["jug", "values", "text", "at", "some", "sign", "own", "due"] ["jug", "values"] (defScope (top 49)) := ⟨rfl, rfl, rfl, by decide +kernel, rfl, by decide +kernel, by decide +kernel⟩
set_option maxHeartbeats 8000000 in
theorem b__law_texts_right (Z : HD P w K h base mg) : BodyOk P w K mg base (TT K) (PM.fldAt kcs) 8 ["jug", "values", "text", "at", "some", "sign", "own", "due"] "_law_texts_right" (defScope (top 49)) O__law_texts_right (defBody (top 49)) B__law_texts_right := by
  intro A s0 H0 L outer ex calm pn xe J b hp hf
  exact (pss_cons (PM.ps_set b.nd rfl (loc_by rfl) (pe_callC (F := F__law_words) b hf (f__law_words Z) rfl (by decide) rfl (paa_cons (parg_val (pe_nm rfl (vis_by rfl) rfl rfl)) paa_nil) rfl) (.inl rfl))
  (pss_cons (PM.ps_if (PM.pt_not (PM.pt_val b.hG (po_val (pe_callC (F := F__law_equal) b hf (f__law_equal Z) rfl (by decide) rfl (paa_cons (parg_val (PM.pe_tup (pl_cons (pe_callC (F := F_values_text) b hf (f_values_text Z) rfl (by decide) rfl (paa_cons (parg_val (pe_nm rfl (vis_by rfl) rfl rfl)) paa_nil) rfl) (pl_cons (pe_callKC (F := F_values_text) b hf (f_values_text Z) rfl (by decide) rfl (pkk_cons (parg_val (pe_nm rfl (vis_by rfl) rfl rfl)) pkk_nil) rfl) (pl_cons (pe_callC (F := F_read_values) b hf (f_read_values Z) rfl (by decide) rfl (paa_cons (parg_val (pe_nm rfl (vis_by rfl) rfl rfl)) paa_nil) rfl) (pl_cons (pe_callKC (F := F_read_values) b hf (f_read_values Z) rfl (by decide) rfl (pkk_cons (parg_val (pe_nm rfl (vis_by rfl) rfl rfl)) pkk_nil) rfl) pl_nil)))))) (paa_cons (parg_val (PM.pe_tup (pl_cons (pe_nm rfl (vis_by rfl) rfl rfl) (pl_cons (pe_nm rfl (vis_by rfl) rfl rfl) (pl_cons (pe_nm rfl (vis_by rfl) rfl rfl) (pl_cons (pe_nm rfl (vis_by rfl) rfl rfl) pl_nil)))))) paa_nil)) rfl) (fun _ z => by cases z)) (fun _ => rfl))) (pss_cons (PM.ps_ret pe_lbl)
  pss_nil) pss_nil)
  (pss_cons (PM.ps_set b.nd rfl (loc_by rfl) (pe_callC (F := F__law_pour) b hf (f__law_pour Z) rfl (by decide) rfl (paa_cons (parg_lend (po_var rfl (vis_by rfl) rfl rfl)) (paa_cons (parg_val (pe_bin (o := .add) b.hG (po_val (pe_bif (b := .len) b.hG b.calm b.hu b.gd rfl (Z.free 3) (po_var rfl (vis_by rfl) rfl rfl)) (fun _ z => by cases z)) (po_val pe_lint (fun _ z => by cases z)))) paa_nil)) rfl) (.inl rfl))
  (pss_cons (PM.ps_set b.nd rfl (loc_by rfl) (pe_bin (o := .add) b.hG (po_val (pe_lcB (own := [("sign", 5)]) b (PM.pi_val b.hG pe_lstr) (L2.blkOk_by (by kernel_rfl)) (fun s H C cl fp b => (PM.pg_nm b.nd rfl (loc_by rfl) (by first | exact .inl rfl | exact .inr rfl))) (by decide) (fun s H C cl fp b => pts_nil') (fun s H C cl fp b => (pe_bin (o := .add) b.hG (po_val (pe_bin (o := .add) b.hG (po_val (PM.pe_slc b.hG (po_var rfl (vis_by rfl) rfl rfl) pp_none (pp_some (po_var rfl (vis_by rfl) rfl rfl))) (fun _ z => by cases z)) (po_var rfl (vis_by rfl) rfl rfl)) (fun _ z => by cases z)) (po_val (PM.pe_slc b.hG (po_var rfl (vis_by rfl) rfl rfl) (pp_some (po_var rfl (vis_by rfl) rfl rfl)) pp_none) (fun _ z => by cases z))))) (fun _ z => by cases z)) (po_val (PM.pe_lst (pl_cons (pe_bin (o := .add) b.hG (po_val (PM.pe_slc b.hG (po_var rfl (vis_by rfl) rfl rfl) pp_none (pp_some (po_var rfl (vis_by rfl) rfl rfl))) (fun _ z => by cases z)) (po_val (PM.pe_slc b.hG (po_var rfl (vis_by rfl) rfl rfl) (pp_some (po_val (pe_bin (o := .add) b.hG (po_var rfl (vis_by rfl) rfl rfl) (po_val pe_lint (fun _ z => by cases z))) (fun _ z => by cases z))) pp_none) (fun _ z => by cases z))) (pl_cons (pe_bin (o := .add) b.hG (po_var rfl (vis_by rfl) rfl rfl) (po_val pe_lstr (fun _ z => by cases z))) (pl_cons pe_lstr (pl_cons pe_lstr (pl_cons pe_lstr (pl_cons pe_lstr (pl_cons pe_lstr (pl_cons pe_lstr (pl_cons pe_lstr (pl_cons pe_lstr (pl_cons pe_lstr (pl_cons pe_lstr (pl_cons pe_lstr (pl_cons pe_lstr (pl_cons pe_lstr pl_nil)))))))))))))))) (fun _ z => by cases z))) (.inl rfl))
  (pss_cons (PM.ps_for hp b.calm (PM.pi_val b.hG (pe_nm rfl (vis_by rfl) rfl rfl)) (PM.pg_nm b.nd rfl (loc_by rfl) (by first | exact .inl rfl | exact .inr rfl)) (pss_cons (PM.ps_set b.nd rfl (loc_by rfl) (pe_callC (F := F__law_read) b hf (f__law_read Z) rfl (by decide) rfl (paa_cons (parg_val (pe_nm rfl (vis_by rfl) rfl rfl)) paa_nil) rfl) (.inl rfl))
  (pss_cons (PM.ps_if (PM.pt_not (PM.pt_val b.hG (po_val (pe_callC (F := F__law_equal) b hf (f__law_equal Z) rfl (by decide) rfl (paa_cons (parg_val (pe_heardC (k := 6) b hf (B_ Z) 0 rfl rfl rfl rfl (d__law_heard Z) (Z.glo 24) (fun _ _ _ _ _ _ us hl => match us, hl with | [_], _ => rfl) sc__law_heard rfl (vis_by rfl) (ear__law_heard Z) (LamX.lamS_by (by kernel_rfl)) rfl (fun _ _ _ _ _ => rfl) (fun A out s H E f c' b => (pe_callC (F := F_read_values) b hf (f_read_values Z) rfl (by decide) rfl (paa_cons (parg_val (pe_nm rfl (vis_by rfl) rfl rfl)) paa_nil) rfl)))) (paa_cons (parg_val (pe_ite (PM.pt_cmp (o := .isnot) b.hG b.hu (po_var rfl (vis_by rfl) rfl rfl) (po_val pe_lnon (fun _ z => by cases z)) rfl) (PM.pe_tup (pl_cons pe_lstr (pl_cons (pe_nm rfl (vis_by rfl) rfl rfl) pl_nil))) (PM.pe_tup (pl_cons pe_lstr (pl_cons (pe_nm rfl (vis_by rfl) rfl rfl) pl_nil))))) paa_nil)) rfl) (fun _ z => by cases z)) (fun _ => rfl))) (pss_cons (PM.ps_ret pe_lbl)
  pss_nil) pss_nil)
  pss_nil)))
  (pss_cons (PM.ps_ret pe_lbl)
  pss_nil))))))
theorem f__law_texts_right (Z : HD P w K h base mg) : CallOk P w K mg base 9 "_law_texts_right" ["jug", "values"] (spF (GG P w K (TT K)) (PM.fldAt kcs) 2 F__law_texts_right) := by
  obtain ⟨fd, D⟩ := Z.def_ 32
  exact def_ok (T := TT K) (B := B__law_texts_right) (orc := O__law_texts_right) D (Z.glo 57) sc__law_texts_right rfl rfl (fun _ _ _ _ _ _ us hl => match us, hl with | [_, _], _ => rfl) (fun _ _ _ _ _ _ us hl => match us, hl with | [_, _], _ => rfl) (b__law_texts_right Z)
end K02


namespace K02
open PySem PySem.Spec PyProof.Rows PM
open L2 (FnScope defScope defArgs defBody FunD Cx)
variable [TC] {P : Program} {w : World} {K : PySem.W.Frag} {h base : Heap} {mg : Str → Option Value}
theorem sc__law_bears : FnScope ["jug", "things", "thing", "turn", "values", "column", "own", "lot", "part", "due", "odd", "wrong"] ["jug"] (defScope (top 50)) := ⟨rfl, rfl, rfl, by decide +kernel, rfl, by decide +kernel, by decide +kernel⟩
set_option maxHeartbeats 8000000 in
theorem b__law_bears (Z : HD P w K h base mg) : BodyOk P w K mg base (TT K) (PM.fldAt kcs) 9 ["jug", "things", "thing", "turn", "values", "column", "own", "lot", "part", "due", "odd", "wrong"] "_law_bears" (defScope (top 50)) O__law_bears (defBody (top 50)) B__law_bears := by
  intro A s0 H0 L outer ex calm pn xe J b hp hf
  exact (pss_cons (PM.ps_set b.nd rfl (loc_by rfl) (PM.pe_lst (pl_cons pe_lnon (pl_cons pe_lbl (pl_cons pe_lbl (pl_cons pe_lstr (pl_cons pe_lstr (pl_cons pe_lstr (pl_cons pe_lstr (pl_cons pe_lstr (pl_cons pe_lstr (pl_cons pe_lint (pl_cons (pe_neg (i := 9999)) (pl_cons pe_lint (pl_cons (pe_neg (i := 10000)) (pl_cons (pe_bin (o := .pow) b.hG (po_val pe_lint (fun _ z => by cases z)) (po_val pe_lint (fun _ z => by cases z))) (pl_cons (PM.pe_tup pl_nil) (pl_cons (PM.pe_tup (pl_cons pe_lint pl_nil)) (pl_cons (PM.pe_lst (pl_cons pe_lstr pl_nil)) (pl_cons (pe_dict0 b.hG) (pl_cons pe_lstr (pl_cons pe_lstr (pl_cons pe_lint pl_nil)))))))))))))))))))))) (.inl rfl))
  (pss_cons (PM.ps_if (PM.pt_not (PM.pt_val b.hG (po_val (pe_bif (b := .all) b.hG b.calm b.hu b.gd rfl (Z.free 5) (po_val (pe_lcB (own := [("thing", 2)]) b (PM.pi_val b.hG (pe_nm rfl (vis_by rfl) rfl rfl)) (L2.blkOk_by (by kernel_rfl)) (fun s H C cl fp b => (PM.pg_nm b.nd rfl (loc_by rfl) (by first | exact .inl rfl | exact .inr rfl))) (by decide) (fun s H C cl fp b => pts_nil') (fun s H C cl fp b => (pe_callC (F := F__law_equal) b hf (f__law_equal Z) rfl (by decide) rfl (paa_cons (parg_val (PM.pe_tup (pl_cons (pe_callC (F := F_is_value) b hf (f_is_value Z) rfl (by decide) rfl (paa_cons (parg_val (pe_nm rfl (vis_by rfl) rfl rfl)) paa_nil) rfl) (pl_cons (pe_callKC (F := F_is_value) b hf (f_is_value Z) rfl (by decide) rfl (pkk_cons (parg_val (pe_nm rfl (vis_by rfl) rfl rfl)) pkk_nil) rfl) pl_nil)))) (paa_cons (parg_val (pe_bin (o := .mul) b.hG (po_val (PM.pe_tup (pl_cons (pe_callC (F := F__law_is_value) b hf (f__law_is_value Z) rfl (by decide) rfl (paa_cons (parg_val (pe_nm rfl (vis_by rfl) rfl rfl)) paa_nil) rfl) pl_nil)) (fun _ z => by cases z)) (po_val pe_lint (fun _ z => by cases z)))) paa_nil)) rfl))) (fun _ z => by cases z))) (fun _ z => by cases z)) (fun _ => rfl))) (pss_cons (PM.ps_ret pe_lbl)
  pss_nil) pss_nil)
  (pss_cons (PM.ps_for hp b.calm (PM.pi_range rfl (Z.free 25) pe_lint) (PM.pg_nm b.nd rfl (loc_by rfl) (by first | exact .inl rfl | exact .inr rfl)) (pss_cons (PM.ps_set b.nd rfl (loc_by rfl) (pe_bif (b := .tuple) b.hG b.calm b.hu b.gd rfl (Z.free 11) (po_val (pe_lcB (own := [("column", 5)]) b (PM.pi_range rfl (Z.free 25) (pe_callC (F := F__law_pour) b hf (f__law_pour Z) rfl (by decide) rfl (paa_cons (parg_lend (po_var rfl (vis_by rfl) rfl rfl)) (paa_cons (parg_val pe_lint) paa_nil)) rfl)) (L2.blkOk_by (by kernel_rfl)) (fun s H C cl fp b => (PM.pg_nm b.nd rfl (loc_by rfl) (by first | exact .inl rfl | exact .inr rfl))) (by decide) (fun s H C cl fp b => pts_nil') (fun s H C cl fp b => (pe_callC (F := F__law_drawn) b hf (f__law_drawn Z) rfl (by decide) rfl (paa_cons (parg_lend (po_var rfl (vis_by rfl) rfl rfl)) paa_nil) rfl))) (fun _ z => by cases z))) (.inl rfl))
  (pss_cons (PM.ps_if (L2.PW.pt (PM.pw_or (PM.pt_not (PM.pt_val b.hG (po_val (pe_bif (b := .all) b.hG b.calm b.hu b.gd rfl (Z.free 5) (po_val (pe_lcB (own := [("own", 6)]) b (PM.pi_val b.hG (pe_nm rfl (vis_by rfl) rfl rfl)) (L2.blkOk_by (by kernel_rfl)) (fun s H C cl fp b => (PM.pg_nm b.nd rfl (loc_by rfl) (by first | exact .inl rfl | exact .inr rfl))) (by decide) (fun s H C cl fp b => pts_nil') (fun s H C cl fp b => (pe_callC (F := F_is_value) b hf (f_is_value Z) rfl (by decide) rfl (paa_cons (parg_val (pe_nm rfl (vis_by rfl) rfl rfl)) paa_nil) rfl))) (fun _ z => by cases z))) (fun _ z => by cases z)) (fun _ => rfl))) (PM.pw_or1 (PM.pt_not (PM.pt_val b.hG (po_val (pe_callC (F := F__law_texts_right) b hf (f__law_texts_right Z) rfl (by decide) rfl (paa_cons (parg_lend (po_var rfl (vis_by rfl) rfl rfl)) (paa_cons (parg_val (pe_nm rfl (vis_by rfl) rfl rfl)) paa_nil)) rfl) (fun _ z => by cases z)) (fun _ => rfl)))))) (pss_cons (PM.ps_ret pe_lbl)
  pss_nil) pss_nil)
  (pss_cons (PM.ps_set b.nd rfl (loc_by rfl) (PM.pe_tup pl_nil) (.inl rfl))
  (pss_cons (PM.ps_for hp b.calm (PM.pi_range rfl (Z.free 25) (pe_callC (F := F__law_pour) b hf (f__law_pour Z) rfl (by decide) rfl (paa_cons (parg_lend (po_var rfl (vis_by rfl) rfl rfl)) (paa_cons (parg_val pe_lint) paa_nil)) rfl)) (PM.pg_nm b.nd rfl (loc_by rfl) (by first | exact .inl rfl | exact .inr rfl)) (pss_cons (PM.ps_set b.nd rfl (loc_by rfl) (pe_bif (b := .tuple) b.hG b.calm b.hu b.gd rfl (Z.free 11) (po_val (pe_lcB (own := [("column", 5)]) b (PM.pi_range rfl (Z.free 25) (pe_callC (F := F__law_pour) b hf (f__law_pour Z) rfl (by decide) rfl (paa_cons (parg_lend (po_var rfl (vis_by rfl) rfl rfl)) (paa_cons (parg_val pe_lint) paa_nil)) rfl)) (L2.blkOk_by (by kernel_rfl)) (fun s H C cl fp b => (PM.pg_nm b.nd rfl (loc_by rfl) (by first | exact .inl rfl | exact .inr rfl))) (by decide) (fun s H C cl fp b => pts_nil') (fun s H C cl fp b => (pe_callC (F := F__law_drawn) b hf (f__law_drawn Z) rfl (by decide) rfl (paa_cons (parg_lend (po_var rfl (vis_by rfl) rfl rfl)) paa_nil) rfl))) (fun _ z => by cases z))) (.inl rfl))
  (pss_cons (PM.ps_set b.nd rfl (loc_by rfl) (pe_bin (o := .add) b.hG (po_var rfl (vis_by rfl) rfl rfl) (po_val (pe_ite (PM.pt_cmp (o := .notin) b.hG b.hu (po_var rfl (vis_by rfl) rfl rfl) (po_var rfl (vis_by rfl) rfl rfl) rfl) (PM.pe_tup (pl_cons (pe_nm rfl (vis_by rfl) rfl rfl) pl_nil)) (PM.pe_tup pl_nil)) (fun _ z => by cases z))) (.inl rfl))
  pss_nil)))
  (pss_cons (PM.ps_set b.nd rfl (loc_by rfl) (pe_callC (F := F__law_sorted) b hf (f__law_sorted Z) rfl (by decide) rfl (paa_cons (parg_val (pe_nm rfl (vis_by rfl) rfl rfl)) paa_nil) rfl) (.inl rfl))
  (pss_cons (PM.ps_if (PM.pt_not (PM.pt_val b.hG (po_val (pe_callC (F := F__law_equal) b hf (f__law_equal Z) rfl (by decide) rfl (paa_cons (parg_val (PM.pe_tup (pl_cons (pe_callC (F := F_ascending) b hf (f_ascending Z) rfl (by decide) rfl (paa_cons (parg_val (pe_nm rfl (vis_by rfl) rfl rfl)) paa_nil) rfl) (pl_cons (pe_callKC (F := F_ascending) b hf (f_ascending Z) rfl (by decide) rfl (pkk_cons (parg_val (pe_nm rfl (vis_by rfl) rfl rfl)) pkk_nil) rfl) (pl_cons (pe_callC (F := F_ascending) b hf (f_ascending Z) rfl (by decide) rfl (paa_cons (parg_val (pe_rev b.hG (po_var rfl (vis_by rfl) rfl rfl))) paa_nil) rfl) (pl_cons (pe_callC (F := F_ascending) b hf (f_ascending Z) rfl (by decide) rfl (paa_cons (parg_val (pe_nm rfl (vis_by rfl) rfl rfl)) paa_nil) rfl) pl_nil)))))) (paa_cons (parg_val (pe_bin (o := .mul) b.hG (po_val (PM.pe_tup (pl_cons (pe_nm rfl (vis_by rfl) rfl rfl) pl_nil)) (fun _ z => by cases z)) (po_val pe_lint (fun _ z => by cases z)))) paa_nil)) rfl) (fun _ z => by cases z)) (fun _ => rfl))) (pss_cons (PM.ps_ret pe_lbl)
  pss_nil) pss_nil)
  (pss_cons (PM.ps_set b.nd rfl (loc_by rfl) (PM.pe_lst (pl_cons pe_lnon (pl_cons (pe_bif (b := .list) b.hG b.calm b.hu b.gd rfl (Z.free 17) (po_var rfl (vis_by rfl) rfl rfl)) (pl_cons (pe_bin (o := .add) b.hG (po_var rfl (vis_by rfl) rfl rfl) (po_val (PM.pe_tup (pl_cons pe_lstr pl_nil)) (fun _ z => by cases z))) (pl_cons (pe_bin (o := .add) b.hG (po_var rfl (vis_by rfl) rfl rfl) (po_val (PM.pe_tup (pl_cons (PM.pe_tup (pl_cons pe_lbl pl_nil)) pl_nil)) (fun _ z => by cases z))) (pl_cons (pe_bin (o := .add) b.hG (po_var rfl (vis_by rfl) rfl rfl) (po_val (PM.pe_tup (pl_cons (PM.pe_tup (pl_cons pe_lstr pl_nil)) pl_nil)) (fun _ z => by cases z))) (pl_cons (pe_bin (o := .add) b.hG (po_var rfl (vis_by rfl) rfl rfl) (po_val (PM.pe_tup (pl_cons (PM.pe_lst (pl_cons pe_lint pl_nil)) pl_nil)) (fun _ z => by cases z))) (pl_cons (pe_bin (o := .add) b.hG (po_var rfl (vis_by rfl) rfl rfl) (po_val (PM.pe_tup (pl_cons pe_lnon pl_nil)) (fun _ z => by cases z))) (pl_cons (pe_bin (o := .add) b.hG (po_var rfl (vis_by rfl) rfl rfl) (po_val (PM.pe_tup (pl_cons (PM.pe_tup (pl_cons pe_lint (pl_cons pe_lint pl_nil))) pl_nil)) (fun _ z => by cases z))) (pl_cons pe_lstr (pl_cons pe_lint (pl_cons (pe_bin (o := .add) b.hG (po_var rfl (vis_by rfl) rfl rfl) (po_val (PM.pe_tup (pl_cons (PM.pe_tup (pl_cons (PM.pe_tup (pl_cons pe_lstr pl_nil)) pl_nil)) pl_nil)) (fun _ z => by cases z))) pl_nil)))))))))))) (.inl rfl))
  (pss_cons (PM.ps_if (PM.pt_not (PM.pt_val b.hG (po_val (pe_bif (b := .all) b.hG b.calm b.hu b.gd rfl (Z.free 5) (po_val (pe_lcB (own := [("thing", 2)]) b (PM.pi_val b.hG (pe_nm rfl (vis_by rfl) rfl rfl)) (L2.blkOk_by (by kernel_rfl)) (fun s H C cl fp b => (PM.pg_nm b.nd rfl (loc_by rfl) (by first | exact .inl rfl | exact .inr rfl))) (by decide) (fun s H C cl fp b => pts_nil') (fun s H C cl fp b => (pe_callC (F := F__law_equal) b hf (f__law_equal Z) rfl (by decide) rfl (paa_cons (parg_val (pe_heardC (k := 7) b hf (B_ Z) 1 rfl rfl rfl rfl (d__law_heard Z) (Z.glo 24) (fun _ _ _ _ _ _ us hl => match us, hl with | [_], _ => rfl) sc__law_heard rfl (vis_by rfl) (ear__law_heard Z) (LamX.lamS_by (by kernel_rfl)) rfl (fun _ _ _ _ _ => rfl) (fun A out s H E f c' b => (pe_callC (F := F_ascending) b hf (f_ascending Z) rfl (by decide) rfl (paa_cons (parg_val (pe_nm rfl (vis_by rfl) rfl rfl)) paa_nil) rfl)))) (paa_cons (parg_val (PM.pe_tup (pl_cons pe_lstr (pl_cons (pe_nm rfl (vis_by rfl) rfl rfl) pl_nil)))) paa_nil)) rfl))) (fun _ z => by cases z))) (fun _ z => by cases z)) (fun _ => rfl))) (pss_cons (PM.ps_ret pe_lbl)
  pss_nil) pss_nil)
  (pss_cons (PM.ps_if (L2.PW.pt (PM.pw_and (PM.pt_cmp (o := .ne) b.hG b.hu (po_var rfl (vis_by rfl) rfl rfl) (po_val (PM.pe_tup pl_nil) (fun _ z => by cases z)) rfl) (PM.pw_and1 (PM.pt_not (PM.pt_val b.hG (po_val (pe_callC (F := F__law_equal) b hf (f__law_equal Z) rfl (by decide) rfl (paa_cons (parg_val (pe_heardC (k := 7) b hf (B_ Z) 1 rfl rfl rfl rfl (d__law_heard Z) (Z.glo 24) (fun _ _ _ _ _ _ us hl => match us, hl with | [_], _ => rfl) sc__law_heard rfl (vis_by rfl) (ear__law_heard Z) (LamX.lamS_by (by kernel_rfl)) rfl (fun _ _ _ _ _ => rfl) (fun A out s H E f c' b => (pe_callC (F := F_ascending) b hf (f_ascending Z) rfl (by decide) rfl (paa_cons (parg_val (pe_bin (o := .add) b.hG (po_var rfl (vis_by rfl) rfl rfl) (po_val (PM.pe_slc b.hG (po_var rfl (vis_by rfl) rfl rfl) pp_none (pp_some (po_val pe_lint (fun _ z => by cases z)))) (fun _ z => by cases z)))) paa_nil) rfl)))) (paa_cons (parg_val (PM.pe_tup (pl_cons pe_lstr (pl_cons (pe_bin (o := .add) b.hG (po_var rfl (vis_by rfl) rfl rfl) (po_val (PM.pe_slc b.hG (po_var rfl (vis_by rfl) rfl rfl) pp_none (pp_some (po_val pe_lint (fun _ z => by cases z)))) (fun _ z => by cases z))) pl_nil)))) paa_nil)) rfl) (fun _ z => by cases z)) (fun _ => rfl)))))) (pss_cons (PM.ps_ret pe_lbl)
  pss_nil) pss_nil)
  (pss_cons (PM.ps_set b.nd rfl (loc_by rfl) (PM.pe_lst (pl_cons pe_lnon (pl_cons (pe_bif (b := .list) b.hG b.calm b.hu b.gd rfl (Z.free 17) (po_var rfl (vis_by rfl) rfl rfl)) (pl_cons (pe_bin (o := .add) b.hG (po_var rfl (vis_by rfl) rfl rfl) (po_val (PM.pe_tup (pl_cons pe_lnon pl_nil)) (fun _ z => by cases z))) (pl_cons (pe_bin (o := .add) b.hG (po_var rfl (vis_by rfl) rfl rfl) (po_val (PM.pe_tup (pl_cons (PM.pe_tup pl_nil) pl_nil)) (fun _ z => by cases z))) (pl_cons (pe_bin (o := .add) b.hG (po_var rfl (vis_by rfl) rfl rfl) (po_val (PM.pe_tup (pl_cons pe_lbl pl_nil)) (fun _ z => by cases z))) (pl_cons pe_lstr (pl_cons pe_lint (pl_cons (pe_bin (o := .add) b.hG (po_var rfl (vis_by rfl) rfl rfl) (po_val (PM.pe_tup (pl_cons pe_lstr pl_nil)) (fun _ z => by cases z))) pl_nil))))))))) (.inl rfl))
  (pss_cons (PM.ps_if (PM.pt_not (PM.pt_val b.hG (po_val (pe_bif (b := .all) b.hG b.calm b.hu b.gd rfl (Z.free 5) (po_val (pe_lcB (own := [("thing", 2)]) b (PM.pi_val b.hG (pe_nm rfl (vis_by rfl) rfl rfl)) (L2.blkOk_by (by kernel_rfl)) (fun s H C cl fp b => (PM.pg_nm b.nd rfl (loc_by rfl) (by first | exact .inl rfl | exact .inr rfl))) (by decide) (fun s H C cl fp b => pts_nil') (fun s H C cl fp b => (pe_callC (F := F__law_equal) b hf (f__law_equal Z) rfl (by decide) rfl (paa_cons (parg_val (pe_heardC (k := 7) b hf (B_ Z) 1 rfl rfl rfl rfl (d__law_heard Z) (Z.glo 24) (fun _ _ _ _ _ _ us hl => match us, hl with | [_], _ => rfl) sc__law_heard rfl (vis_by rfl) (ear__law_heard Z) (LamX.lamS_by (by kernel_rfl)) rfl (fun _ _ _ _ _ => rfl) (fun A out s H E f c' b => (pe_callC (F := F_values_text) b hf (f_values_text Z) rfl (by decide) rfl (paa_cons (parg_val (pe_nm rfl (vis_by rfl) rfl rfl)) paa_nil) rfl)))) (paa_cons (parg_val (PM.pe_tup (pl_cons pe_lstr (pl_cons (pe_nm rfl (vis_by rfl) rfl rfl) pl_nil)))) paa_nil)) rfl))) (fun _ z => by cases z))) (fun _ z => by cases z)) (fun _ => rfl))) (pss_cons (PM.ps_ret pe_lbl)
  pss_nil) pss_nil)
  pss_nil))))))))))))
  (pss_cons (PM.ps_ret pe_lbl)
  pss_nil))))
theorem f__law_bears (Z : HD P w K h base mg) : CallOk P w K mg base 10 "_law_bears" ["jug"] (spF (GG P w K (TT K)) (PM.fldAt kcs) 1 F__law_bears) := by
  obtain ⟨fd, D⟩ := Z.def_ 33
  exact def_ok (T := TT K) (B := B__law_bears) (orc := O__law_bears) D (Z.glo 58) sc__law_bears rfl rfl (fun _ _ _ _ _ _ us hl => match us, hl with | [_], _ => rfl) (fun _ _ _ _ _ _ us hl => match us, hl with | [_], _ => rfl) (b__law_bears Z)
end K02


namespace K02
open PySem PySem.Spec PyProof.Rows PM
open L2 (FnScope defScope defArgs defBody FunD Cx)
variable [TC] {P : Program} {w : World} {K : PySem.W.Frag} {h base : Heap} {mg : Str → Option Value}
theorem sc_law : FnScope ["script", "side"] ["script"] (defScope (top 51)) := ⟨rfl, rfl, rfl, by decide +kernel, rfl, by decide +kernel, by decide +kernel⟩
set_option maxHeartbeats 8000000 in
theorem b_law (Z : HD P w K h base mg) : BodyOk P w K mg base (TT K) (PM.fldAt kcs) 10 ["script", "side"] "law" (defScope (top 51)) O_law (defBody (top 51)) B_law := by
  intro A s0 H0 L outer ex calm pn xe J b hp hf
  exact (pss_cons (PM.ps_ret (pe_bif (b := .all) b.hG b.calm b.hu b.gd rfl (Z.free 5) (po_val (pe_lcB (own := [("side", 1)]) b (PM.pi_val b.hG (PM.pe_tup (pl_cons pe_lint (pl_cons pe_lint pl_nil)))) (L2.blkOk_by (by kernel_rfl)) (fun s H C cl fp b => (PM.pg_nm b.nd rfl (loc_by rfl) (by first | exact .inl rfl | exact .inr rfl))) (by decide) (fun s H C cl fp b => pts_nil') (fun s H C cl fp b => (pe_callC (F := F__law_bears) b hf (f__law_bears Z) rfl (by decide) rfl (paa_cons (parg_val (pe_callC (F := F__law_jug) b hf (f__law_jug Z) rfl (by decide) rfl (paa_cons (parg_val (pe_nm rfl (vis_by rfl) rfl rfl)) (paa_cons (parg_val (pe_nm rfl (vis_by rfl) rfl rfl)) paa_nil)) rfl)) paa_nil) rfl))) (fun _ z => by cases z))))
  pss_nil)
theorem f_law (Z : HD P w K h base mg) : CallOk P w K mg base 11 "law" ["script"] (spF (GG P w K (TT K)) (PM.fldAt kcs) 1 F_law) := by
  obtain ⟨fd, D⟩ := Z.def_ 34
  exact def_ok (T := TT K) (B := B_law) (orc := O_law) D (Z.glo 59) sc_law rfl rfl (fun _ _ _ _ _ _ us hl => match us, hl with | [_], _ => rfl) (fun _ _ _ _ _ _ us hl => match us, hl with | [_], _ => rfl) (b_law Z)
end K02

namespace K02
open PySem PM TL NumText
local macro_rules | `(tactic| walk_at "ev") => `(tactic| simp only [List.getElem?_cons_zero, List.getElem?_cons_succ, List.getElem?_nil, List.set_cons_zero, List.set_cons_succ, List.replicate_succ, List.replicate_zero, List.cons_append, List.nil_append, Option.map_some, Option.map_none, Option.bind_some, if_true, if_false, ite_true, ite_false, Bool.not_true, Bool.not_false, Bool.false_eq_true, Bool.true_and, Bool.and_true, Bool.false_and, Bool.and_false, Bool.true_or, Bool.or_true, Bool.false_or, Bool.or_false, reduceIte, List.length_cons, List.length_nil, Nat.reduceAdd, Nat.reduceSub, Nat.reduceLeDiff, Nat.reduceLT, Int.reduceAdd, Int.reduceSub, Int.reduceNeg, Int.reduceLT, Int.reduceLE, Int.reduceEq, decide_true, decide_false, List.map_cons, List.map_nil, Bool.and_self, Bool.not_not, List.range_one, eq_self, PM.isInst, PM.isIn, PM.evE_call, Option.map_none, bnd_ok, bnd_exc, of_some, nx_ok, evE_lit, evE_var, evE_tup, evE_lst, evE_bin, evE_cmp, evE_chn, evE_and, evE_or, evE_not, evE_ite, evE_sub, evE_slc, evE_rev, evE_bif, evE_isi, evE_met1, evE_fmt, evE_dict, evE_heard, evT_and, evT_or, evT_not, evT_val, evL_nil, evL_cons, evKV_nil, evKV_cons, evA_nil, evA_cons, evCs_nil, evCs_one, evI_val, evI_enum, evI_zip, evI_range, evS_set, evS_asg, evS_setk, evS_expr, evS_ret, evS_retN, evS_if, evS_for, evS_raise, evS_brk, evS_cont, evS_pass, evSs_nil, evSs_cons, range_0, permute_0, permuteR_0, permute_1, permuteR_1, range_2, permute_2, permuteR_2, range_3, permute_3, permuteR_3, range_4, permute_4, permuteR_4, range_5, permute_5, permuteR_5, takeA_nil, takeA_val, takeA_slot, backA_nil, backA_val, backA_slot, backA_no, outs_nil, outs_lent, outs_ov, mkO_nm, mkO_lit, mkO_tup, mkO_lst, mkO_dict, mkO_bin, mkO_cmp, mkO_chn, mkO_and, mkO_or, mkO_not, mkO_ite, mkO_sub, mkO_slc, mkO_rev, mkO_lc, mkO_dc, mkO_fmt, mkO_call, mkO_bif, mkO_isi, mkO_met1, mkO_fst, mkO_heard, mkA_f, mkA_t, rd_val, rd_slot, rdVar_eq, putS_eq, bind1_nm, bind1_tp, binds_nil, binds_cons, flat_frz, flat_lst, flat_lst0, flat_lst1, flat_dic, cool_frz, d_frz, cool_lst, d_lst, cool_lst0, d_lst0, cool_dic, d_dic, gd_true, gd_false, bls_map, plain_str, plain_int, plain_bl, plain_non, plain_tup, plain_lst, plains_nil, plains_cons, isPy_str, isPy_int, isPy_bl, isPy_non, isPy_tup, isPy_lst, shal_str, shal_int, shal_bl, shal_non, eqv_str, eqv_int, eqv_bl, cmp_eq_str, cmp_ne_str, cmp_eq_int, cmp_ne_int, cmp_lt_int, cmp_le_int, cmp_gt_int, cmp_ge_int, bin_add_int, bin_sub_int, cmp_in_one, items_str, items_tup, items_lst, bif_all, bif_len_tup, bif_len_lst, bif_len_dic, bif_tuple_lst, bif_tuple_tup, bif_list_lst, bif_list_tup, truth_bl, for_nil])
local macro_rules | `(tactic| walk_at "ev*") => `(tactic| simp only [List.getElem?_cons_zero, List.getElem?_cons_succ, List.getElem?_nil, List.set_cons_zero, List.set_cons_succ, List.replicate_succ, List.replicate_zero, List.cons_append, List.nil_append, Option.map_some, Option.map_none, Option.bind_some, if_true, if_false, ite_true, ite_false, Bool.not_true, Bool.not_false, Bool.false_eq_true, Bool.true_and, Bool.and_true, Bool.false_and, Bool.and_false, Bool.true_or, Bool.or_true, Bool.false_or, Bool.or_false, reduceIte, List.length_cons, List.length_nil, Nat.reduceAdd, Nat.reduceSub, Nat.reduceLeDiff, Nat.reduceLT, Int.reduceAdd, Int.reduceSub, Int.reduceNeg, Int.reduceLT, Int.reduceLE, Int.reduceEq, decide_true, decide_false, List.map_cons, List.map_nil, Bool.and_self, Bool.not_not, List.range_one, eq_self, PM.isInst, PM.isIn, PM.evE_call, Option.map_none, bnd_ok, bnd_exc, of_some, nx_ok, evE_lit, evE_var, evE_tup, evE_lst, evE_bin, evE_cmp, evE_chn, evE_and, evE_or, evE_not, evE_ite, evE_sub, evE_slc, evE_rev, evE_bif, evE_isi, evE_met1, evE_fmt, evE_dict, evE_heard, evT_and, evT_or, evT_not, evT_val, evL_nil, evL_cons, evKV_nil, evKV_cons, evA_nil, evA_cons, evCs_nil, evCs_one, evI_val, evI_enum, evI_zip, evI_range, evS_set, evS_asg, evS_setk, evS_expr, evS_ret, evS_retN, evS_if, evS_for, evS_raise, evS_brk, evS_cont, evS_pass, evSs_nil, evSs_cons, range_0, permute_0, permuteR_0, permute_1, permuteR_1, range_2, permute_2, permuteR_2, range_3, permute_3, permuteR_3, range_4, permute_4, permuteR_4, range_5, permute_5, permuteR_5, takeA_nil, takeA_val, takeA_slot, backA_nil, backA_val, backA_slot, backA_no, outs_nil, outs_lent, outs_ov, mkO_nm, mkO_lit, mkO_tup, mkO_lst, mkO_dict, mkO_bin, mkO_cmp, mkO_chn, mkO_and, mkO_or, mkO_not, mkO_ite, mkO_sub, mkO_slc, mkO_rev, mkO_lc, mkO_dc, mkO_fmt, mkO_call, mkO_bif, mkO_isi, mkO_met1, mkO_fst, mkO_heard, mkA_f, mkA_t, rd_val, rd_slot, rdVar_eq, putS_eq, bind1_nm, bind1_tp, binds_nil, binds_cons, flat_frz, flat_lst, flat_lst0, flat_lst1, flat_dic, cool_frz, d_frz, cool_lst, d_lst, cool_lst0, d_lst0, cool_dic, d_dic, gd_true, gd_false, bls_map, plain_str, plain_int, plain_bl, plain_non, plain_tup, plain_lst, plains_nil, plains_cons, isPy_str, isPy_int, isPy_bl, isPy_non, isPy_tup, isPy_lst, shal_str, shal_int, shal_bl, shal_non, eqv_str, eqv_int, eqv_bl, cmp_eq_str, cmp_ne_str, cmp_eq_int, cmp_ne_int, cmp_lt_int, cmp_le_int, cmp_gt_int, cmp_ge_int, bin_add_int, bin_sub_int, cmp_in_one, items_str, items_tup, items_lst, bif_all, bif_len_tup, bif_len_lst, bif_len_dic, bif_tuple_lst, bif_tuple_tup, bif_list_lst, bif_list_tup, truth_bl, for_nil, *])
/-- texts in it are no longer than may be -/
def fits : D → Bool
  | .str x => decide (x.length ≤ sizeLine)
  | .tup ds => decide (ds.length ≤ sizeLine)
  | d => d.isPy
theorem fit_str {x : Str} (h : fits (.str x) = true) : x.length ≤ sizeLine := of_decide_eq_true h
theorem is_whole_ok {d : D} (h : d.isPy = true) : F_is_whole [.ov (.frz d)] = .ok (.frz (.bl (isWhole d))) [none] := by
  unfold F_is_whole
  rw [call1, B_is_whole]
  cases d <;> first | (simp [D.isPy] at h; done) | (walk_at "ev*"; rfl)
theorem is_between_ok {d : D} {lo hi : Int} (h : d.isPy = true) : F_is_between [.ov (.frz d), .ov (.frz (.int lo)), .ov (.frz (.int hi))] = .ok (.frz (.bl (between lo hi d))) [none, none, none] := by
  have e : O_is_between 0 = F_is_whole := rfl
  have w := is_whole_ok h
  unfold F_is_between
  rw [call3, B_is_between]
  walk_at "ev*"
  cases d with
  | int i =>
    simp only [isWhole, between]
    walk_at "ev"
    cases decide (lo ≤ i) <;> rfl
  | _ => rfl
theorem all_sign {orc : Orc} {en : En} {i j : Nat} {x : Str} {s : Sl} {y : Str} (hi : en[i]? = some (.ov (.frz (.str x)))) (hj : en[j]? = some s) (hc : s.cold = true) (hn : x.length ≤ sizeLine) :
    evE orc (.bif .all (.lc (.cmp .in_ (.var j) (.lit (.str y))) (.nm j) (.val (.var i)) .nil [j])) en = .ok (.frz (.bl (x.cps.toList.all fun c => decide (c ∈ y.cps.toList)))) en := by
  have hlt : j < en.length := (List.getElem?_eq_some_iff.mp hj).1
  have := lc_one' (orc := orc) (elt := .cmp .in_ (.var j) (.lit (.str y))) (it := .val (.var i)) (en := en) (ds := x.cps.toList.map oneS) (i := j) (f := fun d => match d with | .str z => .bl (match z.cps.toList with | [c] => decide (c ∈ y.cps.toList) | _ => false) | _ => .non) (by walk_at "ev"; rw [hi]; walk_at "ev") hj hc (fun d hd => by
      obtain ⟨c, _, rfl⟩ := List.mem_map.mp hd
      walk_at "ev"
      rw [List.getElem?_set_self hlt]
      walk_at "ev"
      rfl) (by rw [List.length_map, ← str_len]; exact hn)
  simp only [evE_bif, mkO_lc, this, bnd_ok, rd_val, flat_lst, List.map_map]
  have e : ((fun d => match d with | .str z => D.bl (match z.cps.toList with | [c] => decide (c ∈ y.cps.toList) | _ => false) | _ => .non) ∘ oneS) = fun c => D.bl (decide (c ∈ y.cps.toList)) := by funext c; rfl
  rw [← List.map_map, flat_lst, e]
  walk_at "ev"
theorem are_letters_ok {d : D} {m : Int} (h : d.isPy = true) (hf : fits d = true) : F_are_letters [.ov (.frz d), .ov (.frz (.int m))] = .ok (.frz (.bl (lettersOk m d))) [none, none] := by
  unfold F_are_letters
  rw [call2, B_are_letters]
  cases d with
  | str x =>
    have hx := bif_len_str (fit_str hf)
    have key := all_sign (orc := O_are_letters) (en := [.ov (.frz (.str x)), .ov (.frz (.int m)), .no]) (i := 0) (j := 2) (x := x) (y := "abcdefghijklmnopqrstuvwxyz") rfl rfl rfl (fit_str hf)
    simp only [evE_bif, mkO_lc] at key
    simp only [lettersOk]
    by_cases h1 : x = ""
    · subst h1; walk_at "ev"
    · by_cases h2 : m < (x.length : Int)
      · walk_at "ev*"
      · walk_at "ev*"
        rfl
  | _ => first | (simp [D.isPy] at h; done) | (walk_at "ev*"; rfl)
theorem fits_str {x : Str} (h : x.length ≤ sizeLine) : fits (.str x) = true := decide_eq_true h
theorem is_name_ok {d : D} (h : d.isPy = true) (hf : fits d = true) : F_is_name [.ov (.frz d)] = .ok (.frz (.bl (lettersOk 8 d))) [none] := by
  have e : O_is_name 4 = F_are_letters := rfl
  have w := are_letters_ok (m := 8) h hf
  unfold F_is_name
  rw [call1, B_is_name]
  walk_at "ev*"
theorem value_ok_ok {d : D} (h : d.isPy = true) (hf : fits d = true) : F_value_ok [.ov (.frz d)] = .ok (.frz (.bl (valOk d))) [none] := by
  have e : O_value_ok 1 = F_is_between := rfl
  have e2 : O_value_ok 5 = F_is_name := rfl
  have w := is_between_ok (lo := -9999) (hi := 9999) h
  have w2 := is_name_ok h hf
  unfold F_value_ok
  rw [call1, B_value_ok]
  walk_at "ev*"
  unfold valOk
  cases between (-9999) 9999 d <;> walk_at "ev*"
/-- a tuple's items each tried by a def -/
theorem all_items {orc : Orc} {en : En} {i j k : Nat} {ds : List D} {s : Sl} {p : D → Bool} (hi : en[i]? = some (.ov (.frz (.tup ds)))) (hj : en[j]? = some s) (hc : s.cold = true) (hn : ds.length ≤ sizeLine)
    (ok : ∀ d ∈ ds, orc k [.ov (.frz d)] = .ok (.frz (.bl (p d))) [none]) :
    evE orc (.bif .all (.lc (.call k (.cons (.var j) .nil) [false] (List.range 1)) (.nm j) (.val (.var i)) .nil [j])) en = .ok (.frz (.bl (ds.all p))) en := by
  have hlt : j < en.length := (List.getElem?_eq_some_iff.mp hj).1
  have := lc_one' (orc := orc) (elt := .call k (.cons (.var j) .nil) [false] (List.range 1)) (it := .val (.var i)) (en := en) (ds := ds) (i := j) (f := fun d => .bl (p d)) (by walk_at "ev"; rw [hi]; walk_at "ev") hj hc (fun d hd => by
      walk_at "ev"
      rw [List.getElem?_set_self hlt]
      walk_at "ev"
      rw [ok d hd]
      walk_at "ev") hn
  simp only [evE_bif, mkO_lc, this]
  walk_at "ev"
def fitsAll : D → Prop
  | .tup ds => ds.length ≤ sizeLine ∧ ∀ d ∈ ds, fits d = true
  | _ => True
theorem values_ok_ok {d : D} (h : d.isPy = true) (hf : fitsAll d) : F_values_ok [.ov (.frz d)] = .ok (.frz (.bl (valsOk d))) [none] := by
  unfold F_values_ok
  rw [call1, B_values_ok]
  cases d with
  | tup ds =>
    have hp : ∀ d ∈ ds, d.isPy = true := by
      rw [isPy_tup] at h
      exact List.all_eq_true.mp h
    have key := all_items (orc := O_values_ok) (en := [.ov (.frz (.tup ds)), .no]) (i := 0) (j := 1) (k := 6) (p := valOk) rfl rfl rfl hf.1 (fun d hd => value_ok_ok (hp d hd) (hf.2 d hd))
    simp only [evE_bif, mkO_lc, List.range_one] at key
    walk_at "ev*"
    rfl
  | _ => first | (simp [D.isPy] at h; done) | (walk_at "ev*"; rfl)
def optI : Option Int → D
  | none => .non
  | some i => .int i
def optD : Option D → D
  | none => .non
  | some d => d
theorem at0 {c : Nat} {r : List Nat} {x : Str} (h : cs x = c :: r) (hn : x.length ≤ sizeLine) : (D.str x).at (.int 0) = some (oneS c) := by
  have e : L2.atI x.cps.toList 0 = some c := by
    rw [show x.cps.toList = c :: r from h]
    unfold L2.atI L2.ixN
    rw [if_pos (by decide), if_pos (by rw [List.length_cons]; omega)]
    rfl
  simp only [D.at, gd, if_pos hn, Option.bind_some, e, Option.map_some]
theorem oneS_eq {c : Nat} {y : Str} {d : Nat} (h : cs y = [d]) : (oneS c = .str y) ↔ c = d := by
  unfold oneS
  constructor
  · intro e
    injection e with e
    rw [← e] at h
    exact List.head_eq_of_cons_eq (show [c] = [d] from h)
  · intro e
    rw [e]
    congr 1
    exact str_ext h.symm
theorem cmp_one {c d : Nat} {y : Str} (h : cs y = [d]) : opCmp .eq (oneS c) (.str y) = some (decide (c = d)) := by
  show opCmp .eq (.str ⟨#[c]⟩) (.str y) = _
  rw [cmp_eq_str]
  congr 1
  rw [decide_eq_decide]
  have := oneS_eq (c := c) h
  unfold oneS at this
  simpa using this
theorem int_figs {x : Str} (hf : AllDigits (cs x)) (hne : cs x ≠ []) (hl : x.length ≤ 640) : opBif .int (.str x) = some (.frz (.int (digitsVal (cs x) : Int))) := by
  have := intText_digits (x := x) hf hne (by omega)
  simp only [opBif, gd, if_pos hl, Option.bind_some, this, Option.map_some]
theorem plain_number_ok {x : Str} {lo hi : Int} (hx : x.length ≤ sizeLine) : F_plain_number [.ov (.frz (.str x)), .ov (.frz (.int lo)), .ov (.frz (.int hi))] = .ok (.frz (optI (pnum (cs x) lo hi))) [none, none, none] := by
  have e : O_plain_number 1 = F_is_between := rfl
  have hxl := bif_len_str hx
  have key := all_sign (orc := O_plain_number) (en := [.ov (.frz (.str x)), .ov (.frz (.int lo)), .ov (.frz (.int hi)), .no, .no]) (i := 0) (j := 3) (x := x) (y := "0123456789") rfl rfl rfl hx
  simp only [evE_bif, mkO_lc] at key
  have hfig : ((cs x).all fun c => decide (c ∈ (Str.ofString "0123456789").cps.toList)) = (cs x).all isFig := rfl
  rw [hfig] at key
  unfold F_plain_number
  rw [call3, B_plain_number]
  by_cases h0 : x = ""
  · have h0' := str_nil.mp h0
    have p : pnum (cs x) lo hi = none := by unfold pnum; rw [if_pos (.inl h0')]
    rw [p]
    subst h0
    walk_at "ev*"
    rfl
  have hne : cs x ≠ [] := fun z => h0 (str_nil.mpr z)
  by_cases h1 : (100 : Int) < (x.length : Int)
  · have p : pnum (cs x) lo hi = none := by unfold pnum; rw [if_pos (.inr (.inl (by have hl : x.length = (cs x).length := str_len x; omega)))]
    rw [p]
    walk_at "ev*"
    rfl
  cases h2 : (cs x).all isFig with
  | false =>
    rw [h2] at key
    have p : pnum (cs x) lo hi = none := by unfold pnum; rw [if_pos (.inr (.inr h2))]
    rw [p]
    walk_at "ev*"
    rfl
  | true =>
    rw [h2] at key
    obtain ⟨c, r, ecr⟩ := List.exists_cons_of_ne_nil hne
    have a0 := at0 ecr hx
    have c0 := cmp_one (c := c) (d := 48) (y := "0") (by decide +kernel)
    have iv := int_figs (figs_iff.mp h2) hne (by have hl : x.length = (cs x).length := str_len x; omega)
    have bt := is_between_ok (d := .int (digitsVal (cs x) : Int)) (lo := lo) (hi := hi) (by simp)
    have q1 : ¬ (cs x = [] ∨ 100 < (cs x).length ∨ (cs x).all isFig = false) := by
      rintro (z | z | z)
      · exact hne z
      · have hl : x.length = (cs x).length := str_len x; omega
      · rw [h2] at z; cases z
    have rest : ∀ b : Bool, pnum (cs x) lo hi = (if 1 < (cs x).length ∧ (cs x).head? = some 48 then none else if lo ≤ (digitsVal (cs x) : Int) ∧ (digitsVal (cs x) : Int) ≤ hi then some (digitsVal (cs x) : Int) else none) := fun _ => by unfold pnum; rw [if_neg q1]
    rw [rest true]
    by_cases h3 : (1 : Int) < (x.length : Int)
    · by_cases h4 : c = 48
      · rw [if_pos ⟨by have hl : x.length = (cs x).length := str_len x; omega, by rw [ecr, h4]; rfl⟩]
        subst h4
        walk_at "ev*"
        rfl
      · rw [if_neg (by rintro ⟨_, z⟩; rw [ecr] at z; exact h4 (by simpa using z))]
        by_cases h5 : lo ≤ (digitsVal (cs x) : Int)
        · by_cases h6 : (digitsVal (cs x) : Int) ≤ hi
          · rw [if_pos ⟨h5, h6⟩]; simp only [between] at bt; clear ecr; walk_at "ev*"; rfl
          · rw [if_neg (fun z => h6 z.2)]; simp only [between] at bt; clear ecr; walk_at "ev*"; rfl
        · rw [if_neg (fun z => h5 z.1)]; simp only [between] at bt; clear ecr; walk_at "ev*"; rfl
    · rw [if_neg (by rintro ⟨z, _⟩; have hl : x.length = (cs x).length := str_len x; omega)]
      by_cases h5 : lo ≤ (digitsVal (cs x) : Int)
      · by_cases h6 : (digitsVal (cs x) : Int) ≤ hi
        · rw [if_pos ⟨h5, h6⟩]; simp only [between] at bt; clear ecr; walk_at "ev*"; rfl
        · rw [if_neg (fun z => h6 z.2)]; simp only [between] at bt; clear ecr; walk_at "ev*"; rfl
      · rw [if_neg (fun z => h5 z.1)]; simp only [between] at bt; clear ecr; walk_at "ev*"; rfl
theorem slc_head {x : Str} (hn : x.length ≤ sizeLine) (hne : cs x ≠ []) : (D.str x).slc .non (.int 1) = some (.frz (.str ⟨((cs x).take 1).toArray⟩)) := by
  have hl := str_len x
  have : 1 ≤ x.length := by
    rw [hl]
    cases h : cs x with
    | nil => exact absurd h hne
    | cons c r => simp [show x.cps.toList = c :: r from h]
  simp only [D.slc, D.bnd, gd, if_pos hn, L2.cutS, HT.sIx, Option.some.injEq, OV.frz.injEq, D.str.injEq, Str.mk.injEq]
  rw [if_neg (by decide)]
  simp only [List.drop_zero, Nat.sub_zero]
  rw [show min (Int.toNat 1) x.length = 1 from Nat.min_eq_left this]
theorem slc_tail {x : Str} (hn : x.length ≤ sizeLine) (hne : cs x ≠ []) : (D.str x).slc (.int 1) .non = some (.frz (.str ⟨(cs x).tail.toArray⟩)) := by
  have hl := str_len x
  have : 1 ≤ x.length := by
    rw [hl]
    cases h : cs x with
    | nil => exact absurd h hne
    | cons c r => simp [show x.cps.toList = c :: r from h]
  simp only [D.slc, D.bnd, gd, if_pos hn, L2.cutS, HT.sIx, Option.some.injEq, OV.frz.injEq, D.str.injEq, Str.mk.injEq]
  rw [if_neg (by decide), show min (Int.toNat 1) x.length = 1 from Nat.min_eq_left this, List.drop_one, List.take_of_length_le (by rw [List.length_tail, ← hl]; omega)]
theorem value_from_ok {x : Str} (hx : x.length ≤ sizeLine) (hne : cs x ≠ []) : F_value_from [.ov (.frz (.str x))] = .ok (.frz (optD (vfrom (cs x)))) [none] := by
  have e : O_value_from 3 = F_plain_number := rfl
  have e2 : O_value_from 5 = F_is_name := rfl
  have nm := is_name_ok (d := .str x) (by simp) (fits_str hx)
  have s1 := slc_head hx hne
  have s2 := slc_tail hx hne
  have hN : isNm (cs x) = lettersOk 8 (.str x) := by
    have := isNm_iff (w := cs x)
    rw [show (⟨(cs x).toArray⟩ : Str) = x from str_ext rfl] at this
    cases a : isNm (cs x) <;> cases b : lettersOk 8 (.str x) <;> simp [a, b] at this ⊢
  unfold F_value_from vfrom
  rw [call1, B_value_from, hN]
  cases hb : lettersOk 8 (.str x) with
  | true =>
    rw [hb] at nm
    rw [if_pos rfl, show (⟨(cs x).toArray⟩ : Str) = x from str_ext rfl]
    walk_at "ev*"
    rfl
  | false =>
    rw [hb] at nm
    rw [if_neg (by decide)]
    obtain ⟨c, r, ecr⟩ := List.exists_cons_of_ne_nil hne
    have c0 : opCmp .eq (.str ⟨((cs x).take 1).toArray⟩) (.str "-") = some (decide ((cs x).head? = some 45)) := by
      rw [ecr]
      have := cmp_one (c := c) (d := 45) (y := "-") (by decide +kernel)
      simpa [oneS] using this
    by_cases h45 : (cs x).head? = some 45
    · rw [if_pos h45]
      simp only [h45] at c0
      have ht : (⟨(cs x).tail.toArray⟩ : Str).length ≤ sizeLine := by rw [str_len, List.toList_toArray, List.length_tail, ← str_len x]; omega
      have pn := plain_number_ok (lo := 1) (hi := 9999) ht
      have et : cs (⟨(cs x).tail.toArray⟩ : Str) = (cs x).tail := by simp [cs]
      rw [et] at pn
      generalize (cs x).tail.toArray = tl at *
      generalize (cs x).tail = w at *
      clear ecr
      cases hp : pnum w 1 9999 with
      | none =>
        rw [hp] at pn
        simp only [optI] at pn
        walk_at "ev*"
        rfl
      | some n =>
        rw [hp] at pn
        simp only [optI] at pn
        walk_at "ev*"
        rfl
    · rw [if_neg h45]
      simp only [h45] at c0
      have pn := plain_number_ok (lo := 0) (hi := 9999) hx
      clear ecr
      cases hp : pnum (cs x) 0 9999 with
      | none =>
        rw [hp] at pn
        simp only [optI] at pn
        walk_at "ev*"
        rfl
      | some n =>
        rw [hp] at pn
        simp only [optI] at pn
        walk_at "ev*"
        rfl
end K02

namespace K02
open PySem PM TL NumText
local macro_rules | `(tactic| walk_at "ev") => `(tactic| simp only [List.getElem?_cons_zero, List.getElem?_cons_succ, List.getElem?_nil, List.set_cons_zero, List.set_cons_succ, List.replicate_succ, List.replicate_zero, List.cons_append, List.nil_append, Option.map_some, Option.map_none, Option.bind_some, if_true, if_false, ite_true, ite_false, Bool.not_true, Bool.not_false, Bool.false_eq_true, Bool.true_and, Bool.and_true, Bool.false_and, Bool.and_false, Bool.true_or, Bool.or_true, Bool.false_or, Bool.or_false, reduceIte, List.length_cons, List.length_nil, Nat.reduceAdd, Nat.reduceSub, Nat.reduceLeDiff, Nat.reduceLT, Int.reduceAdd, Int.reduceSub, Int.reduceNeg, Int.reduceLT, Int.reduceLE, Int.reduceEq, decide_true, decide_false, List.map_cons, List.map_nil, Bool.and_self, Bool.not_not, List.range_one, eq_self, PM.isInst, PM.isIn, PM.evE_call, Option.map_none, bnd_ok, bnd_exc, of_some, nx_ok, evE_lit, evE_var, evE_tup, evE_lst, evE_bin, evE_cmp, evE_chn, evE_and, evE_or, evE_not, evE_ite, evE_sub, evE_slc, evE_rev, evE_bif, evE_isi, evE_met1, evE_fmt, evE_dict, evE_heard, evT_and, evT_or, evT_not, evT_val, evL_nil, evL_cons, evKV_nil, evKV_cons, evA_nil, evA_cons, evCs_nil, evCs_one, evI_val, evI_enum, evI_zip, evI_range, evS_set, evS_asg, evS_setk, evS_expr, evS_ret, evS_retN, evS_if, evS_for, evS_raise, evS_brk, evS_cont, evS_pass, evSs_nil, evSs_cons, range_0, permute_0, permuteR_0, permute_1, permuteR_1, range_2, permute_2, permuteR_2, range_3, permute_3, permuteR_3, range_4, permute_4, permuteR_4, range_5, permute_5, permuteR_5, takeA_nil, takeA_val, takeA_slot, backA_nil, backA_val, backA_slot, backA_no, outs_nil, outs_lent, outs_ov, mkO_nm, mkO_lit, mkO_tup, mkO_lst, mkO_dict, mkO_bin, mkO_cmp, mkO_chn, mkO_and, mkO_or, mkO_not, mkO_ite, mkO_sub, mkO_slc, mkO_rev, mkO_lc, mkO_dc, mkO_fmt, mkO_call, mkO_bif, mkO_isi, mkO_met1, mkO_fst, mkO_heard, mkA_f, mkA_t, rd_val, rd_slot, rdVar_eq, putS_eq, bind1_nm, bind1_tp, binds_nil, binds_cons, flat_frz, flat_lst, flat_lst0, flat_lst1, flat_dic, cool_frz, d_frz, cool_lst, d_lst, cool_lst0, d_lst0, cool_dic, d_dic, gd_true, gd_false, bls_map, plain_str, plain_int, plain_bl, plain_non, plain_tup, plain_lst, plains_nil, plains_cons, isPy_str, isPy_int, isPy_bl, isPy_non, isPy_tup, isPy_lst, shal_str, shal_int, shal_bl, shal_non, eqv_str, eqv_int, eqv_bl, cmp_eq_str, cmp_ne_str, cmp_eq_int, cmp_ne_int, cmp_lt_int, cmp_le_int, cmp_gt_int, cmp_ge_int, bin_add_int, bin_sub_int, cmp_in_one, items_str, items_tup, items_lst, bif_all, bif_len_tup, bif_len_lst, bif_len_dic, bif_tuple_lst, bif_tuple_tup, bif_list_lst, bif_list_tup, truth_bl, for_nil])
local macro_rules | `(tactic| walk_at "ev*") => `(tactic| simp only [List.getElem?_cons_zero, List.getElem?_cons_succ, List.getElem?_nil, List.set_cons_zero, List.set_cons_succ, List.replicate_succ, List.replicate_zero, List.cons_append, List.nil_append, Option.map_some, Option.map_none, Option.bind_some, if_true, if_false, ite_true, ite_false, Bool.not_true, Bool.not_false, Bool.false_eq_true, Bool.true_and, Bool.and_true, Bool.false_and, Bool.and_false, Bool.true_or, Bool.or_true, Bool.false_or, Bool.or_false, reduceIte, List.length_cons, List.length_nil, Nat.reduceAdd, Nat.reduceSub, Nat.reduceLeDiff, Nat.reduceLT, Int.reduceAdd, Int.reduceSub, Int.reduceNeg, Int.reduceLT, Int.reduceLE, Int.reduceEq, decide_true, decide_false, List.map_cons, List.map_nil, Bool.and_self, Bool.not_not, List.range_one, eq_self, PM.isInst, PM.isIn, PM.evE_call, Option.map_none, bnd_ok, bnd_exc, of_some, nx_ok, evE_lit, evE_var, evE_tup, evE_lst, evE_bin, evE_cmp, evE_chn, evE_and, evE_or, evE_not, evE_ite, evE_sub, evE_slc, evE_rev, evE_bif, evE_isi, evE_met1, evE_fmt, evE_dict, evE_heard, evT_and, evT_or, evT_not, evT_val, evL_nil, evL_cons, evKV_nil, evKV_cons, evA_nil, evA_cons, evCs_nil, evCs_one, evI_val, evI_enum, evI_zip, evI_range, evS_set, evS_asg, evS_setk, evS_expr, evS_ret, evS_retN, evS_if, evS_for, evS_raise, evS_brk, evS_cont, evS_pass, evSs_nil, evSs_cons, range_0, permute_0, permuteR_0, permute_1, permuteR_1, range_2, permute_2, permuteR_2, range_3, permute_3, permuteR_3, range_4, permute_4, permuteR_4, range_5, permute_5, permuteR_5, takeA_nil, takeA_val, takeA_slot, backA_nil, backA_val, backA_slot, backA_no, outs_nil, outs_lent, outs_ov, mkO_nm, mkO_lit, mkO_tup, mkO_lst, mkO_dict, mkO_bin, mkO_cmp, mkO_chn, mkO_and, mkO_or, mkO_not, mkO_ite, mkO_sub, mkO_slc, mkO_rev, mkO_lc, mkO_dc, mkO_fmt, mkO_call, mkO_bif, mkO_isi, mkO_met1, mkO_fst, mkO_heard, mkA_f, mkA_t, rd_val, rd_slot, rdVar_eq, putS_eq, bind1_nm, bind1_tp, binds_nil, binds_cons, flat_frz, flat_lst, flat_lst0, flat_lst1, flat_dic, cool_frz, d_frz, cool_lst, d_lst, cool_lst0, d_lst0, cool_dic, d_dic, gd_true, gd_false, bls_map, plain_str, plain_int, plain_bl, plain_non, plain_tup, plain_lst, plains_nil, plains_cons, isPy_str, isPy_int, isPy_bl, isPy_non, isPy_tup, isPy_lst, shal_str, shal_int, shal_bl, shal_non, eqv_str, eqv_int, eqv_bl, cmp_eq_str, cmp_ne_str, cmp_eq_int, cmp_ne_int, cmp_lt_int, cmp_le_int, cmp_gt_int, cmp_ge_int, bin_add_int, bin_sub_int, cmp_in_one, items_str, items_tup, items_lst, bif_all, bif_len_tup, bif_len_lst, bif_len_dic, bif_tuple_lst, bif_tuple_tup, bif_list_lst, bif_list_tup, truth_bl, for_nil, *])
theorem value_from_all {x : Str} (hx : x.length ≤ sizeLine) : F_value_from [.ov (.frz (.str x))] = .ok (.frz (PM.optD (vfrom (cs x)))) [none] := by
  by_cases h : cs x = []
  · have e : x = "" := str_nil.mpr h
    subst e
    kernel_rfl
  · exact value_from_ok hx h
theorem lc_tuple {orc : Orc} {en : En} {elt : E} {it : It} {ds : List D} {j : Nat} {s : Sl} {f : D → D} (hi : evI orc it en = .ok ds en) (hj : en[j]? = some s) (hc : s.cold = true)
    (hf : ∀ d ∈ ds, evE orc elt (en.set j (.ov (.frz d))) = .ok (.frz (f d)) (en.set j (.ov (.frz d)))) (hn : ds.length ≤ sizeLine) :
    evE orc (.bif .tuple (.lc elt (.nm j) it .nil [j])) en = .ok (.frz (.tup (ds.map f))) en := by
  have := lc_one' hi hj hc hf hn
  simp only [evE_bif, mkO_lc, this]
  walk_at "ev"
theorem call_1 {orc : Orc} {en : En} {j k : Nat} {d r : D} (hj : en[j]? = some (.ov (.frz d))) (ok : orc k [.ov (.frz d)] = .ok (.frz r) [none]) : evE orc (.call k (.cons (.var j) .nil) [false] (List.range 1)) en = .ok (.frz r) en := by
  walk_at "ev"
  rw [hj]
  walk_at "ev"
  rw [ok]
  walk_at "ev"
theorem split_D {x : Str} (hx : x.length + 2 ≤ sizeLine) : opMet1 .split (.str x) (.str " ") = some (.lst ((words x).map fun w => .frz (.str w))) := by
  simp only [opMet1]
  rw [gd, if_pos ⟨by decide +kernel, hx⟩]
  rfl
theorem opIn_non {ds : List D} (h : D.plains ds = true) : opCmp .notin .non (.tup ds) = some (!ds.any fun d => D.eqv d .non) := by
  simp only [opCmp, opIn, plain_non, h, shal_non, Bool.and_self, gd_true, if_true, Option.map_some]
theorem values_from_ok {x : Str} (hx : x.length + 2 ≤ sizeLine) : F_values_from [.ov (.frz (.str x))] = .ok (.frz (match vsfrom x with | some vs => .tup vs | none => .non)) [none] := by
  have sp := split_D hx
  have wl : (words x).length ≤ sizeLine := Nat.le_trans (PyProof.Rows.split_le x " ") hx
  unfold F_values_from
  rw [call1, B_values_from]
  by_cases h0 : x = "-"
  · subst h0
    walk_at "ev*"
    rfl
  · have lt := lc_tuple (orc := O_values_from) (en := [.ov (.frz (.str x)), .no, .no]) (elt := .call 13 (.cons (.var 2) .nil) [false] (List.range 1)) (it := .val (.met1 .split (.var 0) (.lit (.str " ")))) (j := 2) (ds := (words x).map .str) (f := fun d => match d with | .str w => PM.optD (vfrom (cs w)) | _ => .non)
      (by walk_at "ev"; rw [sp]; walk_at "ev"; rw [show (fun w => OV.frz (D.str w)) = OV.frz ∘ D.str from rfl, ← List.map_map]; walk_at "ev") rfl rfl (fun d hd => by
        obtain ⟨w, hw, rfl⟩ := List.mem_map.mp hd
        refine call_1 (d := .str w) (r := PM.optD (vfrom (cs w))) ?_ ?_
        · walk_at "ev"
        · exact value_from_all (by have := words_short hw; omega)) (by rw [List.length_map]; exact wl)
    rw [List.map_map] at lt
    have em : ((fun d => match d with | .str w => PM.optD (vfrom (cs w)) | _ => D.non) ∘ D.str) = fun w => PM.optD (vfrom (cs w)) := rfl
    rw [em] at lt
    have pl : D.plains ((words x).map fun w => PM.optD (vfrom (cs w))) = true := by
      rw [plains_iff, List.all_map]
      refine List.all_eq_true.mpr fun w hw => ?_
      show (PM.optD (vfrom (cs w))).plain = true
      cases hv : vfrom (cs w) with
      | none => rfl
      | some v => exact (val_plain (vtext_vfrom hv).2).1
    have ni := opIn_non pl
    have any_eq : ((words x).map fun w => PM.optD (vfrom (cs w))).any (fun d => D.eqv d .non) = !((words x).map fun w => vfrom (cs w)).all (·.isSome) := by
      generalize words x = l
      induction l with
      | nil => rfl
      | cons w l ih =>
        simp only [List.map_cons, List.any_cons, List.all_cons, ih]
        cases hv : vfrom (cs w) with
        | none => rfl
        | some v => rw [show PM.optD (some v) = v from rfl, (val_plain (vtext_vfrom hv).2).2.1]; rfl
    rw [any_eq] at ni
    simp only [evE_bif, mkO_lc, List.range_one] at lt
    unfold vsfrom
    rw [if_neg h0]
    cases ha : ((words x).map fun w => vfrom (cs w)).all (·.isSome) with
    | true =>
      rw [ha] at ni
      rw [if_pos rfl]
      have e : ((words x).map fun w => vfrom (cs w)).filterMap id = (words x).map fun w => PM.optD (vfrom (cs w)) := by
        revert ha
        generalize words x = l
        induction l with
        | nil => intro _; rfl
        | cons w l ih =>
          intro ha
          simp only [List.map_cons, List.all_cons, Bool.and_eq_true] at ha
          obtain ⟨v, hv⟩ := Option.isSome_iff_exists.mp ha.1
          simp only [List.map_cons, hv, List.filterMap_cons, id_eq]
          rw [ih ha.2]
          rfl
      rw [e]
      clear any_eq em e ha pl sp
      walk_at "ev*"
    | false =>
      rw [ha] at ni
      rw [if_neg (by decide)]
      clear any_eq em ha pl sp
      walk_at "ev*"
theorem int_str (i : Int) : Str.ofString (toString i : String) = vstr (.int i) := by
  refine str_ext ?_
  show _ = cs (vstr (.int i))
  rw [cs_vstr]
  simp only [vtext]
  by_cases h : i < 0
  · rw [if_pos h, PyProof.Rows.toString_neg h]
    have e : 0 - i = (((-i).toNat : Nat) : Int) := by omega
    rw [e]
    have go : (Str.ofString ("-" ++ toString (((-i).toNat : Nat) : Int))).cps.toList = 45 :: (Str.ofString (toString (((-i).toNat : Nat) : Int))).cps.toList := by
      rw [Str.ofString_eq_toList, Str.ofString_eq_toList, String.toList_append]
      rfl
    rw [go]
    congr 1
    exact tl_num _
  · rw [if_neg h]
    have e : i = ((i.toNat : Nat) : Int) := by omega
    rw [e, Int.toNat_natCast]
    exact tl_num _
theorem log_small {i : Int} (h1 : -9999 ≤ i) (h2 : i ≤ 9999) : i.natAbs.log2 < 1920 := by
  have h : i.natAbs < 2 ^ 1920 := Nat.lt_of_le_of_lt (show i.natAbs ≤ 9999 by omega) (by decide +kernel)
  by_cases h0 : i.natAbs = 0
  · rw [h0]; decide
  · exact (Nat.log2_lt h0).mpr h
theorem text_of_value_ok {v : D} (h : valOk v = true) : F_text_of_value [.ov (.frz v)] = .ok (.frz (.str (vstr v))) [none] := by
  unfold F_text_of_value
  rw [call1, B_text_of_value]
  rcases valOk_cases h with ⟨i, rfl, h1, h2⟩ | ⟨x, rfl, hx⟩
  · have hl := log_small h1 h2
    have hs := int_str i
    walk_at "ev*"
  · have hl : x.length ≤ sizeLine := by
      have := (lettersOk_str.mp hx).2.1
      rw [size24]; omega
    have e : vstr (.str x) = x := str_ext rfl
    walk_at "ev*"
/-- the texts joined -/
theorem strs_map : ∀ vs : List D, D.strs (vs.map fun v => .str (vstr v)) = some (vs.map vstr)
  | [] => rfl
  | v :: vs => by simp only [List.map_cons, D.strs, strs_map vs, Option.map_some]
theorem sum_vstr {vs : List D} (h : ∀ v ∈ vs, valOk v = true) : ((vs.map vstr).map (·.length)).sum ≤ 8 * vs.length := by
  induction vs with
  | nil => exact Nat.le_refl _
  | cons v vs ih =>
    have := (vtext_free (h v (List.mem_cons_self ..))).2.2.1
    have e : (vstr v).length = (vtext v).length := by rw [str_len, show (vstr v).cps.toList = cs (vstr v) from rfl, cs_vstr]
    have ih' := ih fun u hu => h u (List.mem_cons_of_mem _ hu)
    simp only [List.map_cons, List.sum_cons, List.length_cons]
    omega
theorem join_D {vs : List D} (h : ∀ v ∈ vs, valOk v = true) (hn : vs.length ≤ 1000) : opMet1 .join (.str " ") (.lst (vs.map fun v => .str (vstr v))) = some (.frz (.str (Txt.join " " (vs.map vstr)))) := by
  have s := sum_vstr h
  simp only [opMet1, strs_map, Option.bind_some]
  rw [gd, if_pos]
  rw [List.length_map, show (Str.length " ") = 1 from by decide +kernel]
  omega
theorem text_of_values_ok {vs : List D} (h : ∀ v ∈ vs, valOk v = true) (hn : vs.length ≤ 1000) : F_text_of_values [.ov (.frz (.tup vs))] = .ok (.frz (.str (vstext vs))) [none] := by
  unfold F_text_of_values
  rw [call1, B_text_of_values]
  cases vs with
  | nil => walk_at "ev*"; rfl
  | cons v vs =>
    have lt := lc_one' (orc := O_text_of_values) (en := [.ov (.frz (.tup (v :: vs))), .no]) (elt := .call 11 (.cons (.var 1) .nil) [false] (List.range 1)) (it := .val (.var 0)) (i := 1) (ds := v :: vs) (f := fun v => .str (vstr v)) (by walk_at "ev") rfl rfl
      (fun d hd => call_1 (d := d) (r := .str (vstr d)) (by walk_at "ev") (text_of_value_ok (h d hd))) (by rw [size24]; omega)
    have jd := join_D h hn
    have e : vstext (v :: vs) = Txt.join " " ((v :: vs).map vstr) := rfl
    rw [e]
    have pos : (0 : Int) < ((vs.length + 1 : Nat) : Int) := by omega
    have c0 : opCmp .gt (.int ((v :: vs).length : Int)) (.int 0) = some true := by
      rw [cmp_gt_int]
      congr 1
      exact decide_eq_true (by rw [List.length_cons]; omega)
    have b0 : opBif .len (.tup (v :: vs)) = some (.frz (.int ((v :: vs).length : Int))) := rfl
    generalize v :: vs = l at *
    simp only [List.range_one] at lt
    walk_at "ev*"
theorem check_values_ok {d : D} (h : d.isPy = true) (hf : fitsAll d) : F_check_values [.ov (.frz d)] = (if valsOk d then .ok (.frz .non) [none] else .exc 0 d [none]) := by
  have e : O_check_values 7 = F_values_ok := rfl
  have w := values_ok_ok h hf
  unfold F_check_values
  rw [call1, B_check_values]
  cases hv : valsOk d <;> rw [hv] at w <;> walk_at "ev*"
theorem check_text_ok {d : D} (h : d.isPy = true) : F_check_text [.ov (.frz d)] = (match d with | .str _ => .ok (.frz .non) [none] | _ => .exc 1 d [none]) := by
  unfold F_check_text
  rw [call1, B_check_text]
  cases d <;> first | (simp [D.isPy] at h; done) | walk_at "ev*"
theorem is_value_ok {d : D} (h : d.isPy = true) (hf : fits d = true) : F_is_value [.ov (.frz d)] = .ok (.frz (.bl (valOk d))) [none] := by
  have e : O_is_value 6 = F_value_ok := rfl
  have w := value_ok_ok h hf
  unfold F_is_value
  rw [call1, B_is_value]
  walk_at "ev*"
theorem values_text_ok {vs : List D} (h : ∀ v ∈ vs, valOk v = true) (hn : vs.length ≤ 1000) (hp : (D.tup vs).isPy = true) (hf : fitsAll (.tup vs)) : F_values_text [.ov (.frz (.tup vs))] = .ok (.frz (.str (vstext vs))) [none] := by
  have e : O_values_text 12 = F_text_of_values := rfl
  have e2 : O_values_text 15 = F_check_values := rfl
  have c := check_values_ok hp hf
  rw [if_pos (show valsOk (.tup vs) = true from List.all_eq_true.mpr h)] at c
  have t := text_of_values_ok h hn
  unfold F_values_text
  rw [call1, B_values_text]
  walk_at "ev*"
theorem values_text_no {d : D} (h : d.isPy = true) (hf : fitsAll d) (hv : valsOk d = false) : F_values_text [.ov (.frz d)] = .exc 0 d [none] := by
  have e2 : O_values_text 15 = F_check_values := rfl
  have c := check_values_ok h hf
  rw [if_neg (by rw [hv]; decide)] at c
  unfold F_values_text
  rw [call1, B_values_text]
  walk_at "ev*"
theorem read_values_ok {x : Str} (hx : x.length + 2 ≤ sizeLine) : F_read_values [.ov (.frz (.str x))] = (match vsfrom x with | some vs => .ok (.frz (.tup vs)) [none] | none => .exc 1 (.str x) [none]) := by
  have e : O_read_values 14 = F_values_from := rfl
  have e2 : O_read_values 16 = F_check_text := rfl
  have c := check_text_ok (d := .str x) (by simp)
  have t := values_from_ok hx
  have i1 : ∀ ds, opCmp .is (.tup ds) .non = some false := fun ds => rfl
  have i2 : opCmp .is .non .non = some true := rfl
  unfold F_read_values
  rw [call1, B_read_values]
  cases hv : vsfrom x <;> rw [hv] at t <;> simp only at c t <;> walk_at "ev*"
end K02

namespace K02
open PySem PM TL NumText
local macro_rules | `(tactic| walk_at "ev") => `(tactic| simp only [List.getElem?_cons_zero, List.getElem?_cons_succ, List.getElem?_nil, List.set_cons_zero, List.set_cons_succ, List.replicate_succ, List.replicate_zero, List.cons_append, List.nil_append, Option.map_some, Option.map_none, Option.bind_some, if_true, if_false, ite_true, ite_false, Bool.not_true, Bool.not_false, Bool.false_eq_true, Bool.true_and, Bool.and_true, Bool.false_and, Bool.and_false, Bool.true_or, Bool.or_true, Bool.false_or, Bool.or_false, reduceIte, List.length_cons, List.length_nil, Nat.reduceAdd, Nat.reduceSub, Nat.reduceLeDiff, Nat.reduceLT, Int.reduceAdd, Int.reduceSub, Int.reduceNeg, Int.reduceLT, Int.reduceLE, Int.reduceEq, decide_true, decide_false, List.map_cons, List.map_nil, Bool.and_self, Bool.not_not, List.range_one, eq_self, PM.isInst, PM.isIn, PM.evE_call, Option.map_none, bnd_ok, bnd_exc, of_some, nx_ok, evE_lit, evE_var, evE_tup, evE_lst, evE_bin, evE_cmp, evE_chn, evE_and, evE_or, evE_not, evE_ite, evE_sub, evE_slc, evE_rev, evE_bif, evE_isi, evE_met1, evE_fmt, evE_dict, evE_heard, evT_and, evT_or, evT_not, evT_val, evL_nil, evL_cons, evKV_nil, evKV_cons, evA_nil, evA_cons, evCs_nil, evCs_one, evI_val, evI_enum, evI_zip, evI_range, evS_set, evS_asg, evS_setk, evS_expr, evS_ret, evS_retN, evS_if, evS_for, evS_raise, evS_brk, evS_cont, evS_pass, evSs_nil, evSs_cons, range_0, permute_0, permuteR_0, permute_1, permuteR_1, range_2, permute_2, permuteR_2, range_3, permute_3, permuteR_3, range_4, permute_4, permuteR_4, range_5, permute_5, permuteR_5, takeA_nil, takeA_val, takeA_slot, backA_nil, backA_val, backA_slot, backA_no, outs_nil, outs_lent, outs_ov, mkO_nm, mkO_lit, mkO_tup, mkO_lst, mkO_dict, mkO_bin, mkO_cmp, mkO_chn, mkO_and, mkO_or, mkO_not, mkO_ite, mkO_sub, mkO_slc, mkO_rev, mkO_lc, mkO_dc, mkO_fmt, mkO_call, mkO_bif, mkO_isi, mkO_met1, mkO_fst, mkO_heard, mkA_f, mkA_t, rd_val, rd_slot, rdVar_eq, putS_eq, bind1_nm, bind1_tp, binds_nil, binds_cons, flat_frz, flat_lst, flat_lst0, flat_lst1, flat_dic, cool_frz, d_frz, cool_lst, d_lst, cool_lst0, d_lst0, cool_dic, d_dic, gd_true, gd_false, bls_map, plain_str, plain_int, plain_bl, plain_non, plain_tup, plain_lst, plains_nil, plains_cons, isPy_str, isPy_int, isPy_bl, isPy_non, isPy_tup, isPy_lst, shal_str, shal_int, shal_bl, shal_non, eqv_str, eqv_int, eqv_bl, cmp_eq_str, cmp_ne_str, cmp_eq_int, cmp_ne_int, cmp_lt_int, cmp_le_int, cmp_gt_int, cmp_ge_int, bin_add_int, bin_sub_int, cmp_in_one, items_str, items_tup, items_lst, bif_all, bif_len_tup, bif_len_lst, bif_len_dic, bif_tuple_lst, bif_tuple_tup, bif_list_lst, bif_list_tup, truth_bl, for_nil])
local macro_rules | `(tactic| walk_at "ev*") => `(tactic| simp only [List.getElem?_cons_zero, List.getElem?_cons_succ, List.getElem?_nil, List.set_cons_zero, List.set_cons_succ, List.replicate_succ, List.replicate_zero, List.cons_append, List.nil_append, Option.map_some, Option.map_none, Option.bind_some, if_true, if_false, ite_true, ite_false, Bool.not_true, Bool.not_false, Bool.false_eq_true, Bool.true_and, Bool.and_true, Bool.false_and, Bool.and_false, Bool.true_or, Bool.or_true, Bool.false_or, Bool.or_false, reduceIte, List.length_cons, List.length_nil, Nat.reduceAdd, Nat.reduceSub, Nat.reduceLeDiff, Nat.reduceLT, Int.reduceAdd, Int.reduceSub, Int.reduceNeg, Int.reduceLT, Int.reduceLE, Int.reduceEq, decide_true, decide_false, List.map_cons, List.map_nil, Bool.and_self, Bool.not_not, List.range_one, eq_self, PM.isInst, PM.isIn, PM.evE_call, Option.map_none, bnd_ok, bnd_exc, of_some, nx_ok, evE_lit, evE_var, evE_tup, evE_lst, evE_bin, evE_cmp, evE_chn, evE_and, evE_or, evE_not, evE_ite, evE_sub, evE_slc, evE_rev, evE_bif, evE_isi, evE_met1, evE_fmt, evE_dict, evE_heard, evT_and, evT_or, evT_not, evT_val, evL_nil, evL_cons, evKV_nil, evKV_cons, evA_nil, evA_cons, evCs_nil, evCs_one, evI_val, evI_enum, evI_zip, evI_range, evS_set, evS_asg, evS_setk, evS_expr, evS_ret, evS_retN, evS_if, evS_for, evS_raise, evS_brk, evS_cont, evS_pass, evSs_nil, evSs_cons, range_0, permute_0, permuteR_0, permute_1, permuteR_1, range_2, permute_2, permuteR_2, range_3, permute_3, permuteR_3, range_4, permute_4, permuteR_4, range_5, permute_5, permuteR_5, takeA_nil, takeA_val, takeA_slot, backA_nil, backA_val, backA_slot, backA_no, outs_nil, outs_lent, outs_ov, mkO_nm, mkO_lit, mkO_tup, mkO_lst, mkO_dict, mkO_bin, mkO_cmp, mkO_chn, mkO_and, mkO_or, mkO_not, mkO_ite, mkO_sub, mkO_slc, mkO_rev, mkO_lc, mkO_dc, mkO_fmt, mkO_call, mkO_bif, mkO_isi, mkO_met1, mkO_fst, mkO_heard, mkA_f, mkA_t, rd_val, rd_slot, rdVar_eq, putS_eq, bind1_nm, bind1_tp, binds_nil, binds_cons, flat_frz, flat_lst, flat_lst0, flat_lst1, flat_dic, cool_frz, d_frz, cool_lst, d_lst, cool_lst0, d_lst0, cool_dic, d_dic, gd_true, gd_false, bls_map, plain_str, plain_int, plain_bl, plain_non, plain_tup, plain_lst, plains_nil, plains_cons, isPy_str, isPy_int, isPy_bl, isPy_non, isPy_tup, isPy_lst, shal_str, shal_int, shal_bl, shal_non, eqv_str, eqv_int, eqv_bl, cmp_eq_str, cmp_ne_str, cmp_eq_int, cmp_ne_int, cmp_lt_int, cmp_le_int, cmp_gt_int, cmp_ge_int, bin_add_int, bin_sub_int, cmp_in_one, items_str, items_tup, items_lst, bif_all, bif_len_tup, bif_len_lst, bif_len_dic, bif_tuple_lst, bif_tuple_tup, bif_list_lst, bif_list_tup, truth_bl, for_nil, *])
/-! ## the jug -/
def jugOV (a b : Int) : OV := .dic [(.str "far", .frz (.int a)), (.str "screw", .frz (.int b))]
def jugD (a b : Int) : D := .dic [(.str "far", .int a), (.str "screw", .int b)]
structure JugOk (a b : Int) : Prop where
  a0 : 0 ≤ a
  b0 : 0 ≤ b
  b1 : b < 2147483563
theorem flat_jug {a b : Int} : (jugOV a b).flat = some (jugD a b) := rfl
theorem at_far {a b : Int} : (jugD a b).at (.str "far") = some (.int a) := by kernel_rfl
theorem at_screw {a b : Int} : (jugD a b).at (.str "screw") = some (.int b) := by kernel_rfl
theorem set_far {a b x : Int} {r : En} : setK 0 (.str "far") (.int x) (.lent (jugOV a b) :: r) = some (.lent (jugOV x b) :: r) := by kernel_rfl
theorem set_screw {a b x : Int} {r : En} : setK 0 (.str "screw") (.int x) (.lent (jugOV a b) :: r) = some (.lent (jugOV a x) :: r) := by kernel_rfl
theorem log_lt {i : Int} {k : Nat} (h : i.natAbs < 2 ^ k) (hk : 0 < k) : i.natAbs.log2 < k := by
  by_cases h0 : i.natAbs = 0
  · rw [h0]; simpa using hk
  · exact (Nat.log2_lt h0).mpr h
theorem mul_ok {x y : Int} (hx : x.natAbs < 2 ^ 64) (hy : y.natAbs < 2 ^ 64) : opBin .mul (.int x) (.int y) = some (.frz (.int (x * y))) := by
  have h1 := log_lt hx (by decide)
  have h2 := log_lt hy (by decide)
  have h3 : CMulB x y = true := by
    unfold CMulB
    exact decide_eq_true (by omega)
  simp only [opBin, h3, gd_true]
theorem mod_ok {x y : Int} (h : 0 < y) : opBin .mod (.int x) (.int y) = some (.frz (.int (x % y))) := by
  simp only [opBin, h, gd_true]
theorem fdiv_ok {x y : Int} (h : 0 < y) (h2 : y.natAbs < 2 ^ 64) : opBin .fdiv (.int x) (.int y) = some (.frz (.int (x / y))) := by
  have := log_lt h2 (by decide)
  have h3 : y.natAbs.log2 < 9000 := by omega
  simp only [opBin, h, h3, and_self, gd_true]
theorem int_int {x : Int} : opBif .int (.int x) = some (.frz (.int x)) := rfl
theorem pour_ok {a b m : Int} (h : JugOk a b) (hm : 0 < m) (hm2 : m ≤ 1000000) : ∃ k a' b', 0 ≤ k ∧ k < m ∧ JugOk a' b' ∧ F__law_pour [.lent (jugOV a b), .ov (.frz (.int m))] = .ok (.frz (.int k)) [some (jugOV a' b'), none] := by
  have f1 := flat_jug (a := a) (b := b)
  have a1 := at_far (a := a) (b := b)
  have a2 := at_screw (a := a) (b := b)
  by_cases hp : 0 < a
  · refine ⟨a % m, a / m, b, Int.emod_nonneg _ (by omega), Int.emod_lt_of_pos _ hm, ⟨Int.ediv_nonneg h.a0 (by omega), h.b0, h.b1⟩, ?_⟩
    have m1 := mod_ok (x := a) hm
    have m2 := fdiv_ok (x := a) hm (by omega)
    have s1 := fun r => set_far (a := a) (b := b) (x := a / m) (r := r)
    unfold F__law_pour
    rw [call2, B__law_pour]
    clear h
    have i1 := @int_int
    walk_at "ev*"
  · have z : a = 0 := by have := h.a0; omega
    obtain ⟨b', eb'⟩ : ∃ b', b' = (b * 39373 + 101) % 2147483563 := ⟨_, rfl⟩
    have eb0 : 0 ≤ b' := by rw [eb']; exact Int.emod_nonneg _ (by decide)
    have eb1 : b' < 2147483563 := by rw [eb']; exact Int.emod_lt_of_pos _ (by decide)
    have hb := h.b0
    have hb1 := h.b1
    refine ⟨b' / 2048 % m, a, b', Int.emod_nonneg _ (by omega), Int.emod_lt_of_pos _ hm, ⟨h.a0, eb0, eb1⟩, ?_⟩
    have m1 := mul_ok (x := b) (y := 39373) (by omega) (by decide)
    have m2 := mod_ok (x := b * 39373 + 101) (y := 2147483563) (by decide)
    rw [← eb'] at m2
    have m3 := fdiv_ok (x := b') (y := 2048) (by decide) (by decide)
    have m4 := mod_ok (x := b' / 2048) hm
    have s1 := fun r => set_screw (a := a) (b := b) (x := b') (r := r)
    have f2 := flat_jug (a := a) (b := b')
    have a3 := at_screw (a := a) (b := b')
    have np : decide ((0 : Int) < a) = false := decide_eq_false hp
    clear h hb hb1 hp z eb' eb0 eb1
    unfold F__law_pour
    rw [call2, B__law_pour]
    have i1 := @int_int
    walk_at "ev*"
theorem some_ok {a b : Int} {ds : List D} (h : JugOk a b) (hn : ds ≠ []) (hl : ds.length ≤ 1000) : ∃ d a' b', d ∈ ds ∧ JugOk a' b' ∧ F__law_some [.lent (jugOV a b), .ov (.frz (.tup ds))] = .ok (.frz d) [some (jugOV a' b'), none] := by
  have pos : 0 < ds.length := List.length_pos_iff.mpr hn
  obtain ⟨k, a', b', h1, h2, h3, h4⟩ := pour_ok (m := (ds.length : Int)) h (by omega) (by omega)
  have hk : k.toNat < ds.length := by omega
  refine ⟨ds[k.toNat], a', b', List.getElem_mem hk, h3, ?_⟩
  have e : O__law_some 22 = F__law_pour := rfl
  have at_ : (D.tup ds).at (.int k) = some ds[k.toNat] := by
    show L2.atI ds k = _
    unfold L2.atI L2.ixN
    rw [if_pos h1, if_pos h2]
    exact List.getElem?_eq_getElem hk
  clear h h1 h2 h3 pos hn hl
  unfold F__law_some
  rw [call2, B__law_some]
  walk_at "ev*"
def menu : List D := [.int 0, .int 7, .int (-7), .int 9999, .int (-9999), .int 10, .str "a", .str "rome", .str "zzzzzzzz", .str "aa", .str "ab", .str "b", .int (-1), .int 123]
theorem menu_ok : ∀ d ∈ menu, valOk d = true := by
  have h : menu.all valOk = true := by kernel_rfl
  exact List.all_eq_true.mp h
theorem drawn_ok {a b : Int} (h : JugOk a b) : ∃ d a' b', valOk d = true ∧ JugOk a' b' ∧ F__law_drawn [.lent (jugOV a b)] = .ok (.frz d) [some (jugOV a' b')] := by
  obtain ⟨d, a', b', h1, h2, h3⟩ := some_ok (ds := menu) h (by simp [menu]) (by simp [menu])
  refine ⟨d, a', b', menu_ok d h1, h2, ?_⟩
  have e : O__law_drawn 23 = F__law_some := rfl
  have h14 : (14 : Nat) ≤ sizeLine := by decide
  clear h h1 h2
  unfold menu at h3
  unfold F__law_drawn
  rw [call1, B__law_drawn]
  walk_at "ev*"
end K02

namespace K02
open PySem PM TL NumText
local macro_rules | `(tactic| walk_at "ev") => `(tactic| simp only [List.getElem?_cons_zero, List.getElem?_cons_succ, List.getElem?_nil, List.set_cons_zero, List.set_cons_succ, List.replicate_succ, List.replicate_zero, List.cons_append, List.nil_append, Option.map_some, Option.map_none, Option.bind_some, if_true, if_false, ite_true, ite_false, Bool.not_true, Bool.not_false, Bool.false_eq_true, Bool.true_and, Bool.and_true, Bool.false_and, Bool.and_false, Bool.true_or, Bool.or_true, Bool.false_or, Bool.or_false, reduceIte, List.length_cons, List.length_nil, Nat.reduceAdd, Nat.reduceSub, Nat.reduceLeDiff, Nat.reduceLT, Int.reduceAdd, Int.reduceSub, Int.reduceNeg, Int.reduceLT, Int.reduceLE, Int.reduceEq, decide_true, decide_false, List.map_cons, List.map_nil, Bool.and_self, Bool.not_not, List.range_one, eq_self, PM.isInst, PM.isIn, PM.evE_call, Option.map_none, bnd_ok, bnd_exc, of_some, nx_ok, evE_lit, evE_var, evE_tup, evE_lst, evE_bin, evE_cmp, evE_chn, evE_and, evE_or, evE_not, evE_ite, evE_sub, evE_slc, evE_rev, evE_bif, evE_isi, evE_met1, evE_fmt, evE_dict, evE_heard, evT_and, evT_or, evT_not, evT_val, evL_nil, evL_cons, evKV_nil, evKV_cons, evA_nil, evA_cons, evCs_nil, evCs_one, evI_val, evI_enum, evI_zip, evI_range, evS_set, evS_asg, evS_setk, evS_expr, evS_ret, evS_retN, evS_if, evS_for, evS_raise, evS_brk, evS_cont, evS_pass, evSs_nil, evSs_cons, range_0, permute_0, permuteR_0, permute_1, permuteR_1, range_2, permute_2, permuteR_2, range_3, permute_3, permuteR_3, range_4, permute_4, permuteR_4, range_5, permute_5, permuteR_5, takeA_nil, takeA_val, takeA_slot, backA_nil, backA_val, backA_slot, backA_no, outs_nil, outs_lent, outs_ov, mkO_nm, mkO_lit, mkO_tup, mkO_lst, mkO_dict, mkO_bin, mkO_cmp, mkO_chn, mkO_and, mkO_or, mkO_not, mkO_ite, mkO_sub, mkO_slc, mkO_rev, mkO_lc, mkO_dc, mkO_fmt, mkO_call, mkO_bif, mkO_isi, mkO_met1, mkO_fst, mkO_heard, mkA_f, mkA_t, rd_val, rd_slot, rdVar_eq, putS_eq, bind1_nm, bind1_tp, binds_nil, binds_cons, flat_frz, flat_lst, flat_lst0, flat_lst1, flat_dic, cool_frz, d_frz, cool_lst, d_lst, cool_lst0, d_lst0, cool_dic, d_dic, gd_true, gd_false, bls_map, plain_str, plain_int, plain_bl, plain_non, plain_tup, plain_lst, plains_nil, plains_cons, isPy_str, isPy_int, isPy_bl, isPy_non, isPy_tup, isPy_lst, shal_str, shal_int, shal_bl, shal_non, eqv_str, eqv_int, eqv_bl, cmp_eq_str, cmp_ne_str, cmp_eq_int, cmp_ne_int, cmp_lt_int, cmp_le_int, cmp_gt_int, cmp_ge_int, bin_add_int, bin_sub_int, cmp_in_one, items_str, items_tup, items_lst, bif_all, bif_len_tup, bif_len_lst, bif_len_dic, bif_tuple_lst, bif_tuple_tup, bif_list_lst, bif_list_tup, truth_bl, for_nil])
local macro_rules | `(tactic| walk_at "ev*") => `(tactic| simp only [List.getElem?_cons_zero, List.getElem?_cons_succ, List.getElem?_nil, List.set_cons_zero, List.set_cons_succ, List.replicate_succ, List.replicate_zero, List.cons_append, List.nil_append, Option.map_some, Option.map_none, Option.bind_some, if_true, if_false, ite_true, ite_false, Bool.not_true, Bool.not_false, Bool.false_eq_true, Bool.true_and, Bool.and_true, Bool.false_and, Bool.and_false, Bool.true_or, Bool.or_true, Bool.false_or, Bool.or_false, reduceIte, List.length_cons, List.length_nil, Nat.reduceAdd, Nat.reduceSub, Nat.reduceLeDiff, Nat.reduceLT, Int.reduceAdd, Int.reduceSub, Int.reduceNeg, Int.reduceLT, Int.reduceLE, Int.reduceEq, decide_true, decide_false, List.map_cons, List.map_nil, Bool.and_self, Bool.not_not, List.range_one, eq_self, PM.isInst, PM.isIn, PM.evE_call, Option.map_none, bnd_ok, bnd_exc, of_some, nx_ok, evE_lit, evE_var, evE_tup, evE_lst, evE_bin, evE_cmp, evE_chn, evE_and, evE_or, evE_not, evE_ite, evE_sub, evE_slc, evE_rev, evE_bif, evE_isi, evE_met1, evE_fmt, evE_dict, evE_heard, evT_and, evT_or, evT_not, evT_val, evL_nil, evL_cons, evKV_nil, evKV_cons, evA_nil, evA_cons, evCs_nil, evCs_one, evI_val, evI_enum, evI_zip, evI_range, evS_set, evS_asg, evS_setk, evS_expr, evS_ret, evS_retN, evS_if, evS_for, evS_raise, evS_brk, evS_cont, evS_pass, evSs_nil, evSs_cons, range_0, permute_0, permuteR_0, permute_1, permuteR_1, range_2, permute_2, permuteR_2, range_3, permute_3, permuteR_3, range_4, permute_4, permuteR_4, range_5, permute_5, permuteR_5, takeA_nil, takeA_val, takeA_slot, backA_nil, backA_val, backA_slot, backA_no, outs_nil, outs_lent, outs_ov, mkO_nm, mkO_lit, mkO_tup, mkO_lst, mkO_dict, mkO_bin, mkO_cmp, mkO_chn, mkO_and, mkO_or, mkO_not, mkO_ite, mkO_sub, mkO_slc, mkO_rev, mkO_lc, mkO_dc, mkO_fmt, mkO_call, mkO_bif, mkO_isi, mkO_met1, mkO_fst, mkO_heard, mkA_f, mkA_t, rd_val, rd_slot, rdVar_eq, putS_eq, bind1_nm, bind1_tp, binds_nil, binds_cons, flat_frz, flat_lst, flat_lst0, flat_lst1, flat_dic, cool_frz, d_frz, cool_lst, d_lst, cool_lst0, d_lst0, cool_dic, d_dic, gd_true, gd_false, bls_map, plain_str, plain_int, plain_bl, plain_non, plain_tup, plain_lst, plains_nil, plains_cons, isPy_str, isPy_int, isPy_bl, isPy_non, isPy_tup, isPy_lst, shal_str, shal_int, shal_bl, shal_non, eqv_str, eqv_int, eqv_bl, cmp_eq_str, cmp_ne_str, cmp_eq_int, cmp_ne_int, cmp_lt_int, cmp_le_int, cmp_gt_int, cmp_ge_int, bin_add_int, bin_sub_int, cmp_in_one, items_str, items_tup, items_lst, bif_all, bif_len_tup, bif_len_lst, bif_len_dic, bif_tuple_lst, bif_tuple_tup, bif_list_lst, bif_list_tup, truth_bl, for_nil, *])
theorem equal_ok {d : D} (h : d.shows = true) : F__law_equal [.ov (.frz d), .ov (.frz d)] = .ok (.frz (.bl true)) [none, none] := by
  have r := repr_of h
  have c := cmp_eq_self h
  clear h
  unfold F__law_equal
  rw [call2, B__law_equal]
  walk_at "ev*"
theorem eqv_tup_nil {vs : List D} : D.eqv (.tup vs) (.tup []) = vs.isEmpty := by
  cases vs <;> simp [D.eqv, D.py, D.pys, PyData.eqv, PyData.eqvAll]
theorem shal_tup_nil : (D.tup []).shal = true := by simp [D.shal, D.depth, D.py, D.pys, PyData.depth, PyData.depthAll]
theorem vals_plain {vs : List D} (h : ∀ v ∈ vs, valOk v = true) : D.plains vs = true := by
  rw [plains_iff]
  exact List.all_eq_true.mpr fun v hv => (val_plain (h v hv)).1
theorem ne_nil_D {vs : List D} (h : D.plains vs = true) : opCmp .ne (.tup vs) (.tup []) = some (!vs.isEmpty) := by
  simp only [opCmp, eqOk, plain_tup, h, plains_nil, shal_tup_nil, eqv_tup_nil, Bool.or_true, Bool.and_self, gd_true]
theorem str_val {v : D} (h : valOk v = true) : opBif .str v = some (.frz (.str (vstr v))) := by
  rcases valOk_cases h with ⟨i, rfl, h1, h2⟩ | ⟨x, rfl, hx⟩
  · have hl := log_small h1 h2
    simp only [opBif, hl, gd_true, int_str]
  · have e : vstr (.str x) = x := str_ext rfl
    rw [e]; rfl
theorem words_ok {vs : List D} (h : ∀ v ∈ vs, valOk v = true) (hn : vs.length ≤ 1000) : F__law_words [.ov (.frz (.tup vs))] = .ok (.frz (.str (vstext vs))) [none] := by
  have ne := ne_nil_D (vals_plain h)
  unfold F__law_words
  rw [call1, B__law_words]
  cases vs with
  | nil => walk_at "ev*"; rfl
  | cons v vs =>
    have lt := lc_one' (orc := O__law_words) (en := [.ov (.frz (.tup (v :: vs))), .no]) (elt := .bif .str (.var 1)) (it := .val (.var 0)) (i := 1) (ds := v :: vs) (f := fun v => .str (vstr v)) (by walk_at "ev") rfl rfl
      (fun d hd => by
        have := str_val (h d hd)
        walk_at "ev*") (by rw [size24]; omega)
    have jd := join_D h hn
    have e : vstext (v :: vs) = Txt.join " " ((v :: vs).map vstr) := rfl
    rw [e]
    simp only [List.isEmpty_cons, Bool.not_false] at ne
    have z0 : (0 : Nat) ≤ sizeLine := by decide
    generalize v :: vs = l at *
    walk_at "ev*"
theorem law_is_value_ok {d : D} (h : d.isPy = true) (hf : fits d = true) : F__law_is_value [.ov (.frz d)] = .ok (.frz (.bl (valOk d))) [none] := by
  unfold F__law_is_value
  rw [call1, B__law_is_value]
  cases d with
  | str x =>
    have hx := fit_str hf
    have hl := bif_len_str hx
    have key := all_sign (orc := O__law_is_value) (en := [.ov (.frz (.str x)), .no]) (i := 0) (j := 1) (x := x) (y := "abcdefghijklmnopqrstuvwxyz") rfl rfl rfl hx
    have e1 : ((cs x).all fun c => decide (c ∈ (Str.ofString "abcdefghijklmnopqrstuvwxyz").cps.toList)) = (cs x).all isLow := rfl
    rw [e1] at key
    simp only [evE_bif, mkO_lc] at key
    have hlen : x.length = (cs x).length := str_len x
    have e2 : valOk (.str x) = (decide ((0 : Int) < (x.length : Int)) && (decide ((x.length : Int) < 9) && (cs x).all isLow)) := by
      simp only [valOk, between, lettersOk, Bool.false_or]
      by_cases h0 : x = ""
      · have := str_nil.mp h0
        have e : (cs x).length = 0 := by rw [show cs x = [] from this]; rfl
        rw [decide_eq_true h0, decide_eq_false (show ¬ (8 : Int) < (x.length : Int) by omega), decide_eq_false (show ¬ (0 : Int) < (x.length : Int) by omega)]; rfl
      · have : cs x ≠ [] := fun z => h0 (str_nil.mpr z)
        have e : 0 < (cs x).length := List.length_pos_iff.mpr this
        rw [decide_eq_false h0, decide_eq_true (show (0 : Int) < (x.length : Int) by omega)]
        by_cases h9 : (x.length : Int) < 9
        · rw [decide_eq_true h9, decide_eq_false (by omega)]; rfl
        · rw [decide_eq_false h9, decide_eq_true (by omega)]; rfl
    rw [e2]
    clear e1 e2 hlen
    by_cases a : (0 : Int) < (x.length : Int)
    · by_cases b : (x.length : Int) < 9
      · walk_at "ev*"
      · walk_at "ev*"
    · walk_at "ev*"
  | int i =>
    have e2 : valOk (.int i) = (decide (-10000 < i) && decide (i < 10000)) := by
      simp only [valOk, between, lettersOk, Bool.or_false]
      rw [show decide (-9999 ≤ i) = decide (-10000 < i) from decide_eq_decide.mpr (by omega), show decide (i ≤ 9999) = decide (i < 10000) from decide_eq_decide.mpr (by omega)]
    rw [e2]
    by_cases a : -10000 < i
    · walk_at "ev*"
    · walk_at "ev*"
  | _ => first | (simp [D.isPy] at h; done) | (walk_at "ev*"; rfl)
theorem slc_head' {x : Str} (hn : x.length ≤ sizeLine) : (D.str x).slc .non (.int 1) = some (.frz (.str ⟨((cs x).take 1).toArray⟩)) := by
  by_cases h : cs x = []
  · have e : x = "" := str_nil.mpr h
    subst e
    kernel_rfl
  · exact slc_head hn h
theorem slc_tail' {x : Str} (hn : x.length ≤ sizeLine) : (D.str x).slc (.int 1) .non = some (.frz (.str ⟨(cs x).tail.toArray⟩)) := by
  by_cases h : cs x = []
  · have e : x = "" := str_nil.mpr h
    subst e
    kernel_rfl
  · exact slc_tail hn h
theorem dash {w : List Nat} : opCmp .eq (.str ⟨(w.take 1).toArray⟩) (.str "-") = some (decide (w.head? = some 45)) := by
  cases w with
  | nil => kernel_rfl
  | cons c r =>
    have := cmp_one (c := c) (d := 45) (y := "-") (by decide +kernel)
    simpa [oneS] using this
theorem fig_str (x : Str) : (if (cs x).head? = some 45 then (⟨(cs x).tail.toArray⟩ : Str) else x) = ⟨(lfig (cs x)).toArray⟩ := by
  unfold lfig
  split
  · rfl
  · exact str_ext rfl
theorem int_of {x : Str} (h : lnum (cs x) = true) (hl : x.length ≤ 640) : opBif .int (.str x) = some (.frz (.int (lint (cs x)))) := by
  simp only [lnum, Bool.and_eq_true, Bool.not_eq_true', decide_eq_false_iff_not] at h
  obtain ⟨h1, h2, h3⟩ := h
  have h3 := figs_iff.mp h3
  unfold lint lfig at *
  by_cases h45 : (cs x).head? = some 45
  · rw [if_pos h45] at h1 h3 ⊢
    have e : x.cps.toList = 45 :: (cs x).tail := by
      cases q : cs x with
      | nil => rw [q] at h45; cases h45
      | cons c r => rw [q] at h45; simp only [List.head?_cons, Option.some.injEq] at h45; rw [show x.cps.toList = cs x from rfl, q, h45]; rfl
    have := intText_neg e h3 h1 (by omega)
    simp only [opBif, gd, if_pos hl, Option.bind_some, this, Option.map_some]
  · rw [if_neg h45] at h1 h3 ⊢
    exact int_figs h3 h1 hl
theorem add_tup {a b : List D} (h : a.length + b.length ≤ sizeLine) : opBin .add (.tup a) (.tup b) = some (.frz (.tup (a ++ b))) := by
  simp only [opBin, h, gd_true]
/-- one turn of the law's reading -/
def readBody : Ss := (.cons (.set 3 (.ite (.val (.cmp .eq (.slc (.var 2) (.lit .non) (.lit (.int 1))) (.lit (.str "-")))) (.slc (.var 2) (.lit (.int 1)) (.lit .non)) (.var 2))) (.cons (.set 4 (.and (.cmp .ne (.var 3) (.lit (.str ""))) (.and (.cmp .lt (.bif .len (.var 3)) (.lit (.int 5))) (.bif .all (.lc (.cmp .in_ (.var 5) (.lit (.str "0123456789"))) (.nm 5) (.val (.var 3)) .nil [5]))))) (.cons (.set 1 (.bin .add (.var 1) (.tup (.cons (.ite (.val (.var 4)) (.bif .int (.var 2)) (.var 2)) .nil)))) .nil)))
theorem put_any {i : Nat} {o : OV} {en : En} {s : Sl} (h : en[i]? = some s) (hs : s = .no ∨ ∃ d, s = .ov d) : putS i o en = some (en.set i (.ov o)) := by
  rw [putS_eq, h]
  rcases hs with rfl | ⟨d, rfl⟩ <;> rfl
theorem read_turn {x w : Str} {acc : List D} {a b : Sl} (hw : w.length ≤ 600) (ha : a = .no ∨ ∃ d, a = .ov d) (hb : b = .no ∨ ∃ d, b = .ov d) (hacc : acc.length + 1 ≤ sizeLine) :
    ∃ a' b', (∃ d, a' = .ov d) ∧ (∃ d, b' = .ov d) ∧ evSs O__law_read readBody [.ov (.frz (.str x)), .ov (.frz (.tup acc)), .ov (.frz (.str w)), a, b, .no, .no] =
      .ok .nx [.ov (.frz (.str x)), .ov (.frz (.tup (acc ++ [lawc (cs w)]))), .ov (.frz (.str w)), a', b', .no, .no] := by
  have hwl : w.length ≤ sizeLine := by rw [size24]; omega
  have s1 := slc_head' hwl
  have s2 := slc_tail' hwl
  have c0 := dash (w := cs w)
  have fs := fig_str w
  have pa : ∀ (o : OV) (p q r : Sl), putS 3 o [.ov (.frz (.str x)), .ov (.frz (.tup acc)), .ov (.frz (.str w)), a, b, .no, .no] = some [.ov (.frz (.str x)), .ov (.frz (.tup acc)), .ov (.frz (.str w)), .ov o, b, .no, .no] := fun o p q r => put_any rfl ha
  have pb : ∀ (o o' : OV), putS 4 o [.ov (.frz (.str x)), .ov (.frz (.tup acc)), .ov (.frz (.str w)), .ov o', b, .no, .no] = some [.ov (.frz (.str x)), .ov (.frz (.tup acc)), .ov (.frz (.str w)), .ov o', .ov o, .no, .no] := fun o o' => put_any rfl hb
  have fl : ((⟨(lfig (cs w)).toArray⟩ : Str)).length ≤ sizeLine := by
    rw [str_len, List.toList_toArray]
    unfold lfig
    have : w.length = (cs w).length := str_len w
    split
    · rw [List.length_tail]; omega
    · show (cs w).length ≤ _; omega
  -- the figures
  have st3 : evS O__law_read (.set 3 (.ite (.val (.cmp .eq (.slc (.var 2) (.lit .non) (.lit (.int 1))) (.lit (.str "-")))) (.slc (.var 2) (.lit (.int 1)) (.lit .non)) (.var 2))) [.ov (.frz (.str x)), .ov (.frz (.tup acc)), .ov (.frz (.str w)), a, b, .no, .no] =
      .ok .nx [.ov (.frz (.str x)), .ov (.frz (.tup acc)), .ov (.frz (.str w)), .ov (.frz (.str ⟨(lfig (cs w)).toArray⟩)), b, .no, .no] := by
    rw [← fs]
    rw [evS_set]
    have ex : evE O__law_read (.ite (.val (.cmp .eq (.slc (.var 2) (.lit .non) (.lit (.int 1))) (.lit (.str "-")))) (.slc (.var 2) (.lit (.int 1)) (.lit .non)) (.var 2)) [.ov (.frz (.str x)), .ov (.frz (.tup acc)), .ov (.frz (.str w)), a, b, .no, .no] =
      .ok (.frz (.str (if (cs w).head? = some 45 then (⟨(cs w).tail.toArray⟩ : Str) else w))) [.ov (.frz (.str x)), .ov (.frz (.tup acc)), .ov (.frz (.str w)), a, b, .no, .no] := by
      clear fs pa pb
      by_cases h45 : (cs w).head? = some 45
      · simp only [h45] at c0; walk_at "ev*"
      · simp only [h45] at c0; walk_at "ev*"
    rw [ex, bnd_ok, pa _ a b .no]
  have key := all_sign (orc := O__law_read) (en := [.ov (.frz (.str x)), .ov (.frz (.tup acc)), .ov (.frz (.str w)), .ov (.frz (.str ⟨(lfig (cs w)).toArray⟩)), b, .no, .no]) (i := 3) (j := 5) (x := ⟨(lfig (cs w)).toArray⟩) (y := "0123456789") rfl rfl rfl fl
  have e1 : ((cs (⟨(lfig (cs w)).toArray⟩ : Str)).all fun c => decide (c ∈ (Str.ofString "0123456789").cps.toList)) = (lfig (cs w)).all isFig := rfl
  rw [e1] at key
  have st4 : evS O__law_read (.set 4 (.and (.cmp .ne (.var 3) (.lit (.str ""))) (.and (.cmp .lt (.bif .len (.var 3)) (.lit (.int 5))) (.bif .all (.lc (.cmp .in_ (.var 5) (.lit (.str "0123456789"))) (.nm 5) (.val (.var 3)) .nil [5]))))) [.ov (.frz (.str x)), .ov (.frz (.tup acc)), .ov (.frz (.str w)), .ov (.frz (.str ⟨(lfig (cs w)).toArray⟩)), b, .no, .no] =
      .ok .nx [.ov (.frz (.str x)), .ov (.frz (.tup acc)), .ov (.frz (.str w)), .ov (.frz (.str ⟨(lfig (cs w)).toArray⟩)), .ov (.frz (.bl (lnum (cs w)))), .no, .no] := by
    rw [evS_set]
    have ex : evE O__law_read (.and (.cmp .ne (.var 3) (.lit (.str ""))) (.and (.cmp .lt (.bif .len (.var 3)) (.lit (.int 5))) (.bif .all (.lc (.cmp .in_ (.var 5) (.lit (.str "0123456789"))) (.nm 5) (.val (.var 3)) .nil [5])))) [.ov (.frz (.str x)), .ov (.frz (.tup acc)), .ov (.frz (.str w)), .ov (.frz (.str ⟨(lfig (cs w)).toArray⟩)), b, .no, .no] =
      .ok (.frz (.bl (lnum (cs w)))) [.ov (.frz (.str x)), .ov (.frz (.tup acc)), .ov (.frz (.str w)), .ov (.frz (.str ⟨(lfig (cs w)).toArray⟩)), b, .no, .no] := by
      have hl := bif_len_str fl
      have el : ((⟨(lfig (cs w)).toArray⟩ : Str)).length = (lfig (cs w)).length := by rw [str_len]
      rw [el] at hl
      have ee : ((⟨(lfig (cs w)).toArray⟩ : Str) = "") ↔ lfig (cs w) = [] := by rw [str_nil]
      clear fs pa pb st3 s1 s2 c0 el e1
      unfold lnum
      generalize lfig (cs w) = l at *
      simp only [evE_bif, mkO_lc] at key
      have d1 : decide ((⟨l.toArray⟩ : Str) = "") = decide (l = []) := decide_eq_decide.mpr ee
      have d2 : decide (((l.length : Nat) : Int) < 5) = decide (l.length < 5) := decide_eq_decide.mpr (by omega)
      clear ee
      cases q1 : decide (l = []) <;> cases q2 : decide (l.length < 5) <;> walk_at "ev*"
    rw [ex, bnd_ok, pb _ _]
  refine ⟨.ov (.frz (.str ⟨(lfig (cs w)).toArray⟩)), .ov (.frz (.bl (lnum (cs w)))), ⟨_, rfl⟩, ⟨_, rfl⟩, ?_⟩
  unfold readBody
  rw [evSs_cons, st3, bnd_ok]
  simp only
  rw [evSs_cons, st4, bnd_ok]
  simp only
  have ad : ∀ d, opBin .add (.tup acc) (.tup [d]) = some (.frz (.tup (acc ++ [d]))) := fun d => add_tup (by simpa using hacc)
  have one : 1 ≤ sizeLine := by decide
  clear st3 st4 key fs pa pb e1 s1 s2 c0 fl
  unfold lawc
  cases hn : lnum (cs w) with
  | true =>
    have iv := int_of hn (by omega)
    walk_at "ev*"
  | false =>
    have e : (⟨(cs w).toArray⟩ : Str) = w := str_ext rfl
    walk_at "ev*"
def anyS (s : Sl) : Prop := s = .no ∨ ∃ d, s = .ov d
theorem read_loop {x : Str} : ∀ (ws : List Str) (acc : List D) (c a b : Sl), anyS c → anyS a → anyS b → (∀ w ∈ ws, w.length ≤ 600) → acc.length + ws.length ≤ sizeLine → ∃ c' a' b', anyS c' ∧ anyS a' ∧ anyS b' ∧
    forGo (bind1 (.nm 2)) (evSs O__law_read readBody) (ws.map .str) [.ov (.frz (.str x)), .ov (.frz (.tup acc)), c, a, b, .no, .no] = .ok .nx [.ov (.frz (.str x)), .ov (.frz (.tup (acc ++ ws.map fun w => lawc (cs w)))), c', a', b', .no, .no]
  | [], acc, c, a, b, hc, ha, hb, _, _ => ⟨c, a, b, hc, ha, hb, by simp only [List.map_nil, List.append_nil, for_nil]⟩
  | w :: ws, acc, c, a, b, hc, ha, hb, hw, hn => by
    rw [List.length_cons] at hn
    obtain ⟨a1, b1, h1, h2, h3⟩ := read_turn (x := x) (w := w) (acc := acc) (hw w (List.mem_cons_self ..)) ha hb (by omega)
    obtain ⟨c', a', b', r1, r2, r3, r4⟩ := read_loop ws (acc ++ [lawc (cs w)]) (.ov (.frz (.str w))) a1 b1 (.inr ⟨_, rfl⟩) (.inr h1) (.inr h2) (fun z hz => hw z (List.mem_cons_of_mem _ hz)) (by rw [List.length_append, List.length_singleton]; omega)
    refine ⟨c', a', b', r1, r2, r3, ?_⟩
    rw [List.map_cons, for_nx (en1 := [.ov (.frz (.str x)), .ov (.frz (.tup acc)), .ov (.frz (.str w)), a, b, .no, .no]) (by rw [bind1_nm]; exact put_any rfl hc) h3, r4, List.map_cons, List.append_assoc]
    rfl
theorem lawc_py (w : List Nat) : (lawc w).isPy = true ∧ (lawc w).plain = true := by
  unfold lawc
  split <;> simp
theorem law_read_ok {x : Str} (hx : x.length ≤ 600) : F__law_read [.ov (.frz (.str x))] = .ok (.frz (match vsfrom x with | some vs => .tup vs | none => .non)) [none] := by
  rw [← lread_eq]
  have sp := split_D (x := x) (by rw [size24]; omega)
  have wl : (words x).length ≤ 700 := Nat.le_trans (PyProof.Rows.split_le x " ") (by omega)
  have e25 : O__law_read 25 = F__law_words := rfl
  unfold F__law_read lread
  rw [call1, B__law_read]
  by_cases h0 : x = "-"
  · subst h0
    rw [if_pos rfl]
    walk_at "ev*"
    rfl
  · rw [if_neg h0]
    obtain ⟨c, a, b, hc, ha, hb, lp⟩ := read_loop (x := x) (words x) [] .no .no .no (.inl rfl) (.inl rfl) (.inl rfl) (fun w hw => by have := words_short hw; omega) (by rw [size24]; simp; omega)
    rw [List.nil_append] at lp
    have it : ((words x).map fun w => OV.frz (D.str w)) = ((words x).map D.str).map .frz := by rw [List.map_map]; rfl
    rw [it] at sp
    have el : ((words x).map fun w => lawc (cs w)).length = (words x).length := by rw [List.length_map]
    have kpy : ∀ d ∈ (words x).map fun w => lawc (cs w), d.isPy = true ∧ fits d = true := fun d hd => by
      obtain ⟨w, hw, rfl⟩ := List.mem_map.mp hd
      refine ⟨(lawc_py _).1, ?_⟩
      unfold lawc
      split
      · rfl
      · refine fits_str ?_
        rw [str_len, List.toList_toArray]
        have := words_short hw
        have e : w.length = (cs w).length := str_len w
        rw [size24]; omega
    generalize ((words x).map fun w => lawc (cs w)) = vs at *
    have key := all_items (orc := O__law_read) (en := [.ov (.frz (.str x)), .ov (.frz (.tup vs)), c, a, b, .no, .no]) (i := 1) (j := 6) (k := 26) (ds := vs) (p := valOk) rfl rfl rfl (by rw [size24]; omega) (fun d hd => law_is_value_ok (kpy d hd).1 (kpy d hd).2)
    have z0 : (0 : Nat) ≤ sizeLine := by decide
    simp only [evE_bif, mkO_lc, List.range_one] at key
    unfold readBody at lp
    cases hv : vs.all valOk with
    | false =>
      rw [hv] at key
      rw [if_neg (fun z => by cases z.1)]
      clear wl el kpy hc ha hb hx it
      walk_at "ev*"
    | true =>
      rw [hv] at key
      have wt := words_ok (vs := vs) (List.all_eq_true.mp hv) (by omega)
      by_cases ht : vstext vs = x
      · rw [if_pos ⟨rfl, ht⟩]
        clear wl el kpy hc ha hb hx it hv
        walk_at "ev*"
      · rw [if_neg (fun z => ht z.2)]
        clear wl el kpy hc ha hb hx it hv
        walk_at "ev*"
end K02

namespace K02
open PySem PM TL NumText
local macro_rules | `(tactic| walk_at "ev") => `(tactic| simp only [List.getElem?_cons_zero, List.getElem?_cons_succ, List.getElem?_nil, List.set_cons_zero, List.set_cons_succ, List.replicate_succ, List.replicate_zero, List.cons_append, List.nil_append, Option.map_some, Option.map_none, Option.bind_some, if_true, if_false, ite_true, ite_false, Bool.not_true, Bool.not_false, Bool.false_eq_true, Bool.true_and, Bool.and_true, Bool.false_and, Bool.and_false, Bool.true_or, Bool.or_true, Bool.false_or, Bool.or_false, reduceIte, List.length_cons, List.length_nil, Nat.reduceAdd, Nat.reduceSub, Nat.reduceLeDiff, Nat.reduceLT, Int.reduceAdd, Int.reduceSub, Int.reduceNeg, Int.reduceLT, Int.reduceLE, Int.reduceEq, decide_true, decide_false, List.map_cons, List.map_nil, Bool.and_self, Bool.not_not, List.range_one, eq_self, PM.isInst, PM.isIn, PM.evE_call, Option.map_none, bnd_ok, bnd_exc, of_some, nx_ok, evE_lit, evE_var, evE_tup, evE_lst, evE_bin, evE_cmp, evE_chn, evE_and, evE_or, evE_not, evE_ite, evE_sub, evE_slc, evE_rev, evE_bif, evE_isi, evE_met1, evE_fmt, evE_dict, evE_heard, evT_and, evT_or, evT_not, evT_val, evL_nil, evL_cons, evKV_nil, evKV_cons, evA_nil, evA_cons, evCs_nil, evCs_one, evI_val, evI_enum, evI_zip, evI_range, evS_set, evS_asg, evS_setk, evS_expr, evS_ret, evS_retN, evS_if, evS_for, evS_raise, evS_brk, evS_cont, evS_pass, evSs_nil, evSs_cons, range_0, permute_0, permuteR_0, permute_1, permuteR_1, range_2, permute_2, permuteR_2, range_3, permute_3, permuteR_3, range_4, permute_4, permuteR_4, range_5, permute_5, permuteR_5, takeA_nil, takeA_val, takeA_slot, backA_nil, backA_val, backA_slot, backA_no, outs_nil, outs_lent, outs_ov, mkO_nm, mkO_lit, mkO_tup, mkO_lst, mkO_dict, mkO_bin, mkO_cmp, mkO_chn, mkO_and, mkO_or, mkO_not, mkO_ite, mkO_sub, mkO_slc, mkO_rev, mkO_lc, mkO_dc, mkO_fmt, mkO_call, mkO_bif, mkO_isi, mkO_met1, mkO_fst, mkO_heard, mkA_f, mkA_t, rd_val, rd_slot, rdVar_eq, putS_eq, bind1_nm, bind1_tp, binds_nil, binds_cons, flat_frz, flat_lst, flat_lst0, flat_lst1, flat_dic, cool_frz, d_frz, cool_lst, d_lst, cool_lst0, d_lst0, cool_dic, d_dic, gd_true, gd_false, bls_map, plain_str, plain_int, plain_bl, plain_non, plain_tup, plain_lst, plains_nil, plains_cons, isPy_str, isPy_int, isPy_bl, isPy_non, isPy_tup, isPy_lst, shal_str, shal_int, shal_bl, shal_non, eqv_str, eqv_int, eqv_bl, cmp_eq_str, cmp_ne_str, cmp_eq_int, cmp_ne_int, cmp_lt_int, cmp_le_int, cmp_gt_int, cmp_ge_int, bin_add_int, bin_sub_int, cmp_in_one, items_str, items_tup, items_lst, bif_all, bif_len_tup, bif_len_lst, bif_len_dic, bif_tuple_lst, bif_tuple_tup, bif_list_lst, bif_list_tup, truth_bl, for_nil])
local macro_rules | `(tactic| walk_at "ev*") => `(tactic| simp only [List.getElem?_cons_zero, List.getElem?_cons_succ, List.getElem?_nil, List.set_cons_zero, List.set_cons_succ, List.replicate_succ, List.replicate_zero, List.cons_append, List.nil_append, Option.map_some, Option.map_none, Option.bind_some, if_true, if_false, ite_true, ite_false, Bool.not_true, Bool.not_false, Bool.false_eq_true, Bool.true_and, Bool.and_true, Bool.false_and, Bool.and_false, Bool.true_or, Bool.or_true, Bool.false_or, Bool.or_false, reduceIte, List.length_cons, List.length_nil, Nat.reduceAdd, Nat.reduceSub, Nat.reduceLeDiff, Nat.reduceLT, Int.reduceAdd, Int.reduceSub, Int.reduceNeg, Int.reduceLT, Int.reduceLE, Int.reduceEq, decide_true, decide_false, List.map_cons, List.map_nil, Bool.and_self, Bool.not_not, List.range_one, eq_self, PM.isInst, PM.isIn, PM.evE_call, Option.map_none, bnd_ok, bnd_exc, of_some, nx_ok, evE_lit, evE_var, evE_tup, evE_lst, evE_bin, evE_cmp, evE_chn, evE_and, evE_or, evE_not, evE_ite, evE_sub, evE_slc, evE_rev, evE_bif, evE_isi, evE_met1, evE_fmt, evE_dict, evE_heard, evT_and, evT_or, evT_not, evT_val, evL_nil, evL_cons, evKV_nil, evKV_cons, evA_nil, evA_cons, evCs_nil, evCs_one, evI_val, evI_enum, evI_zip, evI_range, evS_set, evS_asg, evS_setk, evS_expr, evS_ret, evS_retN, evS_if, evS_for, evS_raise, evS_brk, evS_cont, evS_pass, evSs_nil, evSs_cons, range_0, permute_0, permuteR_0, permute_1, permuteR_1, range_2, permute_2, permuteR_2, range_3, permute_3, permuteR_3, range_4, permute_4, permuteR_4, range_5, permute_5, permuteR_5, takeA_nil, takeA_val, takeA_slot, backA_nil, backA_val, backA_slot, backA_no, outs_nil, outs_lent, outs_ov, mkO_nm, mkO_lit, mkO_tup, mkO_lst, mkO_dict, mkO_bin, mkO_cmp, mkO_chn, mkO_and, mkO_or, mkO_not, mkO_ite, mkO_sub, mkO_slc, mkO_rev, mkO_lc, mkO_dc, mkO_fmt, mkO_call, mkO_bif, mkO_isi, mkO_met1, mkO_fst, mkO_heard, mkA_f, mkA_t, rd_val, rd_slot, rdVar_eq, putS_eq, bind1_nm, bind1_tp, binds_nil, binds_cons, flat_frz, flat_lst, flat_lst0, flat_lst1, flat_dic, cool_frz, d_frz, cool_lst, d_lst, cool_lst0, d_lst0, cool_dic, d_dic, gd_true, gd_false, bls_map, plain_str, plain_int, plain_bl, plain_non, plain_tup, plain_lst, plains_nil, plains_cons, isPy_str, isPy_int, isPy_bl, isPy_non, isPy_tup, isPy_lst, shal_str, shal_int, shal_bl, shal_non, eqv_str, eqv_int, eqv_bl, cmp_eq_str, cmp_ne_str, cmp_eq_int, cmp_ne_int, cmp_lt_int, cmp_le_int, cmp_gt_int, cmp_ge_int, bin_add_int, bin_sub_int, cmp_in_one, items_str, items_tup, items_lst, bif_all, bif_len_tup, bif_len_lst, bif_len_dic, bif_tuple_lst, bif_tuple_tup, bif_list_lst, bif_list_tup, truth_bl, for_nil, *])
/-- texts as they come about here -/
def okStr (n : Nat) (s : Str) : Prop := s.length ≤ n ∧ ∀ c ∈ cs s, c < 1114112
theorem cut_ok {n : Nat} {x : Str} (h : okStr n x) (lo hi : Option Int) : okStr n (L2.cutS x lo hi) := by
  have e : cs (L2.cutS x lo hi) = ((cs x).drop (HT.sIx x.length 0 lo)).take (HT.sIx x.length x.length hi - HT.sIx x.length 0 lo) := by simp [cs, L2.cutS]
  refine ⟨?_, fun c hc => ?_⟩
  · have a : (L2.cutS x lo hi).length = (cs (L2.cutS x lo hi)).length := str_len _
    have b : x.length = (cs x).length := str_len _
    rw [a, e, List.length_take, List.length_drop]
    have := h.1
    omega
  · rw [e] at hc
    exact h.2 c (List.mem_of_mem_drop (List.mem_of_mem_take hc))
theorem cat_ok {n m : Nat} {x y : Str} (h : okStr n x) (h' : okStr m y) : okStr (n + m) (x ++ y) := by
  have e : cs (x ++ y) = cs x ++ cs y := TL.tl_append x y
  refine ⟨by rw [Str.length_append]; have := h.1; have := h'.1; omega, fun c hc => ?_⟩
  rw [e] at hc
  exact (List.mem_append.mp hc).elim (h.2 c) (h'.2 c)
theorem okStr.mono {n m : Nat} {x : Str} (h : okStr n x) (l : n ≤ m) : okStr m x := ⟨Nat.le_trans h.1 l, h.2⟩
theorem slc_lo {x : Str} (h : x.length ≤ sizeLine) {i : Int} : (D.str x).slc .non (.int i) = some (.frz (.str (L2.cutS x none (some i)))) := by
  simp only [D.slc, D.bnd, h, gd_true]
theorem slc_hi {x : Str} (h : x.length ≤ sizeLine) {i : Int} : (D.str x).slc (.int i) .non = some (.frz (.str (L2.cutS x (some i) none))) := by
  simp only [D.slc, D.bnd, h, gd_true]
theorem cat_D {x y : Str} (h : x.length + y.length ≤ sizeLine) : opBin .add (.str x) (.str y) = some (.frz (.str (x ++ y))) := by
  simp only [opBin, h, gd_true]
theorem lst_D {a b : List D} (h : a.length + b.length ≤ sizeLine) : opBin .add (.lst a) (.lst b) = some (.lst ((a ++ b).map .frz)) := by
  simp only [opBin, h, gd_true]
theorem vstext_okStr {vs : List D} (h : ∀ v ∈ vs, valOk v = true) (hn : vs.length ≤ 10) : okStr 100 (vstext vs) := by
  have one : ∀ v ∈ vs, ∀ c ∈ vtext v, c < 1114112 := fun v hv c hc => by
    rcases valOk_cases (h v hv) with ⟨i, rfl, h1, h2⟩ | ⟨x, rfl, hx⟩
    · simp only [vtext] at hc
      split at hc
      · rcases List.mem_cons.mp hc with rfl | hc
        · decide
        · have := numL_digits _ c hc; omega
      · have := numL_digits _ c hc; omega
    · have := (lettersOk_str.mp hx).2.2 c hc
      omega
  have go : ∀ l : List D, (∀ v ∈ l, v ∈ vs) → okStr (9 * l.length + 1) (Txt.join " " (l.map vstr)) := by
    intro l
    rw [TL.join_eq]
    induction l with
    | nil => intro _; exact ⟨by decide +kernel, fun c hc => by have : c ∈ ([] : List Nat) := hc; cases this⟩
    | cons v l ih =>
      intro hl
      have hv := hl v (List.mem_cons_self ..)
      have l8 := (vtext_free (h v hv)).2.2.1
      have o1 : okStr 8 (vstr v) := ⟨by rw [str_len, show (vstr v).cps.toList = cs (vstr v) from rfl, cs_vstr]; exact l8, fun c hc => one v hv c (by rw [cs_vstr] at hc; exact hc)⟩
      cases l with
      | nil => exact o1.mono (by simp)
      | cons u l =>
        have i1 := ih fun z hz => hl z (List.mem_cons_of_mem _ hz)
        have sp : okStr 1 (" " : Str) := ⟨by decide +kernel, by decide +kernel⟩
        have := cat_ok (cat_ok o1 sp) i1
        exact this.mono (by simp only [List.length_cons]; omega)
  cases vs with
  | nil => exact ⟨by decide +kernel, by decide +kernel⟩
  | cons v vs => exact (go (v :: vs) fun _ h => h).mono (by omega)
theorem tame_str {n m : Nat} {s : Str} (h : okStr n s) : (D.str s).tame m = true ∧ (D.str s).wt ≤ 10 * n + 2 := by
  refine ⟨?_, by simp only [D.wt]; have := h.1; omega⟩
  simp only [D.tame, List.all_eq_true, decide_eq_true_eq]
  exact h.2
theorem tame_tup {n : Nat} {ds : List D} (h : D.tames n ds = true) : (D.tup ds).tame (n + 1) = true := by simp only [D.tame, h]
/-- one near text: read by the program as the law reads it -/
def nearBody : Ss := (.cons (.set 7 (.call 31 (.cons (.var 6) .nil) [false] (List.range 1))) (.cons (.if_ (.not (.val (.call 24 (.cons (.heard (.pair "told") [([1], (.pair "text")), ([0], (.pair "values")), ([0, 1], (.const (.frz (.tup [(.str "other"), .non]))))] (.call 19 (.cons (.var 6) .nil) [false] (List.range 1))) (.cons (.ite (.val (.cmp .isnot (.var 7) (.lit .non))) (.tup (.cons (.lit (.str "told")) (.cons (.var 7) .nil))) (.tup (.cons (.lit (.str "text")) (.cons (.var 6) .nil)))) .nil)) [false, false] (List.range 2)))) (.cons (.ret (.lit (.bl false))) .nil) .nil) .nil))
theorem near_turn {s : Str} (h : okStr 600 s) {j a b c d e g : Sl} (hg : anyS g) : ∃ r, evSs O__law_texts_right nearBody [j, a, b, c, d, e, .ov (.frz (.str s)), g] = .ok .nx [j, a, b, c, d, e, .ov (.frz (.str s)), .ov r] := by
  have e31 : O__law_texts_right 31 = F__law_read := rfl
  have e24 : O__law_texts_right 24 = F__law_equal := rfl
  have e19 : O__law_texts_right 19 = F_read_values := rfl
  have lr := law_read_ok h.1
  have rv := read_values_ok (x := s) (by rw [size24]; have := h.1; omega)
  have one2 : (2 : Nat) ≤ sizeLine := by decide
  have pt : ∀ o, putS 7 o [j, a, b, c, d, e, .ov (.frz (.str s)), g] = some [j, a, b, c, d, e, .ov (.frz (.str s)), .ov o] := fun o => put_any rfl hg
  unfold nearBody
  cases hv : vsfrom s with
  | none =>
    rw [hv] at lr rv
    simp only at lr rv
    have st : (D.tup [.str "text", .str s]).shows = true := shows_of (n := 1) (tame_tup (by simp only [D.tames, (tame_str h).1, Bool.and_true]; kernel_rfl)) (by decide) (by
      have := (tame_str (m := 0) h).2
      have e : (D.str "text").wt = 42 := by decide +kernel
      simp only [D.wt, D.wts] at this e ⊢
      rw [size24]; omega)
    have eq := equal_ok st
    have s1 : evS O__law_texts_right (.set 7 (.call 31 (.cons (.var 6) .nil) [false] (List.range 1))) [j, a, b, c, d, e, .ov (.frz (.str s)), g] = .ok .nx [j, a, b, c, d, e, .ov (.frz (.str s)), .ov (.frz .non)] := by
      rw [evS_set, call_1 (d := .str s) (r := .non) rfl (by rw [e31]; exact lr), bnd_ok, pt]
    have is0 : opCmp .isnot .non .non = some false := rfl
    have pk : pick0 1 [([1], HK0.pair "text"), ([0], .pair "values"), ([0, 1], .const (.frz (.tup [(.str "other"), .non])))] = some (.pair "text") := rfl
    have hr : (HK0.pair "text").res (.str s) = .frz (.tup [.str "text", .str s]) := rfl
    refine ⟨.frz .non, ?_⟩
    rw [evSs_cons, s1]
    clear s1 pt lr hv h st
    walk_at "ev*"
  | some vs =>
    rw [hv] at lr rv
    simp only at lr rv
    obtain ⟨t1, t2⟩ := vstext_vsfrom hv
    have hlen : vs.length ≤ 700 := by
      unfold vsfrom at hv
      split at hv
      · cases hv; simp
      · split at hv
        · cases hv
          refine Nat.le_trans (List.length_filterMap_le _ _) ?_
          rw [List.length_map]
          have := PyProof.Rows.split_le s " "
          have e : (words s).length ≤ s.length + 2 := this
          have := h.1
          omega
        · cases hv
    have st : (D.tup [.str "told", .tup vs]).shows = true := shows_of (n := 2) (tame_tup (by
        simp only [D.tames, tame_tup (tame_vals (n := 0) t2).1, Bool.and_true]; kernel_rfl)) (by decide) (by
      have := (tame_vals (n := 0) t2).2
      have e : (D.str "told").wt = 42 := by decide +kernel
      simp only [D.wt, D.wts] at this e ⊢
      rw [size24]; omega)
    have eq := equal_ok st
    have s1 : evS O__law_texts_right (.set 7 (.call 31 (.cons (.var 6) .nil) [false] (List.range 1))) [j, a, b, c, d, e, .ov (.frz (.str s)), g] = .ok .nx [j, a, b, c, d, e, .ov (.frz (.str s)), .ov (.frz (.tup vs))] := by
      rw [evS_set, call_1 (d := .str s) (r := .tup vs) rfl (by rw [e31]; exact lr), bnd_ok, pt]
    have is0 : opCmp .isnot (.tup vs) .non = some true := rfl
    have hr : (OK0.pair "told").res (.tup vs) = .frz (.tup [.str "told", .tup vs]) := rfl
    refine ⟨.frz (.tup vs), ?_⟩
    rw [evSs_cons, s1]
    clear s1 pt lr hv h st t1 t2 hlen
    walk_at "ev*"
theorem near_loop {j a b c d e : Sl} : ∀ (ss : List Str) (f g : Sl), (∀ s ∈ ss, okStr 600 s) → anyS f → anyS g → ∃ f' g', anyS f' ∧ anyS g' ∧ forGo (bind1 (.nm 6)) (evSs O__law_texts_right nearBody) (ss.map .str) [j, a, b, c, d, e, f, g] = .ok .nx [j, a, b, c, d, e, f', g']
  | [], f, g, _, hf, hg => ⟨f, g, hf, hg, rfl⟩
  | s :: ss, f, g, h, hf, hg => by
    obtain ⟨r, h1⟩ := near_turn (h s (List.mem_cons_self ..)) (j := j) (a := a) (b := b) (c := c) (d := d) (e := e) hg
    obtain ⟨f', g', r1, r2, r3⟩ := near_loop ss (.ov (.frz (.str s))) (.ov r) (fun z hz => h z (List.mem_cons_of_mem _ hz)) (.inr ⟨_, rfl⟩) (.inr ⟨_, rfl⟩)
    refine ⟨f', g', r1, r2, ?_⟩
    rw [List.map_cons, for_nx (en1 := [j, a, b, c, d, e, .ov (.frz (.str s)), g]) (by rw [bind1_nm]; exact put_any rfl hf) h1, r3]
end K02

namespace K02
open PySem PM TL NumText
local macro_rules | `(tactic| walk_at "ev") => `(tactic| simp only [List.getElem?_cons_zero, List.getElem?_cons_succ, List.getElem?_nil, List.set_cons_zero, List.set_cons_succ, List.replicate_succ, List.replicate_zero, List.cons_append, List.nil_append, Option.map_some, Option.map_none, Option.bind_some, if_true, if_false, ite_true, ite_false, Bool.not_true, Bool.not_false, Bool.false_eq_true, Bool.true_and, Bool.and_true, Bool.false_and, Bool.and_false, Bool.true_or, Bool.or_true, Bool.false_or, Bool.or_false, reduceIte, List.length_cons, List.length_nil, Nat.reduceAdd, Nat.reduceSub, Nat.reduceLeDiff, Nat.reduceLT, Int.reduceAdd, Int.reduceSub, Int.reduceNeg, Int.reduceLT, Int.reduceLE, Int.reduceEq, decide_true, decide_false, List.map_cons, List.map_nil, Bool.and_self, Bool.not_not, List.range_one, eq_self, PM.isInst, PM.isIn, PM.evE_call, Option.map_none, bnd_ok, bnd_exc, of_some, nx_ok, evE_lit, evE_var, evE_tup, evE_lst, evE_bin, evE_cmp, evE_chn, evE_and, evE_or, evE_not, evE_ite, evE_sub, evE_slc, evE_rev, evE_bif, evE_isi, evE_met1, evE_fmt, evE_dict, evE_heard, evT_and, evT_or, evT_not, evT_val, evL_nil, evL_cons, evKV_nil, evKV_cons, evA_nil, evA_cons, evCs_nil, evCs_one, evI_val, evI_enum, evI_zip, evI_range, evS_set, evS_asg, evS_setk, evS_expr, evS_ret, evS_retN, evS_if, evS_for, evS_raise, evS_brk, evS_cont, evS_pass, evSs_nil, evSs_cons, range_0, permute_0, permuteR_0, permute_1, permuteR_1, range_2, permute_2, permuteR_2, range_3, permute_3, permuteR_3, range_4, permute_4, permuteR_4, range_5, permute_5, permuteR_5, takeA_nil, takeA_val, takeA_slot, backA_nil, backA_val, backA_slot, backA_no, outs_nil, outs_lent, outs_ov, mkO_nm, mkO_lit, mkO_tup, mkO_lst, mkO_dict, mkO_bin, mkO_cmp, mkO_chn, mkO_and, mkO_or, mkO_not, mkO_ite, mkO_sub, mkO_slc, mkO_rev, mkO_lc, mkO_dc, mkO_fmt, mkO_call, mkO_bif, mkO_isi, mkO_met1, mkO_fst, mkO_heard, mkA_f, mkA_t, rd_val, rd_slot, rdVar_eq, putS_eq, bind1_nm, bind1_tp, binds_nil, binds_cons, flat_frz, flat_lst, flat_lst0, flat_lst1, flat_dic, cool_frz, d_frz, cool_lst, d_lst, cool_lst0, d_lst0, cool_dic, d_dic, gd_true, gd_false, bls_map, plain_str, plain_int, plain_bl, plain_non, plain_tup, plain_lst, plains_nil, plains_cons, isPy_str, isPy_int, isPy_bl, isPy_non, isPy_tup, isPy_lst, shal_str, shal_int, shal_bl, shal_non, eqv_str, eqv_int, eqv_bl, cmp_eq_str, cmp_ne_str, cmp_eq_int, cmp_ne_int, cmp_lt_int, cmp_le_int, cmp_gt_int, cmp_ge_int, bin_add_int, bin_sub_int, cmp_in_one, items_str, items_tup, items_lst, bif_all, bif_len_tup, bif_len_lst, bif_len_dic, bif_tuple_lst, bif_tuple_tup, bif_list_lst, bif_list_tup, truth_bl, for_nil])
local macro_rules | `(tactic| walk_at "ev*") => `(tactic| simp only [List.getElem?_cons_zero, List.getElem?_cons_succ, List.getElem?_nil, List.set_cons_zero, List.set_cons_succ, List.replicate_succ, List.replicate_zero, List.cons_append, List.nil_append, Option.map_some, Option.map_none, Option.bind_some, if_true, if_false, ite_true, ite_false, Bool.not_true, Bool.not_false, Bool.false_eq_true, Bool.true_and, Bool.and_true, Bool.false_and, Bool.and_false, Bool.true_or, Bool.or_true, Bool.false_or, Bool.or_false, reduceIte, List.length_cons, List.length_nil, Nat.reduceAdd, Nat.reduceSub, Nat.reduceLeDiff, Nat.reduceLT, Int.reduceAdd, Int.reduceSub, Int.reduceNeg, Int.reduceLT, Int.reduceLE, Int.reduceEq, decide_true, decide_false, List.map_cons, List.map_nil, Bool.and_self, Bool.not_not, List.range_one, eq_self, PM.isInst, PM.isIn, PM.evE_call, Option.map_none, bnd_ok, bnd_exc, of_some, nx_ok, evE_lit, evE_var, evE_tup, evE_lst, evE_bin, evE_cmp, evE_chn, evE_and, evE_or, evE_not, evE_ite, evE_sub, evE_slc, evE_rev, evE_bif, evE_isi, evE_met1, evE_fmt, evE_dict, evE_heard, evT_and, evT_or, evT_not, evT_val, evL_nil, evL_cons, evKV_nil, evKV_cons, evA_nil, evA_cons, evCs_nil, evCs_one, evI_val, evI_enum, evI_zip, evI_range, evS_set, evS_asg, evS_setk, evS_expr, evS_ret, evS_retN, evS_if, evS_for, evS_raise, evS_brk, evS_cont, evS_pass, evSs_nil, evSs_cons, range_0, permute_0, permuteR_0, permute_1, permuteR_1, range_2, permute_2, permuteR_2, range_3, permute_3, permuteR_3, range_4, permute_4, permuteR_4, range_5, permute_5, permuteR_5, takeA_nil, takeA_val, takeA_slot, backA_nil, backA_val, backA_slot, backA_no, outs_nil, outs_lent, outs_ov, mkO_nm, mkO_lit, mkO_tup, mkO_lst, mkO_dict, mkO_bin, mkO_cmp, mkO_chn, mkO_and, mkO_or, mkO_not, mkO_ite, mkO_sub, mkO_slc, mkO_rev, mkO_lc, mkO_dc, mkO_fmt, mkO_call, mkO_bif, mkO_isi, mkO_met1, mkO_fst, mkO_heard, mkA_f, mkA_t, rd_val, rd_slot, rdVar_eq, putS_eq, bind1_nm, bind1_tp, binds_nil, binds_cons, flat_frz, flat_lst, flat_lst0, flat_lst1, flat_dic, cool_frz, d_frz, cool_lst, d_lst, cool_lst0, d_lst0, cool_dic, d_dic, gd_true, gd_false, bls_map, plain_str, plain_int, plain_bl, plain_non, plain_tup, plain_lst, plains_nil, plains_cons, isPy_str, isPy_int, isPy_bl, isPy_non, isPy_tup, isPy_lst, shal_str, shal_int, shal_bl, shal_non, eqv_str, eqv_int, eqv_bl, cmp_eq_str, cmp_ne_str, cmp_eq_int, cmp_ne_int, cmp_lt_int, cmp_le_int, cmp_gt_int, cmp_ge_int, bin_add_int, bin_sub_int, cmp_in_one, items_str, items_tup, items_lst, bif_all, bif_len_tup, bif_len_lst, bif_len_dic, bif_tuple_lst, bif_tuple_tup, bif_list_lst, bif_list_tup, truth_bl, for_nil, *])
theorem lit_okStr {s : Str} (h : (decide (s.length ≤ 20) && s.cps.toList.all fun c => decide (c < 1114112)) = true) : okStr 600 s := by
  simp only [Bool.and_eq_true, decide_eq_true_eq, List.all_eq_true] at h
  exact ⟨by omega, h.2⟩
theorem near_part {t : Str} {k : Int} {c : Nat} {j a e g h : Sl} (ts : t.length ≤ 100) (l1 : (L2.cutS t none (some k)).length ≤ 100) (l2 : (L2.cutS t (some k) none).length ≤ 100) :
    evE O__law_texts_right (.bin .add (.bin .add (.slc (.var 2) (.lit .non) (.var 3)) (.var 5)) (.slc (.var 2) (.var 3) (.lit .non))) [j, a, .ov (.frz (.str t)), .ov (.frz (.int k)), e, .ov (.frz (.str ⟨#[c]⟩)), g, h] =
      .ok (.frz (.str ((L2.cutS t none (some k) ++ ⟨#[c]⟩) ++ L2.cutS t (some k) none))) [j, a, .ov (.frz (.str t)), .ov (.frz (.int k)), e, .ov (.frz (.str ⟨#[c]⟩)), g, h] := by
  have s1 := slc_lo (x := t) (by rw [size24]; omega) (i := k)
  have s2 := slc_hi (x := t) (by rw [size24]; omega) (i := k)
  have a1 := cat_D (x := L2.cutS t none (some k)) (y := ⟨#[c]⟩) (by rw [size24]; show _ + 1 ≤ _; omega)
  have a2 := cat_D (x := L2.cutS t none (some k) ++ ⟨#[c]⟩) (y := L2.cutS t (some k) none) (by rw [Str.length_append, size24]; show _ + 1 + _ ≤ _; omega)
  clear ts l1 l2
  walk_at "ev*"
def nearBy (t : Str) (k : Int) : List Str := (cs (Str.ofString " -0aA,?")).map fun c => (L2.cutS t none (some k) ++ ⟨#[c]⟩) ++ L2.cutS t (some k) none
def nearOff (t : Str) (k : Int) : List Str := [L2.cutS t none (some k) ++ L2.cutS t (some (k + 1)) none, t ++ " ", "", "--1", "01", "+1", "-0", "10000", "abcdefghi", " a", "a  b", "- a", "a -", "1 -", "a\n"]
theorem near_ok {t : Str} {k : Int} (ot : okStr 100 t) : ∀ s ∈ nearBy t k ++ nearOff t k, okStr 600 s := by
  have c1 := cut_ok ot none (some k)
  have c2 := cut_ok ot (some k) none
  have c3 := cut_ok ot (some (k + 1)) none
  intro s hs
  rcases List.mem_append.mp hs with hs | hs
  · obtain ⟨c, hc, rfl⟩ := List.mem_map.mp hs
    have oc : okStr 1 (⟨#[c]⟩ : Str) := ⟨Nat.le_refl 1, fun d hd => by
      have : d = c := by simpa [cs] using hd
      subst this
      have q : ∀ c ∈ cs (Str.ofString " -0aA,?"), c < 1114112 := by decide +kernel
      exact q d hc⟩
    exact (cat_ok (cat_ok c1 oc) c2).mono (by decide)
  · simp only [nearOff, List.mem_cons, List.not_mem_nil, or_false] at hs
    rcases hs with rfl | rfl | rfl | rfl | rfl | rfl | rfl | rfl | rfl | rfl | rfl | rfl | rfl | rfl | rfl
    · exact (cat_ok c1 c3).mono (by decide)
    · exact (cat_ok ot (show okStr 1 (" " : Str) from ⟨by decide +kernel, by decide +kernel⟩)).mono (by decide)
    all_goals exact lit_okStr (by decide +kernel)
theorem near_set {t : Str} {k : Int} {j a : Sl} (ot : okStr 100 t) : evS O__law_texts_right (.set 4 (.bin .add (.lc (.bin .add (.bin .add (.slc (.var 2) (.lit .non) (.var 3)) (.var 5)) (.slc (.var 2) (.var 3) (.lit .non))) (.nm 5) (.val (.lit (.str " -0aA,?"))) .nil [5]) (.lst (.cons (.bin .add (.slc (.var 2) (.lit .non) (.var 3)) (.slc (.var 2) (.bin .add (.var 3) (.lit (.int 1))) (.lit .non))) (.cons (.bin .add (.var 2) (.lit (.str " "))) (.cons (.lit (.str "")) (.cons (.lit (.str "--1")) (.cons (.lit (.str "01")) (.cons (.lit (.str "+1")) (.cons (.lit (.str "-0")) (.cons (.lit (.str "10000")) (.cons (.lit (.str "abcdefghi")) (.cons (.lit (.str " a")) (.cons (.lit (.str "a  b")) (.cons (.lit (.str "- a")) (.cons (.lit (.str "a -")) (.cons (.lit (.str "1 -")) (.cons (.lit (.str "a\n")) .nil))))))))))))))))))
      [j, a, .ov (.frz (.str t)), .ov (.frz (.int k)), .no, .no, .no, .no] = .ok .nx [j, a, .ov (.frz (.str t)), .ov (.frz (.int k)), .ov (.lst (((nearBy t k ++ nearOff t k).map .str).map .frz)), .no, .no, .no] := by
  have c1 := cut_ok ot none (some k)
  have c2 := cut_ok ot (some k) none
  have c3 := cut_ok ot (some (k + 1)) none
  have l0 := ot.1
  have l1 := c1.1
  have l2 := c2.1
  have l3 := c3.1
  have lt := lc_one' (orc := O__law_texts_right) (en := [j, a, .ov (.frz (.str t)), .ov (.frz (.int k)), .no, .no, .no, .no]) (elt := .bin .add (.bin .add (.slc (.var 2) (.lit .non) (.var 3)) (.var 5)) (.slc (.var 2) (.var 3) (.lit .non))) (it := .val (.lit (.str " -0aA,?"))) (i := 5) (ds := (cs (Str.ofString " -0aA,?")).map oneS)
    (f := fun d => match d with | .str s => .str ((L2.cutS t none (some k) ++ s) ++ L2.cutS t (some k) none) | _ => .non) (by walk_at "ev") rfl rfl (fun d hd => by
      obtain ⟨c, hc, rfl⟩ := List.mem_map.mp hd
      exact near_part ot.1 l1 l2) (by decide +kernel)
  have em : ((cs (Str.ofString " -0aA,?")).map oneS).map (fun d => match d with | .str s => D.str ((L2.cutS t none (some k) ++ s) ++ L2.cutS t (some k) none) | _ => .non) = (nearBy t k).map .str := by
    unfold nearBy
    rw [List.map_map, List.map_map]; rfl
  rw [em] at lt
  have s1 := slc_lo (x := t) (by rw [size24]; omega) (i := k)
  have s3 := slc_hi (x := t) (by rw [size24]; omega) (i := k + 1)
  have a1 := cat_D (x := L2.cutS t none (some k)) (y := L2.cutS t (some (k + 1)) none) (by rw [size24]; omega)
  have a2 := cat_D (x := t) (y := " ") (by rw [size24, show Str.length " " = 1 from by decide +kernel]; omega)
  have rl : ((nearBy t k).map D.str).length + ((nearOff t k).map D.str).length ≤ sizeLine := by
    simp only [nearBy, nearOff, List.length_map, List.length_cons, List.length_nil]
    decide +kernel
  have ad := lst_D (a := (nearBy t k).map .str) (b := (nearOff t k).map .str) rl
  rw [← List.map_append] at ad
  have rr : (nearOff t k).map D.str = [.str (L2.cutS t none (some k) ++ L2.cutS t (some (k + 1)) none), .str (t ++ " "), .str "", .str "--1", .str "01", .str "+1", .str "-0", .str "10000", .str "abcdefghi", .str " a", .str "a  b", .str "- a", .str "a -", .str "1 -", .str "a\n"] := rfl
  rw [rr] at ad
  generalize ((nearBy t k ++ nearOff t k).map D.str) = all at *
  generalize (nearBy t k).map D.str = by_ at *
  have fifteen : (15 : Nat) ≤ sizeLine := by decide
  clear rr rl em l0 l1 l2 l3 c1 c2 c3 ot
  have fl15 : ∀ d1 d2 d3 d4 d5 d6 d7 d8 d9 d10 d11 d12 d13 d14 d15 : D, (OV.lst [.frz d1, .frz d2, .frz d3, .frz d4, .frz d5, .frz d6, .frz d7, .frz d8, .frz d9, .frz d10, .frz d11, .frz d12, .frz d13, .frz d14, .frz d15]).flat = some (.lst [d1, d2, d3, d4, d5, d6, d7, d8, d9, d10, d11, d12, d13, d14, d15]) := fun d1 d2 d3 d4 d5 d6 d7 d8 d9 d10 d11 d12 d13 d14 d15 => flat_lst (ds := [d1, d2, d3, d4, d5, d6, d7, d8, d9, d10, d11, d12, d13, d14, d15])
  walk_at "ev*"
theorem texts_right_ok {ja jb : Int} {vs : List D} (hj : JugOk ja jb) (h : ∀ v ∈ vs, valOk v = true) (hn : vs.length ≤ 10) : ∃ a' b', JugOk a' b' ∧ F__law_texts_right [.lent (jugOV ja jb), .ov (.frz (.tup vs))] = .ok (.frz (.bl true)) [some (jugOV a' b'), none] := by
  have ot := vstext_okStr h hn
  have e18 : O__law_texts_right 18 = F_values_text := rfl
  have e19 : O__law_texts_right 19 = F_read_values := rfl
  have e22 : O__law_texts_right 22 = F__law_pour := rfl
  have e24 : O__law_texts_right 24 = F__law_equal := rfl
  have e25 : O__law_texts_right 25 = F__law_words := rfl
  have w := words_ok h (by omega)
  have vt := values_text_ok h (by omega) (by rw [isPy_tup]; exact List.all_eq_true.mpr fun v hv => (val_plain (h v hv)).2.2.2) ⟨by rw [size24]; omega, fun v hv => by
    rcases valOk_cases (h v hv) with ⟨i, rfl, _⟩ | ⟨x, rfl, hx⟩
    · rfl
    · have := (lettersOk_str.mp hx).2.1
      exact fits_str (by rw [size24]; omega)⟩
  have rv := read_values_ok (x := vstext vs) (by rw [size24]; have := ot.1; omega)
  rw [vsfrom_vstext h] at rv
  simp only at rv
  have st : (D.tup [.str (vstext vs), .str (vstext vs), .tup vs, .tup vs]).shows = true := shows_of (n := 2) (tame_tup (by
      simp only [D.tames, tame_tup (tame_vals (n := 0) h).1, (tame_str (m := 1) ot).1, Bool.and_true])) (by decide) (by
    have a := (tame_vals (n := 0) h).2
    have b := (tame_str (m := 0) ot).2
    simp only [D.wt, D.wts] at a b ⊢
    rw [size24]; omega)
  have eq := equal_ok st
  have tl : (vstext vs).length ≤ 100 := ot.1
  obtain ⟨k, a', b', k0, k1, hj', pr⟩ := pour_ok (m := ((vstext vs).length : Int) + 1) hj (by omega) (by omega)
  refine ⟨a', b', hj', ?_⟩
  have four : (4 : Nat) ≤ sizeLine := by decide
  have ll := bif_len_str (x := vstext vs) (by rw [size24]; omega)
  generalize vstext vs = t at *
  have ns := near_set (t := t) (k := k) (j := .lent (jugOV a' b')) (a := .ov (.frz (.tup vs))) ot
  obtain ⟨f', g', hf', hg', lp⟩ := near_loop (j := .lent (jugOV a' b')) (a := .ov (.frz (.tup vs))) (b := .ov (.frz (.str t))) (c := .ov (.frz (.int k))) (d := .ov (.frz (.lst ((nearBy t k ++ nearOff t k).map .str)))) (e := .no) (nearBy t k ++ nearOff t k) .no .no (near_ok ot) (.inl rfl) (.inl rfl)
  unfold nearBody at lp
  simp only [List.range_one, range_2] at lp
  clear k0 k1 hj hj' tl st ot h hn hf' hg'
  have sp : ∀ (s : S) (r : Ss) (en : En), evSs O__law_texts_right (.cons s r) en = (evS O__law_texts_right s en).bnd fun fl en => match fl with
    | .nx => evSs O__law_texts_right r en
    | .ret o => .ok (.ret o) en
    | .brk => .ok .brk en
    | .ct => .ok .ct en := fun s r en => evSs_cons
  generalize (nearBy t k ++ nearOff t k).map D.str = all at *
  unfold F__law_texts_right
  rw [call2, B__law_texts_right]
  generalize hS : S.set 4 _ = S4 at ns ⊢
  clear hS
  walk_at "ev*"
end K02

namespace K02
open PySem PM TL NumText
local macro_rules | `(tactic| walk_at "ev") => `(tactic| simp only [List.getElem?_cons_zero, List.getElem?_cons_succ, List.getElem?_nil, List.set_cons_zero, List.set_cons_succ, List.replicate_succ, List.replicate_zero, List.cons_append, List.nil_append, Option.map_some, Option.map_none, Option.bind_some, if_true, if_false, ite_true, ite_false, Bool.not_true, Bool.not_false, Bool.false_eq_true, Bool.true_and, Bool.and_true, Bool.false_and, Bool.and_false, Bool.true_or, Bool.or_true, Bool.false_or, Bool.or_false, reduceIte, List.length_cons, List.length_nil, Nat.reduceAdd, Nat.reduceSub, Nat.reduceLeDiff, Nat.reduceLT, Int.reduceAdd, Int.reduceSub, Int.reduceNeg, Int.reduceLT, Int.reduceLE, Int.reduceEq, decide_true, decide_false, List.map_cons, List.map_nil, Bool.and_self, Bool.not_not, List.range_one, eq_self, PM.isInst, List.foldl_nil, PM.isIn, PM.evE_call, Option.map_none, bnd_ok, bnd_exc, of_some, nx_ok, evE_lit, evE_var, evE_tup, evE_lst, evE_bin, evE_cmp, evE_chn, evE_and, evE_or, evE_not, evE_ite, evE_sub, evE_slc, evE_rev, evE_bif, evE_isi, evE_met1, evE_fmt, evE_dict, evE_heard, evT_and, evT_or, evT_not, evT_val, evL_nil, evL_cons, evKV_nil, evKV_cons, evA_nil, evA_cons, evCs_nil, evCs_one, evI_val, evI_enum, evI_zip, evI_range, evS_set, evS_asg, evS_setk, evS_expr, evS_ret, evS_retN, evS_if, evS_for, evS_raise, evS_brk, evS_cont, evS_pass, evSs_nil, evSs_cons, range_0, permute_0, permuteR_0, permute_1, permuteR_1, range_2, permute_2, permuteR_2, range_3, permute_3, permuteR_3, range_4, permute_4, permuteR_4, range_5, permute_5, permuteR_5, takeA_nil, takeA_val, takeA_slot, backA_nil, backA_val, backA_slot, backA_no, outs_nil, outs_lent, outs_ov, mkO_nm, mkO_lit, mkO_tup, mkO_lst, mkO_dict, mkO_bin, mkO_cmp, mkO_chn, mkO_and, mkO_or, mkO_not, mkO_ite, mkO_sub, mkO_slc, mkO_rev, mkO_lc, mkO_dc, mkO_fmt, mkO_call, mkO_bif, mkO_isi, mkO_met1, mkO_fst, mkO_heard, mkA_f, mkA_t, rd_val, rd_slot, rdVar_eq, putS_eq, bind1_nm, bind1_tp, binds_nil, binds_cons, flat_frz, flat_lst, flat_lst0, flat_lst1, flat_dic, cool_frz, d_frz, cool_lst, d_lst, cool_lst0, d_lst0, cool_dic, d_dic, gd_true, gd_false, bls_map, plain_str, plain_int, plain_bl, plain_non, plain_tup, plain_lst, plains_nil, plains_cons, isPy_str, isPy_int, isPy_bl, isPy_non, isPy_tup, isPy_lst, shal_str, shal_int, shal_bl, shal_non, eqv_str, eqv_int, eqv_bl, cmp_eq_str, cmp_ne_str, cmp_eq_int, cmp_ne_int, cmp_lt_int, cmp_le_int, cmp_gt_int, cmp_ge_int, bin_add_int, bin_sub_int, cmp_in_one, items_str, items_tup, items_lst, bif_all, bif_len_tup, bif_len_lst, bif_len_dic, bif_tuple_lst, bif_tuple_tup, bif_list_lst, bif_list_tup, truth_bl, for_nil])
local macro_rules | `(tactic| walk_at "ev*") => `(tactic| simp only [List.getElem?_cons_zero, List.getElem?_cons_succ, List.getElem?_nil, List.set_cons_zero, List.set_cons_succ, List.replicate_succ, List.replicate_zero, List.cons_append, List.nil_append, Option.map_some, Option.map_none, Option.bind_some, if_true, if_false, ite_true, ite_false, Bool.not_true, Bool.not_false, Bool.false_eq_true, Bool.true_and, Bool.and_true, Bool.false_and, Bool.and_false, Bool.true_or, Bool.or_true, Bool.false_or, Bool.or_false, reduceIte, List.length_cons, List.length_nil, Nat.reduceAdd, Nat.reduceSub, Nat.reduceLeDiff, Nat.reduceLT, Int.reduceAdd, Int.reduceSub, Int.reduceNeg, Int.reduceLT, Int.reduceLE, Int.reduceEq, decide_true, decide_false, List.map_cons, List.map_nil, Bool.and_self, Bool.not_not, List.range_one, eq_self, PM.isInst, List.foldl_nil, PM.isIn, PM.evE_call, Option.map_none, bnd_ok, bnd_exc, of_some, nx_ok, evE_lit, evE_var, evE_tup, evE_lst, evE_bin, evE_cmp, evE_chn, evE_and, evE_or, evE_not, evE_ite, evE_sub, evE_slc, evE_rev, evE_bif, evE_isi, evE_met1, evE_fmt, evE_dict, evE_heard, evT_and, evT_or, evT_not, evT_val, evL_nil, evL_cons, evKV_nil, evKV_cons, evA_nil, evA_cons, evCs_nil, evCs_one, evI_val, evI_enum, evI_zip, evI_range, evS_set, evS_asg, evS_setk, evS_expr, evS_ret, evS_retN, evS_if, evS_for, evS_raise, evS_brk, evS_cont, evS_pass, evSs_nil, evSs_cons, range_0, permute_0, permuteR_0, permute_1, permuteR_1, range_2, permute_2, permuteR_2, range_3, permute_3, permuteR_3, range_4, permute_4, permuteR_4, range_5, permute_5, permuteR_5, takeA_nil, takeA_val, takeA_slot, backA_nil, backA_val, backA_slot, backA_no, outs_nil, outs_lent, outs_ov, mkO_nm, mkO_lit, mkO_tup, mkO_lst, mkO_dict, mkO_bin, mkO_cmp, mkO_chn, mkO_and, mkO_or, mkO_not, mkO_ite, mkO_sub, mkO_slc, mkO_rev, mkO_lc, mkO_dc, mkO_fmt, mkO_call, mkO_bif, mkO_isi, mkO_met1, mkO_fst, mkO_heard, mkA_f, mkA_t, rd_val, rd_slot, rdVar_eq, putS_eq, bind1_nm, bind1_tp, binds_nil, binds_cons, flat_frz, flat_lst, flat_lst0, flat_lst1, flat_dic, cool_frz, d_frz, cool_lst, d_lst, cool_lst0, d_lst0, cool_dic, d_dic, gd_true, gd_false, bls_map, plain_str, plain_int, plain_bl, plain_non, plain_tup, plain_lst, plains_nil, plains_cons, isPy_str, isPy_int, isPy_bl, isPy_non, isPy_tup, isPy_lst, shal_str, shal_int, shal_bl, shal_non, eqv_str, eqv_int, eqv_bl, cmp_eq_str, cmp_ne_str, cmp_eq_int, cmp_ne_int, cmp_lt_int, cmp_le_int, cmp_gt_int, cmp_ge_int, bin_add_int, bin_sub_int, cmp_in_one, items_str, items_tup, items_lst, bif_all, bif_len_tup, bif_len_lst, bif_len_dic, bif_tuple_lst, bif_tuple_tup, bif_list_lst, bif_list_tup, truth_bl, for_nil, *])
theorem value_order_ok {v : D} (h : valOk v = true) : F_value_order [.ov (.frz v)] = .ok (.frz (vord v)) [none] := by
  have e : O_value_order 0 = F_is_whole := rfl
  have z3 : (3 : Nat) ≤ sizeLine := by decide
  unfold F_value_order
  rw [call1, B_value_order]
  rcases valOk_cases h with ⟨i, rfl, _⟩ | ⟨x, rfl, _⟩
  · have w := is_whole_ok (d := .int i) (by simp)
    simp only [isWhole] at w
    clear h
    walk_at "ev*"
    rfl
  · have w := is_whole_ok (d := .str x) (by simp)
    simp only [isWhole] at w
    clear h
    walk_at "ev*"
    rfl
theorem values_order_ok {vs : List D} (h : valsAll vs) (hn : vs.length ≤ 1000) : F_values_order [.ov (.frz (.tup vs))] = .ok (.frz (.tup (vs.map vord))) [none] := by
  have lt := lc_tuple (orc := O_values_order) (en := [.ov (.frz (.tup vs)), .no]) (elt := .call 8 (.cons (.var 1) .nil) [false] (List.range 1)) (it := .val (.var 0)) (j := 1) (ds := vs) (f := vord) (by walk_at "ev") rfl rfl
    (fun d hd => call_1 (d := d) (r := vord d) (by walk_at "ev") (value_order_ok (h d hd))) (by rw [size24]; omega)
  unfold F_values_order
  rw [call1, B_values_order]
  have en : [Sl.ov (.frz (.tup vs))] ++ List.replicate (2 - 1) Sl.no = [.ov (.frz (.tup vs)), .no] := rfl
  rw [en, evSs_cons, evS_ret, lt]
  walk_at "ev"
theorem unlike_loop : ∀ (l acc : List (List D)) (a x : Sl), anyS x → (∀ t ∈ l, valsAll t) → acc.length + l.length < sizeLine → ∃ x', anyS x' ∧
    forGo (bind1 (.nm 2)) (evSs O_are_unlike (.cons (.setk 1 (.var 2) (.lit (.bl true))) .nil)) (l.map .tup) [a, .ov (.dic ((kvt acc).map fun p => (p.1, .frz p.2))), x] = .ok .nx [a, .ov (.dic ((kvt (l.foldl dput acc)).map fun p => (p.1, .frz p.2))), x']
  | [], acc, a, x, hx, _, _ => ⟨x, hx, by simp only [List.map_nil, for_nil, List.foldl_nil]⟩
  | t :: l, acc, a, x, hx, h, hn => by
    rw [List.length_cons] at hn
    have dl : (dput acc t).length ≤ acc.length + 1 := by
      unfold dput
      split
      · exact Nat.le_succ _
      · rw [List.length_append]; exact Nat.le_refl _
    obtain ⟨x', r1, r2⟩ := unlike_loop l (dput acc t) a (.ov (.frz (.tup t))) (.inr ⟨_, rfl⟩) (fun u hu => h u (List.mem_cons_of_mem _ hu)) (by omega)
    refine ⟨x', r1, ?_⟩
    have sk := setk_tup (orc := O_are_unlike) (acc := acc) (t := t) (y := a) (r := [.ov (.frz (.tup t))]) (h t (List.mem_cons_self ..)) (by omega)
    rw [List.map_cons, List.foldl_cons, for_nx (en1 := [a, .ov (.dic ((kvt acc).map fun p => (p.1, .frz p.2))), .ov (.frz (.tup t))]) (en2 := [a, .ov (.dic ((kvt (dput acc t)).map fun p => (p.1, .frz p.2))), .ov (.frz (.tup t))]) (by rw [bind1_nm]; exact put_any rfl hx) ?_, r2]
    walk_at "ev"
    rw [sk]
    walk_at "ev"
theorem are_unlike_ok {l : List (List D)} (h : ∀ t ∈ l, valsAll t) (hn : l.length ≤ 1000) : F_are_unlike [.ov (.frz (.tup (l.map .tup)))] = .ok (.frz (.bl (decide ((l.foldl dput []).length = l.length)))) [none] := by
  obtain ⟨x', _, lp⟩ := unlike_loop l [] (.ov (.frz (.tup (l.map .tup)))) .no (.inl rfl) h (by rw [size24]; simp; omega)
  have e0 : (kvt []).map (fun p => (p.1, OV.frz p.2)) = [] := rfl
  rw [e0] at lp
  have ll : (kvt (l.foldl dput [])).length = (l.foldl dput []).length := kvt_len _
  have lm : (l.map D.tup).length = l.length := List.length_map ..
  have z0 : (0 : Nat) ≤ 15 := by decide
  have dd : decide (((l.foldl dput []).length : Int) = (l.length : Int)) = decide ((l.foldl dput []).length = l.length) := decide_eq_decide.mpr (by omega)
  unfold F_are_unlike
  rw [call1, B_are_unlike]
  generalize l.map D.tup = ts at *
  clear h hn e0
  walk_at "ev*"
theorem ascending_by_ok {l : List (List D)} (h : ∀ t ∈ l, valsAll t) (hl : ∀ t ∈ l, t.length ≤ 100) (hn : l.length ≤ 1000) (nd : l.Nodup) : F_ascending_by [.ov (.frz (.tup (l.map .tup)))] = .ok (.frz (.tup ((tsort l).map .tup))) [none] := by
  have d1 := dc_tups (orc := O_ascending_by) (it := .val (.var 0)) (en := [.ov (.frz (.tup (l.map .tup))), .no, .no, .no]) (en0 := [.ov (.frz (.tup (l.map .tup))), .no, .no, .no]) (i := 2) (x := .no) (l := l) (by walk_at "ev") rfl rfl h (by rw [size24]; omega)
  rw [dput_all h nd] at d1
  have l1 := lc_one0 (orc := O_ascending_by) (elt := .tup (.cons (.call 9 (.cons (.var 2) .nil) [false] (List.range 1)) (.cons (.var 2) .nil))) (it := .val (.var 1)) (i := 2) (x := .no) (ds := l.map .tup)
    (en := [.ov (.frz (.tup (l.map .tup))), .ov (.dic ((kvt l).map fun p => (p.1, .frz p.2))), .no, .no]) (en0 := [.ov (.frz (.tup (l.map .tup))), .ov (.frz (.dic (kvt l))), .no, .no])
    (f := fun d => match d with | .tup t => pairOf t | _ => .non) (by
      have k := kvt_keys l
      walk_at "ev"
      rw [k]
      walk_at "ev") rfl rfl (fun d hd => by
      obtain ⟨t, ht, rfl⟩ := List.mem_map.mp hd
      have vo := values_order_ok (h t ht) (by have := hl t ht; omega)
      have e9 : O_ascending_by 9 = F_values_order := rfl
      have z2 : (2 : Nat) ≤ sizeLine := by decide
      walk_at "ev*"
      rfl) (by rw [List.length_map, size24]; omega)
  have em : (l.map D.tup).map (fun d => match d with | .tup t => pairOf t | _ => .non) = l.map pairOf := by rw [List.map_map]; rfl
  rw [em] at l1
  have so : sortOk2 (l.map pairOf) = true := pairs_sortOk h
  have ln : (l.map pairOf).length ≤ sizeLine := by rw [List.length_map, size24]; omega
  have bs : opBif .sorted (.lst (l.map pairOf)) = some (.lst (((tsort l).map pairOf).map .frz)) := by
    simp only [opBif]
    rw [gd, if_pos (by rw [so, decide_eq_true ln, Bool.or_true]; rfl), sort_pairs h]
  have l2 := lc_pair0 (orc := O_ascending_by) (it := .val (.bif .sorted (.lc (.tup (.cons (.call 9 (.cons (.var 2) .nil) [false] (List.range 1)) (.cons (.var 2) .nil))) (.nm 2) (.val (.var 1)) .nil [2]))) (i := 3) (j := 2) (x := .no) (y := .no) (l := tsort l) (p := fun t => .tup (t.map vord)) (q := .tup)
    (en := [.ov (.frz (.tup (l.map .tup))), .ov (.dic ((kvt l).map fun p => (p.1, .frz p.2))), .no, .no]) (en0 := [.ov (.frz (.tup (l.map .tup))), .ov (.frz (.dic (kvt l))), .no, .no]) (by
      rw [evI_val, evE_bif, mkO_lc, l1]
      have e2 : (tsort l).map pairOf = (tsort l).map fun a => .tup [.tup (a.map vord), .tup a] := rfl
      rw [← e2]
      clear l1 em so ln d1
      walk_at "ev*") (by decide) rfl rfl rfl rfl (by rw [(tsort_perm l).length_eq, size24]; omega)
  unfold F_ascending_by
  rw [call1, B_ascending_by]
  rw [evSs_cons, evS_set]
  have en : [Sl.ov (.frz (.tup (l.map .tup)))] ++ List.replicate (4 - 1) Sl.no = [.ov (.frz (.tup (l.map .tup))), .no, .no, .no] := rfl
  rw [en, d1]
  simp only [bnd_ok, putS_eq, List.getElem?_cons_succ, List.getElem?_cons_zero, List.set_cons_succ, List.set_cons_zero]
  rw [evSs_cons, evS_ret, evE_bif, mkO_lc, l2]
  walk_at "ev"
end K02

namespace K02
open PySem PM TL NumText
local macro_rules | `(tactic| walk_at "ev") => `(tactic| simp only [List.getElem?_cons_zero, List.getElem?_cons_succ, List.getElem?_nil, List.set_cons_zero, List.set_cons_succ, List.replicate_succ, List.replicate_zero, List.cons_append, List.nil_append, Option.map_some, Option.map_none, Option.bind_some, if_true, if_false, ite_true, ite_false, Bool.not_true, Bool.not_false, Bool.false_eq_true, Bool.true_and, Bool.and_true, Bool.false_and, Bool.and_false, Bool.true_or, Bool.or_true, Bool.false_or, Bool.or_false, reduceIte, List.length_cons, List.length_nil, Nat.reduceAdd, Nat.reduceSub, Nat.reduceLeDiff, Nat.reduceLT, Int.reduceAdd, Int.reduceSub, Int.reduceNeg, Int.reduceLT, Int.reduceLE, Int.reduceEq, decide_true, decide_false, List.map_cons, List.map_nil, Bool.and_self, Bool.not_not, List.range_one, eq_self, PM.isInst, List.foldl_nil, PM.isIn, PM.evE_call, Option.map_none, bnd_ok, bnd_exc, of_some, nx_ok, evE_lit, evE_var, evE_tup, evE_lst, evE_bin, evE_cmp, evE_chn, evE_and, evE_or, evE_not, evE_ite, evE_sub, evE_slc, evE_rev, evE_bif, evE_isi, evE_met1, evE_fmt, evE_dict, evE_heard, evT_and, evT_or, evT_not, evT_val, evL_nil, evL_cons, evKV_nil, evKV_cons, evA_nil, evA_cons, evCs_nil, evCs_one, evI_val, evI_enum, evI_zip, evI_range, evS_set, evS_asg, evS_setk, evS_expr, evS_ret, evS_retN, evS_if, evS_for, evS_raise, evS_brk, evS_cont, evS_pass, evSs_nil, evSs_cons, range_0, permute_0, permuteR_0, permute_1, permuteR_1, range_2, permute_2, permuteR_2, range_3, permute_3, permuteR_3, range_4, permute_4, permuteR_4, range_5, permute_5, permuteR_5, takeA_nil, takeA_val, takeA_slot, backA_nil, backA_val, backA_slot, backA_no, outs_nil, outs_lent, outs_ov, mkO_nm, mkO_lit, mkO_tup, mkO_lst, mkO_dict, mkO_bin, mkO_cmp, mkO_chn, mkO_and, mkO_or, mkO_not, mkO_ite, mkO_sub, mkO_slc, mkO_rev, mkO_lc, mkO_dc, mkO_fmt, mkO_call, mkO_bif, mkO_isi, mkO_met1, mkO_fst, mkO_heard, mkA_f, mkA_t, rd_val, rd_slot, rdVar_eq, putS_eq, bind1_nm, bind1_tp, binds_nil, binds_cons, flat_frz, flat_lst, flat_lst0, flat_lst1, flat_dic, cool_frz, d_frz, cool_lst, d_lst, cool_lst0, d_lst0, cool_dic, d_dic, gd_true, gd_false, bls_map, plain_str, plain_int, plain_bl, plain_non, plain_tup, plain_lst, plains_nil, plains_cons, isPy_str, isPy_int, isPy_bl, isPy_non, isPy_tup, isPy_lst, shal_str, shal_int, shal_bl, shal_non, eqv_str, eqv_int, eqv_bl, cmp_eq_str, cmp_ne_str, cmp_eq_int, cmp_ne_int, cmp_lt_int, cmp_le_int, cmp_gt_int, cmp_ge_int, bin_add_int, bin_sub_int, cmp_in_one, items_str, items_tup, items_lst, bif_all, bif_len_tup, bif_len_lst, bif_len_dic, bif_tuple_lst, bif_tuple_tup, bif_list_lst, bif_list_tup, truth_bl, for_nil])
local macro_rules | `(tactic| walk_at "ev*") => `(tactic| simp only [List.getElem?_cons_zero, List.getElem?_cons_succ, List.getElem?_nil, List.set_cons_zero, List.set_cons_succ, List.replicate_succ, List.replicate_zero, List.cons_append, List.nil_append, Option.map_some, Option.map_none, Option.bind_some, if_true, if_false, ite_true, ite_false, Bool.not_true, Bool.not_false, Bool.false_eq_true, Bool.true_and, Bool.and_true, Bool.false_and, Bool.and_false, Bool.true_or, Bool.or_true, Bool.false_or, Bool.or_false, reduceIte, List.length_cons, List.length_nil, Nat.reduceAdd, Nat.reduceSub, Nat.reduceLeDiff, Nat.reduceLT, Int.reduceAdd, Int.reduceSub, Int.reduceNeg, Int.reduceLT, Int.reduceLE, Int.reduceEq, decide_true, decide_false, List.map_cons, List.map_nil, Bool.and_self, Bool.not_not, List.range_one, eq_self, PM.isInst, List.foldl_nil, PM.isIn, PM.evE_call, Option.map_none, bnd_ok, bnd_exc, of_some, nx_ok, evE_lit, evE_var, evE_tup, evE_lst, evE_bin, evE_cmp, evE_chn, evE_and, evE_or, evE_not, evE_ite, evE_sub, evE_slc, evE_rev, evE_bif, evE_isi, evE_met1, evE_fmt, evE_dict, evE_heard, evT_and, evT_or, evT_not, evT_val, evL_nil, evL_cons, evKV_nil, evKV_cons, evA_nil, evA_cons, evCs_nil, evCs_one, evI_val, evI_enum, evI_zip, evI_range, evS_set, evS_asg, evS_setk, evS_expr, evS_ret, evS_retN, evS_if, evS_for, evS_raise, evS_brk, evS_cont, evS_pass, evSs_nil, evSs_cons, range_0, permute_0, permuteR_0, permute_1, permuteR_1, range_2, permute_2, permuteR_2, range_3, permute_3, permuteR_3, range_4, permute_4, permuteR_4, range_5, permute_5, permuteR_5, takeA_nil, takeA_val, takeA_slot, backA_nil, backA_val, backA_slot, backA_no, outs_nil, outs_lent, outs_ov, mkO_nm, mkO_lit, mkO_tup, mkO_lst, mkO_dict, mkO_bin, mkO_cmp, mkO_chn, mkO_and, mkO_or, mkO_not, mkO_ite, mkO_sub, mkO_slc, mkO_rev, mkO_lc, mkO_dc, mkO_fmt, mkO_call, mkO_bif, mkO_isi, mkO_met1, mkO_fst, mkO_heard, mkA_f, mkA_t, rd_val, rd_slot, rdVar_eq, putS_eq, bind1_nm, bind1_tp, binds_nil, binds_cons, flat_frz, flat_lst, flat_lst0, flat_lst1, flat_dic, cool_frz, d_frz, cool_lst, d_lst, cool_lst0, d_lst0, cool_dic, d_dic, gd_true, gd_false, bls_map, plain_str, plain_int, plain_bl, plain_non, plain_tup, plain_lst, plains_nil, plains_cons, isPy_str, isPy_int, isPy_bl, isPy_non, isPy_tup, isPy_lst, shal_str, shal_int, shal_bl, shal_non, eqv_str, eqv_int, eqv_bl, cmp_eq_str, cmp_ne_str, cmp_eq_int, cmp_ne_int, cmp_lt_int, cmp_le_int, cmp_gt_int, cmp_ge_int, bin_add_int, bin_sub_int, cmp_in_one, items_str, items_tup, items_lst, bif_all, bif_len_tup, bif_len_lst, bif_len_dic, bif_tuple_lst, bif_tuple_tup, bif_list_lst, bif_list_tup, truth_bl, for_nil, *])
theorem valsOk_tup {t : List D} (h : valsAll t) : valsOk (.tup t) = true := List.all_eq_true.mpr h
theorem vals_py {t : List D} (h : valsAll t) : (D.tup t).isPy = true := by
  rw [isPy_tup]
  exact List.all_eq_true.mpr fun v hv => (val_plain (h v hv)).2.2.2
theorem val_fits {v : D} (h : valOk v = true) : fits v = true := by
  rcases valOk_cases h with ⟨i, rfl, _⟩ | ⟨x, rfl, hx⟩
  · rfl
  · have := (lettersOk_str.mp hx).2.1
    exact fits_str (by rw [size24]; omega)
theorem vals_fits {t : List D} (h : valsAll t) (hn : t.length ≤ 1000) : fitsAll (.tup t) := ⟨by rw [size24]; omega, fun v hv => val_fits (h v hv)⟩
theorem asc_items {ds : List D} (hn : ds.length ≤ 1001) (hp : ∀ d ∈ ds, d.isPy = true ∧ fitsAll d) :
    evE O_ascending (.bif .all (.lc (.call 7 (.cons (.var 1) .nil) [false] (List.range 1)) (.nm 1) (.val (.var 0)) .nil [1])) [.ov (.frz (.tup ds)), .no] = .ok (.frz (.bl (ds.all valsOk))) [.ov (.frz (.tup ds)), .no] :=
  all_items (orc := O_ascending) (i := 0) (j := 1) (k := 7) rfl rfl rfl (by rw [size24]; omega) fun d hd => values_ok_ok (hp d hd).1 (hp d hd).2
theorem tups_py {l : List (List D)} (h : ∀ t ∈ l, valsAll t) (hl : ∀ t ∈ l, t.length ≤ 100) : ∀ d ∈ l.map D.tup, d.isPy = true ∧ fitsAll d := fun d hd => by
  obtain ⟨t, ht, rfl⟩ := List.mem_map.mp hd
  exact ⟨vals_py (h t ht), vals_fits (h t ht) (by have := hl t ht; omega)⟩
theorem tups_all {l : List (List D)} (h : ∀ t ∈ l, valsAll t) : (l.map D.tup).all valsOk = true := by
  rw [List.all_map]
  exact List.all_eq_true.mpr fun t ht => valsOk_tup (h t ht)
theorem tups_isPy {l : List (List D)} (h : ∀ t ∈ l, valsAll t) : (l.map D.tup).all D.isPy = true := by
  rw [List.all_map]
  exact List.all_eq_true.mpr fun t ht => vals_py (h t ht)
theorem ascending_ok {l : List (List D)} (h : ∀ t ∈ l, valsAll t) (hl : ∀ t ∈ l, t.length ≤ 100) (hn : l.length ≤ 1000) (nd : l.Nodup) : F_ascending [.ov (.frz (.tup (l.map .tup)))] = .ok (.frz (.tup ((tsort l).map .tup))) [none] := by
  have key := asc_items (by rw [List.length_map]; omega) (tups_py h hl)
  rw [tups_all h] at key
  simp only [evE_bif, mkO_lc, List.range_one] at key
  have is := tups_isPy h
  have u := are_unlike_ok h hn
  rw [dput_all h nd, decide_eq_true rfl] at u
  have b := ascending_by_ok h hl hn nd
  have e2 : O_ascending 2 = F_are_unlike := rfl
  have e10 : O_ascending 10 = F_ascending_by := rfl
  unfold F_ascending
  rw [call1, B_ascending]
  generalize l.map D.tup = ts at *
  clear h hl hn nd
  walk_at "ev*"
theorem ascending_no1 {d : D} (h : d.isPy = true) (nt : isIn .tuple d = false) : F_ascending [.ov (.frz d)] = .exc 0 d [none] := by
  unfold F_ascending
  rw [call1, B_ascending]
  cases d <;> first | (simp [D.isPy] at h; done) | (simp [isIn] at nt; done) | walk_at "ev*"
theorem ascending_no2 {ds : List D} (hn : ds.length ≤ 1001) (hp : ∀ d ∈ ds, d.isPy = true ∧ fitsAll d) (ha : ds.all valsOk = false) : F_ascending [.ov (.frz (.tup ds))] = .exc 0 (.tup ds) [none] := by
  have key := asc_items hn hp
  rw [ha] at key
  simp only [evE_bif, mkO_lc, List.range_one] at key
  have is : ds.all D.isPy = true := List.all_eq_true.mpr fun d hd => (hp d hd).1
  unfold F_ascending
  rw [call1, B_ascending]
  clear hn hp ha
  walk_at "ev*"
theorem ascending_no3 {l : List (List D)} {t : List D} (h : ∀ t ∈ l, valsAll t) (hl : ∀ t ∈ l, t.length ≤ 100) (hn : l.length ≤ 999) (nd : l.Nodup) (ht : t ∈ l) : F_ascending [.ov (.frz (.tup ((l ++ [t]).map .tup)))] = .exc 0 (.tup ((l ++ [t]).map .tup)) [none] := by
  have h' : ∀ u ∈ l ++ [t], valsAll u := fun u hu => by
    rcases List.mem_append.mp hu with hu | hu
    · exact h u hu
    · rw [List.mem_singleton.mp hu]; exact h t ht
  have hl' : ∀ u ∈ l ++ [t], u.length ≤ 100 := fun u hu => by
    rcases List.mem_append.mp hu with hu | hu
    · exact hl u hu
    · rw [List.mem_singleton.mp hu]; exact hl t ht
  have key := asc_items (by rw [List.length_map, List.length_append, List.length_singleton]; omega) (tups_py h' hl')
  rw [tups_all h'] at key
  simp only [evE_bif, mkO_lc, List.range_one] at key
  have is := tups_isPy h'
  have u := are_unlike_ok h' (by rw [List.length_append, List.length_singleton]; omega)
  rw [List.foldl_append, dput_all h nd, List.foldl_cons, List.foldl_nil, dput_old (h t ht) ht, decide_eq_false (show ¬ l.length = (l ++ [t]).length by rw [List.length_append, List.length_singleton]; omega)] at u
  have e2 : O_ascending 2 = F_are_unlike := rfl
  unfold F_ascending
  rw [call1, B_ascending]
  generalize (l ++ [t]).map D.tup = ts at *
  clear h hl hn nd h' hl' ht
  walk_at "ev*"

/-! ## the law's own turn -/
def lessBody : Ss := (.cons (.if_ (.val (.cmp .ne (.bif .repr (.var 2)) (.bif .repr (.var 3)))) (.cons (.if_ (.val (.cmp .ne (.isi (.var 2) .str) (.isi (.var 3) .str))) (.cons (.ret (.isi (.var 3) .str)) .nil) .nil) (.cons (.ret (.cmp .lt (.var 2) (.var 3))) .nil)) .nil) .nil)
theorem val_shows {v : D} (h : valOk v = true) : v.shows = true := shows_of (n := 0) (tame_val h).1 (by decide) (by have := (tame_val (n := 0) h).2; rw [size24]; omega)
theorem ne_bl {x y : Bool} : opCmp .ne (.bl x) (.bl y) = some (!(x == y)) := by simp [opCmp, eqOk]
theorem less_turn {v w : D} {a b : Sl} (hv : valOk v = true) (hw : valOk w = true) : evSs O__law_less lessBody [a, b, .ov (.frz v), .ov (.frz w)] = (if v.py.shown = w.py.shown then .ok .nx [a, b, .ov (.frz v), .ov (.frz w)] else .ok (.ret (.frz (.bl (vlt v w)))) [a, b, .ov (.frz v), .ov (.frz w)]) := by
  have r1 := repr_of (val_shows hv)
  have r2 := repr_of (val_shows hw)
  have i1 := isInst_of (c := .str) (val_plain hv).2.2.2
  have i2 := isInst_of (c := .str) (val_plain hw).2.2.2
  have ns := @ne_bl
  unfold lessBody
  by_cases e : v.py.shown = w.py.shown
  · rw [if_pos e]
    clear hv hw
    rw [e] at r1
    generalize w.py.shown = z at *
    clear e
    walk_at "ev*"
  · rw [if_neg e]
    rcases valOk_cases hv with ⟨i, rfl, _⟩ | ⟨x, rfl, _⟩ <;> rcases valOk_cases hw with ⟨j, rfl, _⟩ | ⟨y, rfl, _⟩
    · have el : opCmp .lt (.int i) (.int j) = some (vlt (.int i) (.int j)) := rfl
      clear hv hw
      generalize (D.int i).py.shown = z1 at *
      generalize (D.int j).py.shown = z2 at *
      walk_at "ev*"
      rfl
    · clear hv hw
      generalize (D.int i).py.shown = z1 at *
      generalize (D.str y).py.shown = z2 at *
      walk_at "ev*"
      rfl
    · clear hv hw
      generalize (D.str x).py.shown = z1 at *
      generalize (D.int j).py.shown = z2 at *
      walk_at "ev*"
      rfl
    · have el : opCmp .lt (.str x) (.str y) = some (vlt (.str x) (.str y)) := rfl
      clear hv hw
      generalize (D.str x).py.shown = z1 at *
      generalize (D.str y).py.shown = z2 at *
      walk_at "ev*"
      rfl
theorem less_loop : ∀ (vs ws : List D) (a b x y : Sl), valsAll vs → valsAll ws → anyS x → anyS y → ∃ x' y',
    (forGo (bind1 (.tp [.nm 2, .nm 3])) (evSs O__law_less lessBody) ((vs.zip ws).map fun p => .tup [p.1, p.2]) [a, b, x, y] = .ok .nx [a, b, x', y'] ∧ tlt vs ws = decide (vs.length < ws.length)) ∨
    forGo (bind1 (.tp [.nm 2, .nm 3])) (evSs O__law_less lessBody) ((vs.zip ws).map fun p => .tup [p.1, p.2]) [a, b, x, y] = .ok (.ret (.frz (.bl (tlt vs ws)))) [a, b, x', y']
  | [], [], a, b, x, y, _, _, _, _ => ⟨x, y, .inl ⟨rfl, tlt_nil_nil⟩⟩
  | [], w :: ws, a, b, x, y, _, _, _, _ => ⟨x, y, .inl ⟨rfl, by rw [tlt_nil_cons]; rfl⟩⟩
  | v :: vs, [], a, b, x, y, _, _, _, _ => ⟨x, y, .inl ⟨rfl, by rw [tlt_cons_nil]; rfl⟩⟩
  | v :: vs, w :: ws, a, b, x, y, hv, hw, hx, hy => by
    have lt := less_turn (a := a) (b := b) hv.head hw.head
    have bd : bind1 (.tp [.nm 2, .nm 3]) (.tup [v, w]) [a, b, x, y] = some [a, b, .ov (.frz v), .ov (.frz w)] := by
      rw [bind1_tp, binds_cons, bind1_nm, put_any (s := x) rfl hx]
      show binds [.nm 3] [w] [a, b, .ov (.frz v), y] = _
      rw [binds_cons, bind1_nm, put_any (s := y) rfl hy]
      rfl
    rw [List.zip_cons_cons, List.map_cons]
    by_cases e : v.py.shown = w.py.shown
    · rw [if_pos e] at lt
      obtain ⟨x', y', r⟩ := less_loop vs ws a b (.ov (.frz v)) (.ov (.frz w)) hv.tail hw.tail (.inr ⟨_, rfl⟩) (.inr ⟨_, rfl⟩)
      refine ⟨x', y', ?_⟩
      have ev := shown_inj hv.head hw.head e
      subst ev
      rw [for_nx bd lt, tlt_same]
      simpa only [List.length_cons, Nat.add_lt_add_iff_right] using r
    · rw [if_neg e] at lt
      refine ⟨.ov (.frz v), .ov (.frz w), .inr ?_⟩
      rw [for_ret bd lt, tlt_diff hv.head hw.head (fun z => e (by rw [z]))]
theorem law_less_ok {vs ws : List D} (hv : valsAll vs) (hw : valsAll ws) : F__law_less [.ov (.frz (.tup vs)), .ov (.frz (.tup ws))] = .ok (.frz (.bl (tlt vs ws))) [none, none] := by
  obtain ⟨x', y', r⟩ := less_loop vs ws (.ov (.frz (.tup vs))) (.ov (.frz (.tup ws))) .no .no hv hw (.inl rfl) (.inl rfl)
  unfold lessBody at r
  unfold F__law_less
  rw [call2, B__law_less]
  rcases r with ⟨r, e⟩ | r
  · have c : decide ((vs.length : Int) < (ws.length : Int)) = decide (vs.length < ws.length) := decide_eq_decide.mpr (by omega)
    rw [e]
    clear hv hw e
    walk_at "ev*"
  · clear hv hw
    walk_at "ev*"
def sortBody : Ss := (.cons (.set 3 (.lc (.var 4) (.nm 4) (.val (.var 1)) (.cons (.val (.call 28 (.cons (.var 4) (.cons (.var 2) .nil)) [false, false] (List.range 2))) .nil) [4])) (.cons (.set 1 (.bin .add (.bin .add (.var 3) (.lst (.cons (.var 2) .nil))) (.slc (.var 1) (.bif .len (.var 3)) (.lit .non)))) .nil))
theorem cut_drop {ds : List D} {n : Nat} (h : n ≤ ds.length) : (D.lst ds).slc (.int (n : Int)) .non = some (.lst ((ds.drop n).map .frz)) := by
  simp only [D.slc, D.bnd, cutL, HT.sIx]
  rw [if_neg (by omega), show ((n : Int)).toNat = n from rfl, Nat.min_eq_left h, List.take_of_length_le (by rw [List.length_drop]; omega)]
theorem filter_tups (l : List (List D)) (t : List D) : ((l.map D.tup).filter fun d => match d with | .tup u => tlt u t | _ => false) = (l.filter fun u => tlt u t).map .tup := by
  rw [List.filter_map]; rfl
theorem sort_turn {l : List (List D)} {t : List D} {a x y : Sl} (h : ∀ u ∈ l, valsAll u) (ht : valsAll t) (hn : l.length ≤ 1000) (hy : anyS y) :
    ∃ y', anyS y' ∧ evSs O__law_sorted sortBody [a, .ov (.lst ((l.map .tup).map .frz)), .ov (.frz (.tup t)), y, .no] = .ok .nx [a, .ov (.lst (((tput l t).map .tup).map .frz)), .ov (.frz (.tup t)), y', .no] := by
  have e28 : O__law_sorted 28 = F__law_less := rfl
  have lc : evE O__law_sorted (.lc (.var 4) (.nm 4) (.val (.var 1)) (.cons (.val (.call 28 (.cons (.var 4) (.cons (.var 2) .nil)) [false, false] (List.range 2))) .nil) [4]) [a, .ov (.lst ((l.map .tup).map .frz)), .ov (.frz (.tup t)), y, .no] =
      .ok (.lst (((l.filter fun u => tlt u t).map .tup).map .frz)) [a, .ov (.frz (.lst (l.map .tup))), .ov (.frz (.tup t)), y, .no] := by
    rw [lc_from (en0 := [a, .ov (.frz (.lst (l.map .tup))), .ov (.frz (.tup t)), y, .no]) (ds := l.map .tup) (by walk_at "ev") evI_src]
    have q := lc_one (orc := O__law_sorted) (elt := .var 4) (it := srcOf (l.map .tup)) (cs := (.cons (.val (.call 28 (.cons (.var 4) (.cons (.var 2) .nil)) [false, false] (List.range 2))) .nil)) (en := [a, .ov (.frz (.lst (l.map .tup))), .ov (.frz (.tup t)), y, .no]) (i := 4) (x := .no) (ds := l.map .tup)
      (g := fun d => match d with | .tup u => tlt u t | _ => false) (f := id) evI_src rfl rfl (fun d hd => by
        obtain ⟨u, hu, rfl⟩ := List.mem_map.mp hd
        have ls := law_less_ok (h u hu) ht
        clear h ht hy
        walk_at "ev*") (fun d hd _ => ⟨.frz d, by walk_at "ev", cool_frz, d_frz⟩) (by rw [List.length_map, size24]; omega)
    rw [q, filter_tups, List.map_id]
  have lf : (l.filter fun u => tlt u t).length ≤ l.length := List.length_filter_le ..
  have cd := cut_drop (ds := l.map D.tup) (n := (l.filter fun u => tlt u t).length) (by rw [List.length_map]; exact lf)
  have ll : ((l.filter fun u => tlt u t).map D.tup).length = (l.filter fun u => tlt u t).length := List.length_map ..
  have a1 : opBin .add (.lst ((l.filter fun u => tlt u t).map D.tup)) (.lst [D.tup t]) = some (.lst (((l.filter fun u => tlt u t).map D.tup ++ [D.tup t]).map .frz)) := by
    simp only [opBin]
    rw [gd, if_pos (by rw [ll, List.length_singleton, size24]; omega)]
  have a2 : opBin .add (.lst ((l.filter fun u => tlt u t).map D.tup ++ [D.tup t])) (.lst ((l.map D.tup).drop (l.filter fun u => tlt u t).length)) = some (.lst (((tput l t).map D.tup).map .frz)) := by
    have em : (tput l t).map D.tup = ((l.filter fun u => tlt u t).map D.tup ++ [D.tup t]) ++ (l.map D.tup).drop (l.filter fun u => tlt u t).length := by
      unfold tput
      simp only [List.map_append, List.map_drop, List.map_cons, List.map_nil]
    simp only [opBin]
    rw [gd, if_pos (by rw [List.length_append, ll, List.length_singleton, List.length_drop, List.length_map, size24]; omega), em]
  refine ⟨.ov (.lst (((l.filter fun u => tlt u t).map .tup).map .frz)), .inr ⟨_, rfl⟩, ?_⟩
  have pa := fun o => put_any (i := 3) (o := o) (en := [a, .ov (.frz (.lst (l.map .tup))), .ov (.frz (.tup t)), y, .no]) (s := y) rfl hy
  unfold sortBody
  rw [evSs_cons, evS_set, lc]
  simp only [bnd_ok]
  rw [pa]
  have z1 : (1 : Nat) ≤ sizeLine := by decide
  rw [← ll] at cd
  generalize ((l.filter fun u => tlt u t).map D.tup) = fs at *
  rw [show (l.filter fun u => tlt u t).length = fs.length from ll.symm] at a2
  generalize (fs ++ [D.tup t]) = fs1 at *
  generalize ((l.map D.tup).drop fs.length) = fs2 at *
  generalize (tput l t).map D.tup = res at *
  generalize l.map D.tup = ls at *
  clear h ht hy lf ll lc pa
  walk_at "ev*"
theorem tput_len (l : List (List D)) (t : List D) : (tput l t).length ≤ l.length + 1 := by
  unfold tput
  have : (l.filter fun u => tlt u t).length ≤ l.length := List.length_filter_le ..
  simp only [List.length_append, List.length_singleton, List.length_drop]
  omega
theorem tput_mem {l : List (List D)} {t u : List D} (h : u ∈ tput l t) : u ∈ l ∨ u = t := by
  unfold tput at h
  rcases List.mem_append.mp h with h | h
  · rcases List.mem_append.mp h with h | h
    · exact .inl (List.mem_filter.mp h).1
    · exact .inr (List.mem_singleton.mp h)
  · exact .inl (List.mem_of_mem_drop h)
theorem sort_loop : ∀ (l acc : List (List D)) (a x y : Sl), (∀ t ∈ l, valsAll t) → (∀ t ∈ acc, valsAll t) → acc.length + l.length ≤ 1000 → anyS x → anyS y → ∃ x' y', anyS x' ∧ anyS y' ∧
    forGo (bind1 (.nm 2)) (evSs O__law_sorted sortBody) (l.map .tup) [a, .ov (.lst ((acc.map .tup).map .frz)), x, y, .no] = .ok .nx [a, .ov (.lst (((l.foldl tput acc).map .tup).map .frz)), x', y', .no]
  | [], acc, a, x, y, _, _, _, hx, hy => ⟨x, y, hx, hy, by simp only [List.map_nil, for_nil, List.foldl_nil]⟩
  | t :: l, acc, a, x, y, h1, h2, hn, hx, hy => by
    rw [List.length_cons] at hn
    have ht := h1 t (List.mem_cons_self ..)
    obtain ⟨y1, hy1, s1⟩ := sort_turn (a := a) (x := x) (l := acc) (t := t) h2 ht (by omega) hy
    obtain ⟨x', y', r1, r2, r3⟩ := sort_loop l (tput acc t) a (.ov (.frz (.tup t))) y1 (fun u hu => h1 u (List.mem_cons_of_mem _ hu)) (fun u hu => by
      rcases tput_mem hu with hu | rfl
      · exact h2 u hu
      · exact ht) (by have := tput_len acc t; omega) (.inr ⟨_, rfl⟩) hy1
    refine ⟨x', y', r1, r2, ?_⟩
    rw [List.map_cons, for_nx (by rw [bind1_nm]; exact put_any rfl hx) s1, r3, List.foldl_cons]
theorem law_sorted_ok {l : List (List D)} (h : ∀ t ∈ l, valsAll t) (hn : l.length ≤ 1000) : F__law_sorted [.ov (.frz (.tup (l.map .tup)))] = .ok (.frz (.tup ((tsort l).map .tup))) [none] := by
  obtain ⟨x', y', _, _, lp⟩ := sort_loop l [] (.ov (.frz (.tup (l.map .tup)))) .no .no h (fun _ z => by cases z) (by simpa using hn) (.inl rfl) (.inl rfl)
  rw [insert_eq h] at lp
  unfold sortBody at lp
  have z0 : (0 : Nat) ≤ sizeLine := by decide
  simp only [List.range_one, range_2, List.map_nil] at lp
  unfold F__law_sorted
  rw [call1, B__law_sorted]
  generalize (tsort l).map D.tup = ts at *
  generalize l.map D.tup = ls at *
  clear h hn
  walk_at "ev*"
end K02

namespace K02
open PySem PM TL NumText
local macro_rules | `(tactic| walk_at "ev") => `(tactic| simp only [List.getElem?_cons_zero, List.getElem?_cons_succ, List.getElem?_nil, List.set_cons_zero, List.set_cons_succ, List.replicate_succ, List.replicate_zero, List.cons_append, List.nil_append, Option.map_some, Option.map_none, Option.bind_some, if_true, if_false, ite_true, ite_false, Bool.not_true, Bool.not_false, Bool.false_eq_true, Bool.true_and, Bool.and_true, Bool.false_and, Bool.and_false, Bool.true_or, Bool.or_true, Bool.false_or, Bool.or_false, reduceIte, List.length_cons, List.length_nil, Nat.reduceAdd, Nat.reduceSub, Nat.reduceLeDiff, Nat.reduceLT, Int.reduceAdd, Int.reduceSub, Int.reduceNeg, Int.reduceLT, Int.reduceLE, Int.reduceEq, decide_true, decide_false, List.map_cons, List.map_nil, Bool.and_self, Bool.not_not, List.range_one, eq_self, PM.isInst, List.foldl_nil, PM.isIn, PM.evE_call, Option.map_none, bnd_ok, bnd_exc, of_some, nx_ok, evE_lit, evE_var, evE_tup, evE_lst, evE_bin, evE_cmp, evE_chn, evE_and, evE_or, evE_not, evE_ite, evE_sub, evE_slc, evE_rev, evE_bif, evE_isi, evE_met1, evE_fmt, evE_dict, evE_heard, evT_and, evT_or, evT_not, evT_val, evL_nil, evL_cons, evKV_nil, evKV_cons, evA_nil, evA_cons, evCs_nil, evCs_one, evI_val, evI_enum, evI_zip, evI_range, evS_set, evS_asg, evS_setk, evS_expr, evS_ret, evS_retN, evS_if, evS_for, evS_raise, evS_brk, evS_cont, evS_pass, evSs_nil, evSs_cons, range_0, permute_0, permuteR_0, permute_1, permuteR_1, range_2, permute_2, permuteR_2, range_3, permute_3, permuteR_3, range_4, permute_4, permuteR_4, range_5, permute_5, permuteR_5, takeA_nil, takeA_val, takeA_slot, backA_nil, backA_val, backA_slot, backA_no, outs_nil, outs_lent, outs_ov, mkO_nm, mkO_lit, mkO_tup, mkO_lst, mkO_dict, mkO_bin, mkO_cmp, mkO_chn, mkO_and, mkO_or, mkO_not, mkO_ite, mkO_sub, mkO_slc, mkO_rev, mkO_lc, mkO_dc, mkO_fmt, mkO_call, mkO_bif, mkO_isi, mkO_met1, mkO_fst, mkO_heard, mkA_f, mkA_t, rd_val, rd_slot, rdVar_eq, putS_eq, bind1_nm, bind1_tp, binds_nil, binds_cons, flat_frz, flat_lst, flat_lst0, flat_lst1, flat_dic, cool_frz, d_frz, cool_lst, d_lst, cool_lst0, d_lst0, cool_dic, d_dic, gd_true, gd_false, bls_map, plain_str, plain_int, plain_bl, plain_non, plain_tup, plain_lst, plains_nil, plains_cons, isPy_str, isPy_int, isPy_bl, isPy_non, isPy_tup, isPy_lst, shal_str, shal_int, shal_bl, shal_non, eqv_str, eqv_int, eqv_bl, cmp_eq_str, cmp_ne_str, cmp_eq_int, cmp_ne_int, cmp_lt_int, cmp_le_int, cmp_gt_int, cmp_ge_int, bin_add_int, bin_sub_int, cmp_in_one, items_str, items_tup, items_lst, bif_all, bif_len_tup, bif_len_lst, bif_len_dic, bif_tuple_lst, bif_tuple_tup, bif_list_lst, bif_list_tup, truth_bl, for_nil])
local macro_rules | `(tactic| walk_at "ev*") => `(tactic| simp only [List.getElem?_cons_zero, List.getElem?_cons_succ, List.getElem?_nil, List.set_cons_zero, List.set_cons_succ, List.replicate_succ, List.replicate_zero, List.cons_append, List.nil_append, Option.map_some, Option.map_none, Option.bind_some, if_true, if_false, ite_true, ite_false, Bool.not_true, Bool.not_false, Bool.false_eq_true, Bool.true_and, Bool.and_true, Bool.false_and, Bool.and_false, Bool.true_or, Bool.or_true, Bool.false_or, Bool.or_false, reduceIte, List.length_cons, List.length_nil, Nat.reduceAdd, Nat.reduceSub, Nat.reduceLeDiff, Nat.reduceLT, Int.reduceAdd, Int.reduceSub, Int.reduceNeg, Int.reduceLT, Int.reduceLE, Int.reduceEq, decide_true, decide_false, List.map_cons, List.map_nil, Bool.and_self, Bool.not_not, List.range_one, eq_self, PM.isInst, List.foldl_nil, PM.isIn, PM.evE_call, Option.map_none, bnd_ok, bnd_exc, of_some, nx_ok, evE_lit, evE_var, evE_tup, evE_lst, evE_bin, evE_cmp, evE_chn, evE_and, evE_or, evE_not, evE_ite, evE_sub, evE_slc, evE_rev, evE_bif, evE_isi, evE_met1, evE_fmt, evE_dict, evE_heard, evT_and, evT_or, evT_not, evT_val, evL_nil, evL_cons, evKV_nil, evKV_cons, evA_nil, evA_cons, evCs_nil, evCs_one, evI_val, evI_enum, evI_zip, evI_range, evS_set, evS_asg, evS_setk, evS_expr, evS_ret, evS_retN, evS_if, evS_for, evS_raise, evS_brk, evS_cont, evS_pass, evSs_nil, evSs_cons, range_0, permute_0, permuteR_0, permute_1, permuteR_1, range_2, permute_2, permuteR_2, range_3, permute_3, permuteR_3, range_4, permute_4, permuteR_4, range_5, permute_5, permuteR_5, takeA_nil, takeA_val, takeA_slot, backA_nil, backA_val, backA_slot, backA_no, outs_nil, outs_lent, outs_ov, mkO_nm, mkO_lit, mkO_tup, mkO_lst, mkO_dict, mkO_bin, mkO_cmp, mkO_chn, mkO_and, mkO_or, mkO_not, mkO_ite, mkO_sub, mkO_slc, mkO_rev, mkO_lc, mkO_dc, mkO_fmt, mkO_call, mkO_bif, mkO_isi, mkO_met1, mkO_fst, mkO_heard, mkA_f, mkA_t, rd_val, rd_slot, rdVar_eq, putS_eq, bind1_nm, bind1_tp, binds_nil, binds_cons, flat_frz, flat_lst, flat_lst0, flat_lst1, flat_dic, cool_frz, d_frz, cool_lst, d_lst, cool_lst0, d_lst0, cool_dic, d_dic, gd_true, gd_false, bls_map, plain_str, plain_int, plain_bl, plain_non, plain_tup, plain_lst, plains_nil, plains_cons, isPy_str, isPy_int, isPy_bl, isPy_non, isPy_tup, isPy_lst, shal_str, shal_int, shal_bl, shal_non, eqv_str, eqv_int, eqv_bl, cmp_eq_str, cmp_ne_str, cmp_eq_int, cmp_ne_int, cmp_lt_int, cmp_le_int, cmp_gt_int, cmp_ge_int, bin_add_int, bin_sub_int, cmp_in_one, items_str, items_tup, items_lst, bif_all, bif_len_tup, bif_len_lst, bif_len_dic, bif_tuple_lst, bif_tuple_tup, bif_list_lst, bif_list_tup, truth_bl, for_nil, *])
/-! ## making a jug -/
def jugBody : Ss := (.cons (.set 3 (.bin .mod (.bif .int (.bin .add (.bin .add (.bin .mul (.var 3) (.lit (.int 39373))) (.bin .mod (.bif .int (.var 5)) (.lit (.int 999983)))) (.var 4))) (.lit (.int 2147483563)))) .nil)
theorem jug_turn {a c d : Sl} {b k f : Int} (h0 : 0 ≤ b) (h1 : b < 2147483563) : ∃ b', 0 ≤ b' ∧ b' < 2147483563 ∧ evSs O__law_jug jugBody [a, c, d, .ov (.frz (.int b)), .ov (.frz (.int k)), .ov (.frz (.int f))] = .ok .nx [a, c, d, .ov (.frz (.int b')), .ov (.frz (.int k)), .ov (.frz (.int f))] := by
  refine ⟨(b * 39373 + f % 999983 + k) % 2147483563, Int.emod_nonneg _ (by decide), Int.emod_lt_of_pos _ (by decide), ?_⟩
  have m1 := mul_ok (x := b) (y := 39373) (by omega) (by decide)
  have m2 := fun x => mod_ok (x := x) (y := 999983) (by decide)
  have m3 := fun x => mod_ok (x := x) (y := 2147483563) (by decide)
  have i1 := @int_int
  unfold jugBody
  clear h0 h1
  walk_at "ev*"
theorem jug_loop : ∀ (ps : List (Int × Int)) (a c d x y : Sl) (b : Int), 0 ≤ b → b < 2147483563 → anyS x → anyS y → ∃ b' x' y', 0 ≤ b' ∧ b' < 2147483563 ∧
    forGo (bind1 (.tp [.nm 4, .nm 5])) (evSs O__law_jug jugBody) (ps.map fun p => .tup [.int p.2, .int p.1]) [a, c, d, .ov (.frz (.int b)), x, y] = .ok .nx [a, c, d, .ov (.frz (.int b')), x', y']
  | [], a, c, d, x, y, b, h0, h1, _, _ => ⟨b, x, y, h0, h1, rfl⟩
  | p :: ps, a, c, d, x, y, b, h0, h1, hx, hy => by
    obtain ⟨b1, g0, g1, st⟩ := jug_turn (a := a) (c := c) (d := d) (k := p.2) (f := p.1) h0 h1
    obtain ⟨b', x', y', r0, r1, r⟩ := jug_loop ps a c d (.ov (.frz (.int p.2))) (.ov (.frz (.int p.1))) b1 g0 g1 (.inr ⟨_, rfl⟩) (.inr ⟨_, rfl⟩)
    refine ⟨b', x', y', r0, r1, ?_⟩
    have bd : bind1 (.tp [.nm 4, .nm 5]) (.tup [.int p.2, .int p.1]) [a, c, d, .ov (.frz (.int b)), x, y] = some [a, c, d, .ov (.frz (.int b)), .ov (.frz (.int p.2)), .ov (.frz (.int p.1))] := by
      rw [bind1_tp, binds_cons, bind1_nm, put_any (s := x) rfl hx]
      show binds [.nm 5] [.int p.1] [a, c, d, .ov (.frz (.int b)), .ov (.frz (.int p.2)), y] = _
      rw [binds_cons, bind1_nm, put_any (s := y) rfl hy]
      rfl
    rw [List.map_cons, for_nx bd st, r]
theorem jug_dict {a b : Int} : (([(D.str "far", D.int a), (D.str "screw", D.int b)].foldl (fun acc p => putD acc p.1 p.2) []).map fun p => (p.1, OV.frz p.2)) = [(.str "far", .frz (.int a)), (.str "screw", .frz (.int b))] := by kernel_rfl
theorem law_jug_ok {ns : List Int} {side : Int} (hs : side = 0 ∨ side = 1) (hn : ns.length ≤ 63) : ∃ a b, JugOk a b ∧ F__law_jug [.ov (.frz (.lst (ns.map .int))), .ov (.frz (.int side))] = .ok (jugOV a b) [none, none] := by
  have ln : (ns.map D.int).length = ns.length := List.length_map ..
  -- the number itself
  obtain ⟨f, hf⟩ : ∃ f : Int, evE O__law_jug (.ite (.val (.cmp .lt (.var 1) (.bif .len (.var 0)))) (.bif .int (.sub (.var 0) (.var 1))) (.bin .sub (.lit (.int 1013)) (.bin .mul (.lit (.int 17)) (.var 1)))) [.ov (.frz (.lst (ns.map .int))), .ov (.frz (.int side)), .no, .no, .no, .no] =
      .ok (.frz (.int f)) [.ov (.frz (.lst (ns.map .int))), .ov (.frz (.int side)), .no, .no, .no, .no] := by
    by_cases h : side < (ns.length : Int)
    · have hk : side.toNat < ns.length := by omega
      refine ⟨ns[side.toNat], ?_⟩
      have at_ : (D.lst (ns.map .int)).at (.int side) = some (.int ns[side.toNat]) := by
        show L2.atI (ns.map D.int) side = _
        unfold L2.atI L2.ixN
        rw [if_pos (by omega), if_pos (by rw [ln]; exact h)]
        show (ns.map D.int)[side.toNat]? = _
        rw [List.getElem?_map, List.getElem?_eq_getElem hk]
        rfl
      have i1 := @int_int
      clear hs hn
      generalize ns[side.toNat] = z at *
      generalize ns.map D.int = ds at *
      walk_at "ev*"
    · refine ⟨1013 - 17 * side, ?_⟩
      have m1 := mul_ok (x := 17) (y := side) (by decide) (by omega)
      clear hs hn
      generalize ns.map D.int = ds at *
      walk_at "ev*"
  have sl : (D.lst (ns.map .int)).slc .non (.int 9) = some (.lst (((ns.take 9).map .int).map .frz)) := by
    simp only [D.slc, D.bnd, cutL, HT.sIx]
    rw [if_neg (by omega), List.drop_zero, Nat.sub_zero, ← List.map_take, ln]
    have : ns.take (min (Int.toNat 9) ns.length) = ns.take 9 := by
      show ns.take (min 9 ns.length) = _
      rw [List.take_eq_take_iff]
      omega
    rw [this]
  have ad : opBin .add (.lst [.int f]) (.lst ((ns.take 9).map .int)) = some (.lst (((f :: ns.take 9).map .int).map .frz)) := by
    simp only [opBin]
    rw [gd, if_pos (by rw [List.length_map, List.length_take, List.length_singleton, size24]; omega)]
    rfl
  have zi : (((f :: ns.take 9).map D.int).zipIdx.map fun p => D.tup [.int (p.2 : Int), p.1]) = (((f :: ns.take 9).zipIdx.map fun p => (p.1, (p.2 : Int))).map fun p => .tup [.int p.2, .int p.1]) := by
    rw [List.zipIdx_map, List.map_map, List.map_map]
    rfl
  have m3 := mul_ok (x := 3) (y := side) (by decide) (by omega)
  obtain ⟨b', x', y', r0, r1, lp⟩ := jug_loop ((f :: ns.take 9).zipIdx.map fun p => (p.1, (p.2 : Int))) (.ov (.frz (.lst (ns.map .int)))) (.ov (.frz (.int side))) (.ov (.frz (.int f))) .no .no (50111 + 3 * side) (by omega) (by omega) (.inl rfl) (.inl rfl)
  have p17 : opBin .pow (.int 10) (.int 17) = some (.frz (.int 100000000000000000)) := by kernel_rfl
  have p58 : opBin .pow (.int 10) (.int 58) = some (.frz (.int (10 ^ 58))) := by kernel_rfl
  have md : ∀ x : Int, opBin .mod (.int x) (.int (10 ^ 58)) = some (.frz (.int (x % 10 ^ 58))) := fun x => mod_ok (by decide)
  have i1 := @int_int
  have ab : ∀ x : Int, opBif .abs (.int x) = some (.frz (.int (if x < 0 then -x else x))) := fun x => rfl
  have z1 : (1 : Nat) ≤ sizeLine := by decide
  have z15 : (2 : Nat) ≤ 15 := by decide
  have lf1 : D.isLeaf (.str "far") = true := rfl
  have lf2 : D.isLeaf (.str "screw") = true := rfl
  have jd := @jug_dict
  have goal : ∀ a : Int, 0 ≤ a → (∀ (x y : Sl), evE O__law_jug (.ite (.or (.val (.cmp .lt (.var 2) (.lit (.int 0)))) (.val (.cmp .ge (.var 2) (.bin .pow (.lit (.int 10)) (.lit (.int 17)))))) (.bin .mod (.bif .int (.bif .abs (.var 2))) (.bin .pow (.lit (.int 10)) (.lit (.int 58)))) (.lit (.int 0))) [.ov (.frz (.lst (ns.map .int))), .ov (.frz (.int side)), .ov (.frz (.int f)), .ov (.frz (.int b')), x, y] =
      .ok (.frz (.int a)) [.ov (.frz (.lst (ns.map .int))), .ov (.frz (.int side)), .ov (.frz (.int f)), .ov (.frz (.int b')), x, y]) → ∃ a b, JugOk a b ∧ F__law_jug [.ov (.frz (.lst (ns.map .int))), .ov (.frz (.int side))] = .ok (jugOV a b) [none, none] := by
    intro a h0 ha
    refine ⟨a, b', ⟨h0, r0, r1⟩, ?_⟩
    unfold jugBody at lp
    rw [← zi] at lp
    clear zi
    unfold F__law_jug
    rw [call2, B__law_jug]
    generalize hq : E.ite (.or (.val (.cmp .lt (.var 2) (.lit (.int 0)))) (.val (.cmp .ge (.var 2) (.bin .pow (.lit (.int 10)) (.lit (.int 17)))))) (.bin .mod (.bif .int (.bif .abs (.var 2))) (.bin .pow (.lit (.int 10)) (.lit (.int 58)))) (.lit (.int 0)) = qe at ha ⊢
    generalize hp : E.ite (.val (.cmp .lt (.var 1) (.bif .len (.var 0)))) (.bif .int (.sub (.var 0) (.var 1))) (.bin .sub (.lit (.int 1013)) (.bin .mul (.lit (.int 17)) (.var 1))) = pe at hf ⊢
    generalize (f :: ns.take 9).map D.int = fs at *
    generalize (ns.take 9).map D.int = gs at *
    generalize ns.map D.int = ds at *
    unfold jugOV
    clear hs hn r0 r1 p17 p58 md i1 ab ln hq hp h0
    walk_at "ev*"
  by_cases hb : f < 0 ∨ 100000000000000000 ≤ f
  · refine goal ((if f < 0 then -f else f) % 10 ^ 58) (Int.emod_nonneg _ (by decide)) fun x y => ?_
    clear goal lp ad zi sl hf jd
    rcases hb with hb | hb
    · walk_at "ev*"
    · cases hlt : decide (f < 0) <;> walk_at "ev*"
  · refine goal 0 (Int.le_refl _) fun x y => ?_
    clear goal lp ad zi sl hf jd
    have h1 : ¬ f < 0 := fun z => hb (.inl z)
    have h2 : ¬ 100000000000000000 ≤ f := fun z => hb (.inr z)
    clear hb
    walk_at "ev*"
end K02

namespace K02
open PySem PM TL NumText
local macro_rules | `(tactic| walk_at "ev") => `(tactic| simp only [List.getElem?_cons_zero, List.getElem?_cons_succ, List.getElem?_nil, List.set_cons_zero, List.set_cons_succ, List.replicate_succ, List.replicate_zero, List.cons_append, List.nil_append, Option.map_some, Option.map_none, Option.bind_some, if_true, if_false, ite_true, ite_false, Bool.not_true, Bool.not_false, Bool.false_eq_true, Bool.true_and, Bool.and_true, Bool.false_and, Bool.and_false, Bool.true_or, Bool.or_true, Bool.false_or, Bool.or_false, reduceIte, List.length_cons, List.length_nil, Nat.reduceAdd, Nat.reduceSub, Nat.reduceLeDiff, Nat.reduceLT, Int.reduceAdd, Int.reduceSub, Int.reduceNeg, Int.reduceLT, Int.reduceLE, Int.reduceEq, decide_true, decide_false, List.map_cons, List.map_nil, Bool.and_self, Bool.not_not, List.range_one, eq_self, PM.isInst, List.foldl_nil, PM.isIn, PM.evE_call, Option.map_none, bnd_ok, bnd_exc, of_some, nx_ok, evE_lit, evE_var, evE_tup, evE_lst, evE_bin, evE_cmp, evE_chn, evE_and, evE_or, evE_not, evE_ite, evE_sub, evE_slc, evE_rev, evE_bif, evE_isi, evE_met1, evE_fmt, evE_dict, evE_heard, evT_and, evT_or, evT_not, evT_val, evL_nil, evL_cons, evKV_nil, evKV_cons, evA_nil, evA_cons, evCs_nil, evCs_one, evI_val, evI_enum, evI_zip, evI_range, evS_set, evS_asg, evS_setk, evS_expr, evS_ret, evS_retN, evS_if, evS_for, evS_raise, evS_brk, evS_cont, evS_pass, evSs_nil, evSs_cons, range_0, permute_0, permuteR_0, permute_1, permuteR_1, range_2, permute_2, permuteR_2, range_3, permute_3, permuteR_3, range_4, permute_4, permuteR_4, range_5, permute_5, permuteR_5, takeA_nil, takeA_val, takeA_slot, backA_nil, backA_val, backA_slot, backA_no, outs_nil, outs_lent, outs_ov, mkO_nm, mkO_lit, mkO_tup, mkO_lst, mkO_dict, mkO_bin, mkO_cmp, mkO_chn, mkO_and, mkO_or, mkO_not, mkO_ite, mkO_sub, mkO_slc, mkO_rev, mkO_lc, mkO_dc, mkO_fmt, mkO_call, mkO_bif, mkO_isi, mkO_met1, mkO_fst, mkO_heard, mkA_f, mkA_t, rd_val, rd_slot, rdVar_eq, putS_eq, bind1_nm, bind1_tp, binds_nil, binds_cons, flat_frz, flat_lst, flat_lst0, flat_lst1, flat_dic, cool_frz, d_frz, cool_lst, d_lst, cool_lst0, d_lst0, cool_dic, d_dic, gd_true, gd_false, bls_map, plain_str, plain_int, plain_bl, plain_non, plain_tup, plain_lst, plains_nil, plains_cons, isPy_str, isPy_int, isPy_bl, isPy_non, isPy_tup, isPy_lst, shal_str, shal_int, shal_bl, shal_non, eqv_str, eqv_int, eqv_bl, cmp_eq_str, cmp_ne_str, cmp_eq_int, cmp_ne_int, cmp_lt_int, cmp_le_int, cmp_gt_int, cmp_ge_int, bin_add_int, bin_sub_int, cmp_in_one, items_str, items_tup, items_lst, bif_all, bif_len_tup, bif_len_lst, bif_len_dic, bif_tuple_lst, bif_tuple_tup, bif_list_lst, bif_list_tup, truth_bl, for_nil])
local macro_rules | `(tactic| walk_at "ev*") => `(tactic| simp only [List.getElem?_cons_zero, List.getElem?_cons_succ, List.getElem?_nil, List.set_cons_zero, List.set_cons_succ, List.replicate_succ, List.replicate_zero, List.cons_append, List.nil_append, Option.map_some, Option.map_none, Option.bind_some, if_true, if_false, ite_true, ite_false, Bool.not_true, Bool.not_false, Bool.false_eq_true, Bool.true_and, Bool.and_true, Bool.false_and, Bool.and_false, Bool.true_or, Bool.or_true, Bool.false_or, Bool.or_false, reduceIte, List.length_cons, List.length_nil, Nat.reduceAdd, Nat.reduceSub, Nat.reduceLeDiff, Nat.reduceLT, Int.reduceAdd, Int.reduceSub, Int.reduceNeg, Int.reduceLT, Int.reduceLE, Int.reduceEq, decide_true, decide_false, List.map_cons, List.map_nil, Bool.and_self, Bool.not_not, List.range_one, eq_self, PM.isInst, List.foldl_nil, PM.isIn, PM.evE_call, Option.map_none, bnd_ok, bnd_exc, of_some, nx_ok, evE_lit, evE_var, evE_tup, evE_lst, evE_bin, evE_cmp, evE_chn, evE_and, evE_or, evE_not, evE_ite, evE_sub, evE_slc, evE_rev, evE_bif, evE_isi, evE_met1, evE_fmt, evE_dict, evE_heard, evT_and, evT_or, evT_not, evT_val, evL_nil, evL_cons, evKV_nil, evKV_cons, evA_nil, evA_cons, evCs_nil, evCs_one, evI_val, evI_enum, evI_zip, evI_range, evS_set, evS_asg, evS_setk, evS_expr, evS_ret, evS_retN, evS_if, evS_for, evS_raise, evS_brk, evS_cont, evS_pass, evSs_nil, evSs_cons, range_0, permute_0, permuteR_0, permute_1, permuteR_1, range_2, permute_2, permuteR_2, range_3, permute_3, permuteR_3, range_4, permute_4, permuteR_4, range_5, permute_5, permuteR_5, takeA_nil, takeA_val, takeA_slot, backA_nil, backA_val, backA_slot, backA_no, outs_nil, outs_lent, outs_ov, mkO_nm, mkO_lit, mkO_tup, mkO_lst, mkO_dict, mkO_bin, mkO_cmp, mkO_chn, mkO_and, mkO_or, mkO_not, mkO_ite, mkO_sub, mkO_slc, mkO_rev, mkO_lc, mkO_dc, mkO_fmt, mkO_call, mkO_bif, mkO_isi, mkO_met1, mkO_fst, mkO_heard, mkA_f, mkA_t, rd_val, rd_slot, rdVar_eq, putS_eq, bind1_nm, bind1_tp, binds_nil, binds_cons, flat_frz, flat_lst, flat_lst0, flat_lst1, flat_dic, cool_frz, d_frz, cool_lst, d_lst, cool_lst0, d_lst0, cool_dic, d_dic, gd_true, gd_false, bls_map, plain_str, plain_int, plain_bl, plain_non, plain_tup, plain_lst, plains_nil, plains_cons, isPy_str, isPy_int, isPy_bl, isPy_non, isPy_tup, isPy_lst, shal_str, shal_int, shal_bl, shal_non, eqv_str, eqv_int, eqv_bl, cmp_eq_str, cmp_ne_str, cmp_eq_int, cmp_ne_int, cmp_lt_int, cmp_le_int, cmp_gt_int, cmp_ge_int, bin_add_int, bin_sub_int, cmp_in_one, items_str, items_tup, items_lst, bif_all, bif_len_tup, bif_len_lst, bif_len_dic, bif_tuple_lst, bif_tuple_tup, bif_list_lst, bif_list_tup, truth_bl, for_nil, *])
/-! ## one jug's turns -/
abbrev bEn (j : Sl) (x1 x3 x4 x5 x6 x7 x8 x9 x10 x11 : Sl) : En := [j, x1, .no, x3, x4, x5, x6, x7, x8, x9, x10, x11]
theorem pour_in {a b : Int} {m : Int} (h : JugOk a b) (hm : 0 < m) (hm2 : m ≤ 1000000) {x1 x3 x4 x5 x6 x7 x8 x9 x10 x11 : Sl} : ∃ k a' b', 0 ≤ k ∧ k < m ∧ JugOk a' b' ∧
    evE O__law_bears (.call 22 (.cons (.var 0) (.cons (.lit (.int m)) .nil)) [true, false] (List.range 2)) (bEn (.ov (jugOV a b)) x1 x3 x4 x5 x6 x7 x8 x9 x10 x11) = .ok (.frz (.int k)) (bEn (.ov (jugOV a' b')) x1 x3 x4 x5 x6 x7 x8 x9 x10 x11) := by
  obtain ⟨k, a', b', h0, h1, h2, h3⟩ := pour_ok h hm hm2
  refine ⟨k, a', b', h0, h1, h2, ?_⟩
  have e : O__law_bears 22 = F__law_pour := rfl
  unfold jugOV at h3 ⊢
  unfold bEn
  clear h h0 h1 h2 hm hm2
  walk_at "ev*"
theorem drawn_in {a b : Int} (h : JugOk a b) {x1 x3 x4 x5 x6 x7 x8 x9 x10 x11 : Sl} : ∃ d a' b', valOk d = true ∧ JugOk a' b' ∧
    evE O__law_bears (.call 27 (.cons (.var 0) .nil) [true] (List.range 1)) (bEn (.ov (jugOV a b)) x1 x3 x4 x5 x6 x7 x8 x9 x10 x11) = .ok (.frz d) (bEn (.ov (jugOV a' b')) x1 x3 x4 x5 x6 x7 x8 x9 x10 x11) := by
  obtain ⟨d, a', b', h0, h2, h3⟩ := drawn_ok h
  refine ⟨d, a', b', h0, h2, ?_⟩
  have e : O__law_bears 27 = F__law_drawn := rfl
  unfold jugOV at h3 ⊢
  unfold bEn
  clear h h0 h2
  walk_at "ev*"
theorem drawn_go {x1 x3 x4 x6 x7 x8 x9 x10 x11 : Sl} : ∀ (ds acc : List D) (a b : Int) (c : Sl), JugOk a b → c.cold = true → acc.length + ds.length ≤ sizeLine → ∃ vs a' b' c', valsAll vs ∧ vs.length = ds.length ∧ JugOk a' b' ∧ c'.cold = true ∧
    lcGo (bind1 (.nm 5)) (evCs O__law_bears .nil) (evE O__law_bears (.call 27 (.cons (.var 0) .nil) [true] (List.range 1))) [5] ds acc (bEn (.ov (jugOV a b)) x1 x3 x4 c x6 x7 x8 x9 x10 x11) = .ok (acc ++ vs) (bEn (.ov (jugOV a' b')) x1 x3 x4 c' x6 x7 x8 x9 x10 x11)
  | [], acc, a, b, c, h, hc, _ => by
    refine ⟨[], a, b, c, (fun _ z => nomatch z), rfl, h, hc, ?_⟩
    have ok : okOwn (bEn (.ov (jugOV a b)) x1 x3 x4 c x6 x7 x8 x9 x10 x11) [5] = true := by rw [okOwn1]; exact hc
    simp only [lcGo, ok, if_true, List.append_nil]
  | d :: ds, acc, a, b, c, h, hc, hn => by
    rw [List.length_cons] at hn
    obtain ⟨v, a1, b1, v0, v1, v2⟩ := drawn_in h (x1 := x1) (x3 := x3) (x4 := x4) (x5 := .ov (.frz d)) (x6 := x6) (x7 := x7) (x8 := x8) (x9 := x9) (x10 := x10) (x11 := x11)
    obtain ⟨vs, a', b', c', r0, r1, r2, r3, r4⟩ := drawn_go (x1 := x1) (x3 := x3) (x4 := x4) (x6 := x6) (x7 := x7) (x8 := x8) (x9 := x9) (x10 := x10) (x11 := x11) ds (acc ++ [v]) a1 b1 (.ov (.frz d)) v1 rfl (by rw [List.length_append, List.length_singleton]; omega)
    refine ⟨v :: vs, a', b', c', fun u hu => ?_, by rw [List.length_cons, List.length_cons, r1], r2, r3, ?_⟩
    · rcases List.mem_cons.mp hu with rfl | hu
      · exact v0
      · exact r0 u hu
    · have ok : okOwn (bEn (.ov (jugOV a b)) x1 x3 x4 c x6 x7 x8 x9 x10 x11) [5] = true := by rw [okOwn1]; exact hc
      have bd : bind1 (.nm 5) d (wipeE (bEn (.ov (jugOV a b)) x1 x3 x4 c x6 x7 x8 x9 x10 x11) [5]) = some (bEn (.ov (jugOV a b)) x1 x3 x4 (.ov (.frz d)) x6 x7 x8 x9 x10 x11) := by rw [bind1_nm]; rfl
      have lt : acc.length < sizeLine := by omega
      simp only [lcGo, ok, if_true, bd, evCs_nil, bnd_ok, v2, cool_frz, d_frz, lt, decide_true, Bool.and_self, r4, List.append_assoc, List.singleton_append]
/-- a tuple of drawn values -/
theorem drawn_lc {a b : Int} {m : Int} (h : JugOk a b) (hm : 0 < m) (hm2 : m ≤ 100) {x1 x3 x4 x6 x7 x8 x9 x10 x11 : Sl} : ∃ vs a' b', valsAll vs ∧ (vs.length : Int) < m ∧ JugOk a' b' ∧
    evE O__law_bears (.bif .tuple (.lc (.call 27 (.cons (.var 0) .nil) [true] (List.range 1)) (.nm 5) (.range (.call 22 (.cons (.var 0) (.cons (.lit (.int m)) .nil)) [true, false] (List.range 2))) .nil [5])) (bEn (.ov (jugOV a b)) x1 x3 x4 .no x6 x7 x8 x9 x10 x11) =
      .ok (.frz (.tup vs)) (bEn (.ov (jugOV a' b')) x1 x3 x4 .no x6 x7 x8 x9 x10 x11) := by
  obtain ⟨k, a1, b1, k0, k1, j1, p⟩ := pour_in h hm (by omega) (x1 := x1) (x3 := x3) (x4 := x4) (x5 := .no) (x6 := x6) (x7 := x7) (x8 := x8) (x9 := x9) (x10 := x10) (x11 := x11)
  obtain ⟨vs, a', b', c', r0, r1, r2, r3, r4⟩ := drawn_go (x1 := x1) (x3 := x3) (x4 := x4) (x6 := x6) (x7 := x7) (x8 := x8) (x9 := x9) (x10 := x10) (x11 := x11) ((List.range k.toNat).map fun (i : Nat) => .int (i : Int)) [] a1 b1 .no j1 rfl (by rw [List.length_map, List.length_range, size24]; simp; omega)
  rw [List.length_map, List.length_range] at r1
  refine ⟨vs, a', b', r0, by omega, r2, ?_⟩
  have ir : evI O__law_bears (.range (.call 22 (.cons (.var 0) (.cons (.lit (.int m)) .nil)) [true, false] (List.range 2))) (bEn (.ov (jugOV a b)) x1 x3 x4 .no x6 x7 x8 x9 x10 x11) = .ok ((List.range k.toNat).map fun (i : Nat) => .int (i : Int)) (bEn (.ov (jugOV a1 b1)) x1 x3 x4 .no x6 x7 x8 x9 x10 x11) := by
    rw [evI_range, p]
    simp only [bnd_ok]
    rw [if_pos (by omega)]
  have ok : okOwn (bEn (.ov (jugOV a1 b1)) x1 x3 x4 .no x6 x7 x8 x9 x10 x11) [5] = true := by rw [okOwn1]; rfl
  rw [evE_bif, mkO_lc, evE_lc, ir, bnd_ok, if_pos ok, r4, nx_ok, bnd_ok, List.nil_append]
  have ud : undo (bEn (.ov (jugOV a1 b1)) x1 x3 x4 .no x6 x7 x8 x9 x10 x11) (wipeE (bEn (.ov (jugOV a' b')) x1 x3 x4 c' x6 x7 x8 x9 x10 x11) [5]) [5] = bEn (.ov (jugOV a' b')) x1 x3 x4 .no x6 x7 x8 x9 x10 x11 := rfl
  rw [ud]
  walk_at "ev"
def S0 : S := (.set 1 (.lst (.cons (.lit .non) (.cons (.lit (.bl true)) (.cons (.lit (.bl false)) (.cons (.lit (.str "")) (.cons (.lit (.str "A")) (.cons (.lit (.str "a b")) (.cons (.lit (.str "a1")) (.cons (.lit (.str "abcdefghi")) (.cons (.lit (.str "zzzzzzzz")) (.cons (.lit (.int 9999)) (.cons (.lit (.int (-9999))) (.cons (.lit (.int 10000)) (.cons (.lit (.int (-10000))) (.cons (.bin .pow (.lit (.int 10)) (.lit (.int 30))) (.cons (.tup .nil) (.cons (.tup (.cons (.lit (.int 1)) .nil)) (.cons (.lst (.cons (.lit (.str "a")) .nil)) (.cons (.dict .nil) (.cons (.lit (.str "-")) (.cons (.lit (.str "a-b")) (.cons (.lit (.int 0)) .nil)))))))))))))))))))))))
def S1 : S := (.if_ (.not (.val (.bif .all (.lc (.call 24 (.cons (.tup (.cons (.call 17 (.cons (.var 2) .nil) [false] (List.range 1)) (.cons (.call 17 (.cons (.var 2) .nil) [false] (List.range 1)) .nil))) (.cons (.bin .mul (.tup (.cons (.call 26 (.cons (.var 2) .nil) [false] (List.range 1)) .nil)) (.lit (.int 2))) .nil)) [false, false] (List.range 2)) (.nm 2) (.val (.var 1)) .nil [2])))) (.cons (.ret (.lit (.bl false))) .nil) .nil)
def T0 : S := (.set 4 (.bif .tuple (.lc (.call 27 (.cons (.var 0) .nil) [true] (List.range 1)) (.nm 5) (.range (.call 22 (.cons (.var 0) (.cons (.lit (.int 6)) .nil)) [true, false] (List.range 2))) .nil [5])))
def T1 : S := (.if_ (.or (.not (.val (.bif .all (.lc (.call 17 (.cons (.var 6) .nil) [false] (List.range 1)) (.nm 6) (.val (.var 4)) .nil [6])))) (.not (.val (.call 32 (.cons (.var 0) (.cons (.var 4) .nil)) [true, false] (List.range 2))))) (.cons (.ret (.lit (.bl false))) .nil) .nil)
def T2 : S := (.set 7 (.tup .nil))
def T3 : S := (.for_ (.nm 8) (.range (.call 22 (.cons (.var 0) (.cons (.lit (.int 12)) .nil)) [true, false] (List.range 2))) (.cons (.set 6 (.bif .tuple (.lc (.call 27 (.cons (.var 0) .nil) [true] (List.range 1)) (.nm 5) (.range (.call 22 (.cons (.var 0) (.cons (.lit (.int 4)) .nil)) [true, false] (List.range 2))) .nil [5]))) (.cons (.set 7 (.bin .add (.var 7) (.ite (.val (.cmp .notin (.var 6) (.var 7))) (.tup (.cons (.var 6) .nil)) (.tup .nil)))) .nil)))
def T4 : S := (.set 9 (.call 29 (.cons (.var 7) .nil) [false] (List.range 1)))
def T5 : S := (.if_ (.not (.val (.call 24 (.cons (.tup (.cons (.call 20 (.cons (.var 7) .nil) [false] (List.range 1)) (.cons (.call 20 (.cons (.var 7) .nil) [false] (List.range 1)) (.cons (.call 20 (.cons (.rev (.var 7)) .nil) [false] (List.range 1)) (.cons (.call 20 (.cons (.var 9) .nil) [false] (List.range 1)) .nil))))) (.cons (.bin .mul (.tup (.cons (.var 9) .nil)) (.lit (.int 4))) .nil)) [false, false] (List.range 2)))) (.cons (.ret (.lit (.bl false))) .nil) .nil)
def T6 : S := (.set 10 (.lst (.cons (.lit .non) (.cons (.bif .list (.var 7)) (.cons (.bin .add (.var 7) (.tup (.cons (.lit (.str "a")) .nil))) (.cons (.bin .add (.var 7) (.tup (.cons (.tup (.cons (.lit (.bl true)) .nil)) .nil))) (.cons (.bin .add (.var 7) (.tup (.cons (.tup (.cons (.lit (.str "A")) .nil)) .nil))) (.cons (.bin .add (.var 7) (.tup (.cons (.lst (.cons (.lit (.int 1)) .nil)) .nil))) (.cons (.bin .add (.var 7) (.tup (.cons (.lit .non) .nil))) (.cons (.bin .add (.var 7) (.tup (.cons (.tup (.cons (.lit (.int 1)) (.cons (.lit (.int 10000)) .nil))) .nil))) (.cons (.lit (.str "a")) (.cons (.lit (.int 5)) (.cons (.bin .add (.var 7) (.tup (.cons (.tup (.cons (.tup (.cons (.lit (.str "a")) .nil)) .nil)) .nil))) .nil)))))))))))))
def T7 : S := (.if_ (.not (.val (.bif .all (.lc (.call 24 (.cons (.heard (.pair "told") [([1], (.pair "text")), ([0], (.pair "values")), ([0, 1], (.const (.frz (.tup [(.str "other"), .non]))))] (.call 20 (.cons (.var 2) .nil) [false] (List.range 1))) (.cons (.tup (.cons (.lit (.str "values")) (.cons (.var 2) .nil))) .nil)) [false, false] (List.range 2)) (.nm 2) (.val (.var 10)) .nil [2])))) (.cons (.ret (.lit (.bl false))) .nil) .nil)
def T8 : S := (.if_ (.and (.val (.cmp .ne (.var 7) (.tup .nil))) (.not (.val (.call 24 (.cons (.heard (.pair "told") [([1], (.pair "text")), ([0], (.pair "values")), ([0, 1], (.const (.frz (.tup [(.str "other"), .non]))))] (.call 20 (.cons (.bin .add (.var 7) (.slc (.var 7) (.lit .non) (.lit (.int 1)))) .nil) [false] (List.range 1))) (.cons (.tup (.cons (.lit (.str "values")) (.cons (.bin .add (.var 7) (.slc (.var 7) (.lit .non) (.lit (.int 1)))) .nil))) .nil)) [false, false] (List.range 2))))) (.cons (.ret (.lit (.bl false))) .nil) .nil)
def T9 : S := (.set 11 (.lst (.cons (.lit .non) (.cons (.bif .list (.var 4)) (.cons (.bin .add (.var 4) (.tup (.cons (.lit .non) .nil))) (.cons (.bin .add (.var 4) (.tup (.cons (.tup .nil) .nil))) (.cons (.bin .add (.var 4) (.tup (.cons (.lit (.bl true)) .nil))) (.cons (.lit (.str "a")) (.cons (.lit (.int 5)) (.cons (.bin .add (.var 4) (.tup (.cons (.lit (.str "a b")) .nil))) .nil))))))))))
def T10 : S := (.if_ (.not (.val (.bif .all (.lc (.call 24 (.cons (.heard (.pair "told") [([1], (.pair "text")), ([0], (.pair "values")), ([0, 1], (.const (.frz (.tup [(.str "other"), .non]))))] (.call 18 (.cons (.var 2) .nil) [false] (List.range 1))) (.cons (.tup (.cons (.lit (.str "values")) (.cons (.var 2) .nil))) .nil)) [false, false] (List.range 2)) (.nm 2) (.val (.var 11)) .nil [2])))) (.cons (.ret (.lit (.bl false))) .nil) .nil)
def U0 : S := (.set 6 (.bif .tuple (.lc (.call 27 (.cons (.var 0) .nil) [true] (List.range 1)) (.nm 5) (.range (.call 22 (.cons (.var 0) (.cons (.lit (.int 4)) .nil)) [true, false] (List.range 2))) .nil [5])))
def U1 : S := (.set 7 (.bin .add (.var 7) (.ite (.val (.cmp .notin (.var 6) (.var 7))) (.tup (.cons (.var 6) .nil)) (.tup .nil))))
/-- values drawn -/
theorem t0_ok {a b : Int} (h : JugOk a b) {x1 x3 x4 x6 x7 x8 x9 x10 x11 : Sl} (h4 : anyS x4) : ∃ vs a' b', valsAll vs ∧ vs.length ≤ 5 ∧ JugOk a' b' ∧
    evS O__law_bears T0 (bEn (.ov (jugOV a b)) x1 x3 x4 .no x6 x7 x8 x9 x10 x11) = .ok .nx (bEn (.ov (jugOV a' b')) x1 x3 (.ov (.frz (.tup vs))) .no x6 x7 x8 x9 x10 x11) := by
  obtain ⟨vs, a', b', r0, r1, r2, r3⟩ := drawn_lc h (m := 6) (by decide) (by decide) (x1 := x1) (x3 := x3) (x4 := x4) (x6 := x6) (x7 := x7) (x8 := x8) (x9 := x9) (x10 := x10) (x11 := x11)
  refine ⟨vs, a', b', r0, by omega, r2, ?_⟩
  unfold T0
  rw [evS_set, r3, bnd_ok, put_any (s := x4) rfl h4]
  rfl
theorem u0_ok {a b : Int} (h : JugOk a b) {x1 x3 x4 x6 x7 x8 x9 x10 x11 : Sl} (h6 : anyS x6) : ∃ vs a' b', valsAll vs ∧ vs.length ≤ 3 ∧ JugOk a' b' ∧
    evS O__law_bears U0 (bEn (.ov (jugOV a b)) x1 x3 x4 .no x6 x7 x8 x9 x10 x11) = .ok .nx (bEn (.ov (jugOV a' b')) x1 x3 x4 .no (.ov (.frz (.tup vs))) x7 x8 x9 x10 x11) := by
  obtain ⟨vs, a', b', r0, r1, r2, r3⟩ := drawn_lc h (m := 4) (by decide) (by decide) (x1 := x1) (x3 := x3) (x4 := x4) (x6 := x6) (x7 := x7) (x8 := x8) (x9 := x9) (x10 := x10) (x11 := x11)
  refine ⟨vs, a', b', r0, by omega, r2, ?_⟩
  unfold U0
  rw [evS_set, r3, bnd_ok, put_any (s := x6) rfl h6]
  rfl
/-- all are values, and their texts are right -/
theorem t1_ok {a b : Int} (h : JugOk a b) {x1 x3 x5 x6 x7 x8 x9 x10 x11 : Sl} {vs : List D} (hv : valsAll vs) (hn : vs.length ≤ 5) (h6 : x6.cold = true) : ∃ a' b', JugOk a' b' ∧
    evS O__law_bears T1 (bEn (.ov (jugOV a b)) x1 x3 (.ov (.frz (.tup vs))) x5 x6 x7 x8 x9 x10 x11) = .ok .nx (bEn (.ov (jugOV a' b')) x1 x3 (.ov (.frz (.tup vs))) x5 x6 x7 x8 x9 x10 x11) := by
  obtain ⟨a', b', r0, r1⟩ := texts_right_ok h hv (by omega)
  refine ⟨a', b', r0, ?_⟩
  have e : O__law_bears 32 = F__law_texts_right := rfl
  have key := all_items (orc := O__law_bears) (en := bEn (.ov (jugOV a b)) x1 x3 (.ov (.frz (.tup vs))) x5 x6 x7 x8 x9 x10 x11) (i := 4) (j := 6) (k := 17) (p := valOk) rfl rfl h6 (by rw [size24]; omega) (fun d hd => is_value_ok (val_plain (hv d hd)).2.2.2 (val_fits (hv d hd)))
  rw [show vs.all valOk = true from List.all_eq_true.mpr hv] at key
  simp only [evE_bif, mkO_lc, List.range_one] at key
  unfold T1
  unfold jugOV at r1 key ⊢
  unfold bEn at key ⊢
  clear h hv hn r0 h6
  walk_at "ev*"
theorem not_in {l : List (List D)} {t : List D} (h : ∀ u ∈ l, valsAll u) (ht : valsAll t) {b : Bool} (hb : b = true ↔ t ∉ l) : opCmp .notin (.tup t) (.tup (l.map .tup)) = some b := by
  have p1 := (vals_flat ht).1
  have p2 : D.plains (l.map .tup) = true := by
    rw [plains_iff, List.all_map]
    exact List.all_eq_true.mpr fun u hu => by
      show (D.tup u).plain = true
      rw [plain_tup]; exact (vals_flat (h u hu)).1
  have p3 : (D.tup t).shal = true := by
    have := (vals_flat ht).2
    unfold D.shal D.depth
    simp only [D.py, PyData.depth, decide_eq_true_eq]
    omega
  simp only [opCmp, opIn, plain_tup, p1, p2, p3, Bool.and_self, gd, if_true, Option.map_some, Option.some.injEq, List.any_map]
  have ee : ∀ u ∈ l, (D.eqv (.tup u) (.tup t) = true ↔ u = t) := fun u hu => by
    have q : ∀ (u t : List D), valsAll u → valsAll t → (PyData.eqvAll (D.pys u) (D.pys t) = true ↔ u = t) := by
      intro u
      induction u with
      | nil => intro t _ _; cases t <;> simp [D.pys, PyData.eqvAll]
      | cons v u ih =>
        intro t h1 h2
        cases t with
        | nil => simp [D.pys, PyData.eqvAll]
        | cons w t => simp only [D.pys, PyData.eqvAll, Bool.and_eq_true, eqv_eq h1.head h2.head, ih t h1.tail h2.tail, List.cons.injEq]
    simp only [D.eqv, D.py, PyData.eqv]
    exact q u t (h u hu) ht
  cases ha : l.any ((fun d => D.eqv d (.tup t)) ∘ D.tup) with
  | true =>
    obtain ⟨u, hu, e⟩ := List.any_eq_true.mp ha
    have := (ee u hu).mp e
    subst this
    cases b with
    | false => rfl
    | true => exact absurd hu (hb.mp rfl)
  | false =>
    refine (hb.mpr fun z => ?_).symm
    have := List.any_eq_false.mp ha t z
    exact this ((ee t z).mpr rfl)
theorem u1_ok {j x1 x3 x4 x5 x8 x9 x10 x11 : Sl} {l : List (List D)} {t : List D} (h : ∀ u ∈ l, valsAll u) (ht : valsAll t) (hn : l.length ≤ 1000) (nd : l.Nodup) : ∃ l' : List (List D), (∀ u ∈ l', u ∈ l ∨ u = t) ∧ l'.Nodup ∧ l'.length ≤ l.length + 1 ∧
    evS O__law_bears U1 (bEn j x1 x3 x4 x5 (.ov (.frz (.tup t))) (.ov (.frz (.tup (l.map .tup)))) x8 x9 x10 x11) = .ok .nx (bEn j x1 x3 x4 x5 (.ov (.frz (.tup t))) (.ov (.frz (.tup (l'.map .tup)))) x8 x9 x10 x11) := by
  have z1 : (1 : Nat) ≤ sizeLine := by decide
  have z0 : (0 : Nat) ≤ sizeLine := by decide
  have ll : (l.map D.tup).length = l.length := List.length_map ..
  have ad : ∀ ds : List D, ds.length ≤ 1 → opBin .add (.tup (l.map D.tup)) (.tup ds) = some (.frz (.tup (l.map D.tup ++ ds))) := fun ds hd => by
    simp only [opBin]
    rw [gd, if_pos (by rw [ll, size24]; omega)]
  by_cases hm : t ∈ l
  · refine ⟨l, fun u hu => .inl hu, nd, Nat.le_succ _, ?_⟩
    have ni := not_in h ht (b := false) ⟨(fun z => by cases z), fun z => absurd hm z⟩
    have a0 := ad [] (Nat.zero_le _)
    rw [List.append_nil] at a0
    unfold U1 bEn
    generalize l.map D.tup = ts at *
    clear h ht hn nd hm ad ll
    walk_at "ev*"
  · refine ⟨l ++ [t], fun u hu => ?_, ?_, by rw [List.length_append]; exact Nat.le_refl _, ?_⟩
    · rcases List.mem_append.mp hu with hu | hu
      · exact .inl hu
      · exact .inr (List.mem_singleton.mp hu)
    · refine List.nodup_append.mpr ⟨nd, (by simp), fun x hx y hy e => ?_⟩
      rw [List.mem_singleton] at hy
      subst hy; subst e
      exact hm hx
    · have ni := not_in h ht (b := true) ⟨fun _ => hm, fun _ => rfl⟩
      have a1 := ad [.tup t] (Nat.le_refl _)
      rw [show (l ++ [t]).map D.tup = l.map D.tup ++ [.tup t] from List.map_append]
      unfold U1 bEn
      generalize l.map D.tup = ts at *
      clear h ht hn nd hm ad ll
      walk_at "ev*"
theorem lot_loop {x1 x3 x4 x9 x10 x11 : Sl} : ∀ (ds : List D) (l : List (List D)) (a b : Int) (x6 x8 : Sl), JugOk a b → (∀ u ∈ l, valsAll u ∧ u.length ≤ 3) → l.Nodup → l.length + ds.length ≤ 100 → anyS x6 → x6.cold = true → anyS x8 → ∃ (l' : List (List D)) (a' b' : Int) (x6' x8' : Sl), JugOk a' b' ∧ (∀ u ∈ l', valsAll u ∧ u.length ≤ 3) ∧ l'.Nodup ∧ l'.length ≤ l.length + ds.length ∧ anyS x6' ∧ x6'.cold = true ∧ anyS x8' ∧
    forGo (bind1 (.nm 8)) (evSs O__law_bears (.cons U0 (.cons U1 .nil))) ds (bEn (.ov (jugOV a b)) x1 x3 x4 .no x6 (.ov (.frz (.tup (l.map .tup)))) x8 x9 x10 x11) =
      .ok .nx (bEn (.ov (jugOV a' b')) x1 x3 x4 .no x6' (.ov (.frz (.tup (l'.map .tup)))) x8' x9 x10 x11)
  | [], l, a, b, x6, x8, h, hl, nd, _, h6, c6, h8 => ⟨l, a, b, x6, x8, h, hl, nd, Nat.le_refl _, h6, c6, h8, rfl⟩
  | d :: ds, l, a, b, x6, x8, h, hl, nd, hn, h6, c6, h8 => by
    rw [List.length_cons] at hn
    obtain ⟨t, a1, b1, t0, t1, t2, t3⟩ := u0_ok h h6 (x1 := x1) (x3 := x3) (x4 := x4) (x7 := .ov (.frz (.tup (l.map .tup)))) (x8 := .ov (.frz d)) (x9 := x9) (x10 := x10) (x11 := x11)
    obtain ⟨l1, g0, g1, g2, g3⟩ := u1_ok (j := .ov (jugOV a1 b1)) (x1 := x1) (x3 := x3) (x4 := x4) (x5 := .no) (x8 := .ov (.frz d)) (x9 := x9) (x10 := x10) (x11 := x11) (fun u hu => (hl u hu).1) t0 (by omega) nd
    obtain ⟨l', a', b', x6', x8', r0, r1, r2, r3, r4, r5, r6, r7⟩ := lot_loop (x1 := x1) (x3 := x3) (x4 := x4) (x9 := x9) (x10 := x10) (x11 := x11) ds l1 a1 b1 (.ov (.frz (.tup t))) (.ov (.frz d)) t2 (fun u hu => by
      rcases g0 u hu with q | rfl
      · exact hl u q
      · exact ⟨t0, t1⟩) g1 (by omega) (.inr ⟨_, rfl⟩) rfl (.inr ⟨_, rfl⟩)
    refine ⟨l', a', b', x6', x8', r0, r1, r2, by rw [List.length_cons]; omega, r4, r5, r6, ?_⟩
    rw [for_nx (en1 := bEn (.ov (jugOV a b)) x1 x3 x4 .no x6 (.ov (.frz (.tup (l.map .tup)))) (.ov (.frz d)) x9 x10 x11) (en2 := bEn (.ov (jugOV a1 b1)) x1 x3 x4 .no (.ov (.frz (.tup t))) (.ov (.frz (.tup (l1.map .tup)))) (.ov (.frz d)) x9 x10 x11) (by rw [bind1_nm, put_any (s := x8) rfl h8]; rfl) (by rw [evSs_cons, t3, bnd_ok]; simp only; rw [evSs_cons, g3, bnd_ok]; simp only [evSs_nil]), r7]
theorem t23_ok {a b : Int} (h : JugOk a b) {x1 x3 x4 x6 x7 x8 x9 x10 x11 : Sl} (h6 : anyS x6) (c6 : x6.cold = true) (h7 : anyS x7) (h8 : anyS x8) : ∃ (l : List (List D)) (a' b' : Int) (x6' x8' : Sl), JugOk a' b' ∧ (∀ u ∈ l, valsAll u ∧ u.length ≤ 3) ∧ l.Nodup ∧ l.length ≤ 11 ∧ anyS x6' ∧ x6'.cold = true ∧ anyS x8' ∧
    evS O__law_bears T2 (bEn (.ov (jugOV a b)) x1 x3 x4 .no x6 x7 x8 x9 x10 x11) = .ok .nx (bEn (.ov (jugOV a b)) x1 x3 x4 .no x6 (.ov (.frz (.tup []))) x8 x9 x10 x11) ∧
    evS O__law_bears T3 (bEn (.ov (jugOV a b)) x1 x3 x4 .no x6 (.ov (.frz (.tup []))) x8 x9 x10 x11) = .ok .nx (bEn (.ov (jugOV a' b')) x1 x3 x4 .no x6' (.ov (.frz (.tup (l.map .tup)))) x8' x9 x10 x11) := by
  obtain ⟨k, a1, b1, k0, k1, j1, p⟩ := pour_in h (m := 12) (by decide) (by decide) (x1 := x1) (x3 := x3) (x4 := x4) (x5 := .no) (x6 := x6) (x7 := .ov (.frz (.tup []))) (x8 := x8) (x9 := x9) (x10 := x10) (x11 := x11)
  obtain ⟨l', a', b', x6', x8', r0, r1, r2, r3, r4, r5, r6, r7⟩ := lot_loop (x1 := x1) (x3 := x3) (x4 := x4) (x9 := x9) (x10 := x10) (x11 := x11) ((List.range k.toNat).map fun (i : Nat) => .int (i : Int)) [] a1 b1 x6 x8 j1 (fun _ z => by cases z) List.nodup_nil (by rw [List.length_map, List.length_range]; simp; omega) h6 c6 h8
  rw [List.length_map, List.length_range] at r3
  refine ⟨l', a', b', x6', x8', r0, r1, r2, by simp at r3; omega, r4, r5, r6, ?_, ?_⟩
  · unfold T2
    rw [evS_set, evE_tup, evL_nil, bnd_ok, if_pos (by decide), bnd_ok, put_any (s := x7) rfl h7]
    rfl
  · have ir : evI O__law_bears (.range (.call 22 (.cons (.var 0) (.cons (.lit (.int 12)) .nil)) [true, false] (List.range 2))) (bEn (.ov (jugOV a b)) x1 x3 x4 .no x6 (.ov (.frz (.tup []))) x8 x9 x10 x11) = .ok ((List.range k.toNat).map fun (i : Nat) => .int (i : Int)) (bEn (.ov (jugOV a1 b1)) x1 x3 x4 .no x6 (.ov (.frz (.tup []))) x8 x9 x10 x11) := by
      rw [evI_range, p]
      simp only [bnd_ok]
      rw [if_pos (by omega)]
    show evS O__law_bears (.for_ (.nm 8) (.range (.call 22 (.cons (.var 0) (.cons (.lit (.int 12)) .nil)) [true, false] (List.range 2))) (.cons U0 (.cons U1 .nil))) _ = _
    rw [evS_for, ir, bnd_ok]
    exact r7
end K02

namespace K02
open PySem PM TL NumText
local macro_rules | `(tactic| walk_at "ev") => `(tactic| simp only [List.getElem?_cons_zero, List.getElem?_cons_succ, List.getElem?_nil, List.set_cons_zero, List.set_cons_succ, List.replicate_succ, List.replicate_zero, List.cons_append, List.nil_append, Option.map_some, Option.map_none, Option.bind_some, if_true, if_false, ite_true, ite_false, Bool.not_true, Bool.not_false, Bool.false_eq_true, Bool.true_and, Bool.and_true, Bool.false_and, Bool.and_false, Bool.true_or, Bool.or_true, Bool.false_or, Bool.or_false, reduceIte, List.length_cons, List.length_nil, Nat.reduceAdd, Nat.reduceSub, Nat.reduceLeDiff, Nat.reduceLT, Int.reduceAdd, Int.reduceSub, Int.reduceNeg, Int.reduceLT, Int.reduceLE, Int.reduceEq, decide_true, decide_false, List.map_cons, List.map_nil, Bool.and_self, Bool.not_not, List.range_one, eq_self, PM.isInst, List.foldl_nil, PM.isIn, PM.evE_call, Option.map_none, bnd_ok, bnd_exc, of_some, nx_ok, evE_lit, evE_var, evE_tup, evE_lst, evE_bin, evE_cmp, evE_chn, evE_and, evE_or, evE_not, evE_ite, evE_sub, evE_slc, evE_rev, evE_bif, evE_isi, evE_met1, evE_fmt, evE_dict, evE_heard, evT_and, evT_or, evT_not, evT_val, evL_nil, evL_cons, evKV_nil, evKV_cons, evA_nil, evA_cons, evCs_nil, evCs_one, evI_val, evI_enum, evI_zip, evI_range, evS_set, evS_asg, evS_setk, evS_expr, evS_ret, evS_retN, evS_if, evS_for, evS_raise, evS_brk, evS_cont, evS_pass, evSs_nil, evSs_cons, range_0, permute_0, permuteR_0, permute_1, permuteR_1, range_2, permute_2, permuteR_2, range_3, permute_3, permuteR_3, range_4, permute_4, permuteR_4, range_5, permute_5, permuteR_5, takeA_nil, takeA_val, takeA_slot, backA_nil, backA_val, backA_slot, backA_no, outs_nil, outs_lent, outs_ov, mkO_nm, mkO_lit, mkO_tup, mkO_lst, mkO_dict, mkO_bin, mkO_cmp, mkO_chn, mkO_and, mkO_or, mkO_not, mkO_ite, mkO_sub, mkO_slc, mkO_rev, mkO_lc, mkO_dc, mkO_fmt, mkO_call, mkO_bif, mkO_isi, mkO_met1, mkO_fst, mkO_heard, mkA_f, mkA_t, rd_val, rd_slot, rdVar_eq, putS_eq, bind1_nm, bind1_tp, binds_nil, binds_cons, flat_frz, flat_lst, flat_lst0, flat_lst1, flat_dic, cool_frz, d_frz, cool_lst, d_lst, cool_lst0, d_lst0, cool_dic, d_dic, gd_true, gd_false, bls_map, plain_str, plain_int, plain_bl, plain_non, plain_tup, plain_lst, plains_nil, plains_cons, isPy_str, isPy_int, isPy_bl, isPy_non, isPy_tup, isPy_lst, shal_str, shal_int, shal_bl, shal_non, eqv_str, eqv_int, eqv_bl, cmp_eq_str, cmp_ne_str, cmp_eq_int, cmp_ne_int, cmp_lt_int, cmp_le_int, cmp_gt_int, cmp_ge_int, bin_add_int, bin_sub_int, cmp_in_one, items_str, items_tup, items_lst, bif_all, bif_len_tup, bif_len_lst, bif_len_dic, bif_tuple_lst, bif_tuple_tup, bif_list_lst, bif_list_tup, truth_bl, for_nil])
local macro_rules | `(tactic| walk_at "ev*") => `(tactic| simp only [List.getElem?_cons_zero, List.getElem?_cons_succ, List.getElem?_nil, List.set_cons_zero, List.set_cons_succ, List.replicate_succ, List.replicate_zero, List.cons_append, List.nil_append, Option.map_some, Option.map_none, Option.bind_some, if_true, if_false, ite_true, ite_false, Bool.not_true, Bool.not_false, Bool.false_eq_true, Bool.true_and, Bool.and_true, Bool.false_and, Bool.and_false, Bool.true_or, Bool.or_true, Bool.false_or, Bool.or_false, reduceIte, List.length_cons, List.length_nil, Nat.reduceAdd, Nat.reduceSub, Nat.reduceLeDiff, Nat.reduceLT, Int.reduceAdd, Int.reduceSub, Int.reduceNeg, Int.reduceLT, Int.reduceLE, Int.reduceEq, decide_true, decide_false, List.map_cons, List.map_nil, Bool.and_self, Bool.not_not, List.range_one, eq_self, PM.isInst, List.foldl_nil, PM.isIn, PM.evE_call, Option.map_none, bnd_ok, bnd_exc, of_some, nx_ok, evE_lit, evE_var, evE_tup, evE_lst, evE_bin, evE_cmp, evE_chn, evE_and, evE_or, evE_not, evE_ite, evE_sub, evE_slc, evE_rev, evE_bif, evE_isi, evE_met1, evE_fmt, evE_dict, evE_heard, evT_and, evT_or, evT_not, evT_val, evL_nil, evL_cons, evKV_nil, evKV_cons, evA_nil, evA_cons, evCs_nil, evCs_one, evI_val, evI_enum, evI_zip, evI_range, evS_set, evS_asg, evS_setk, evS_expr, evS_ret, evS_retN, evS_if, evS_for, evS_raise, evS_brk, evS_cont, evS_pass, evSs_nil, evSs_cons, range_0, permute_0, permuteR_0, permute_1, permuteR_1, range_2, permute_2, permuteR_2, range_3, permute_3, permuteR_3, range_4, permute_4, permuteR_4, range_5, permute_5, permuteR_5, takeA_nil, takeA_val, takeA_slot, backA_nil, backA_val, backA_slot, backA_no, outs_nil, outs_lent, outs_ov, mkO_nm, mkO_lit, mkO_tup, mkO_lst, mkO_dict, mkO_bin, mkO_cmp, mkO_chn, mkO_and, mkO_or, mkO_not, mkO_ite, mkO_sub, mkO_slc, mkO_rev, mkO_lc, mkO_dc, mkO_fmt, mkO_call, mkO_bif, mkO_isi, mkO_met1, mkO_fst, mkO_heard, mkA_f, mkA_t, rd_val, rd_slot, rdVar_eq, putS_eq, bind1_nm, bind1_tp, binds_nil, binds_cons, flat_frz, flat_lst, flat_lst0, flat_lst1, flat_dic, cool_frz, d_frz, cool_lst, d_lst, cool_lst0, d_lst0, cool_dic, d_dic, gd_true, gd_false, bls_map, plain_str, plain_int, plain_bl, plain_non, plain_tup, plain_lst, plains_nil, plains_cons, isPy_str, isPy_int, isPy_bl, isPy_non, isPy_tup, isPy_lst, shal_str, shal_int, shal_bl, shal_non, eqv_str, eqv_int, eqv_bl, cmp_eq_str, cmp_ne_str, cmp_eq_int, cmp_ne_int, cmp_lt_int, cmp_le_int, cmp_gt_int, cmp_ge_int, bin_add_int, bin_sub_int, cmp_in_one, items_str, items_tup, items_lst, bif_all, bif_len_tup, bif_len_lst, bif_len_dic, bif_tuple_lst, bif_tuple_tup, bif_list_lst, bif_list_tup, truth_bl, for_nil, *])
theorem seq_nx {orc : Orc} {s : S} {r : Ss} {en en' : En} (h : evS orc s en = .ok .nx en') : evSs orc (.cons s r) en = evSs orc r en' := by rw [evSs_cons, h, bnd_ok]
def LotOk (l : List (List D)) : Prop := (∀ u ∈ l, valsAll u ∧ u.length ≤ 3) ∧ l.Nodup ∧ l.length ≤ 11
theorem LotOk.vals {l : List (List D)} (h : LotOk l) : ∀ u ∈ l, valsAll u := fun u hu => (h.1 u hu).1
theorem LotOk.short {l : List (List D)} (h : LotOk l) : ∀ u ∈ l, u.length ≤ 100 := fun u hu => by have := (h.1 u hu).2; omega
theorem LotOk.perm {l m : List (List D)} (h : LotOk l) (p : m.Perm l) : LotOk m := ⟨fun u hu => h.1 u (p.mem_iff.mp hu), p.nodup_iff.mpr h.2.1, by rw [p.length_eq]; exact h.2.2⟩
theorem tame_lot {n : Nat} : ∀ {l : List (List D)}, (∀ u ∈ l, valsAll u ∧ u.length ≤ 3) → D.tames (n + 1) (l.map .tup) = true ∧ D.wts (l.map .tup) ≤ 300 * l.length
  | [], _ => ⟨rfl, Nat.zero_le _⟩
  | u :: l, h => by
    obtain ⟨a, b⟩ := tame_lot (n := n) (l := l) fun w hw => h w (List.mem_cons_of_mem _ hw)
    obtain ⟨c1, c2⟩ := h u (List.mem_cons_self ..)
    obtain ⟨d1, d2⟩ := tame_vals (n := n) c1
    refine ⟨by simp only [List.map_cons, D.tames, D.tame, a, d1, Bool.and_self], ?_⟩
    simp only [List.map_cons, D.wts, D.wt, List.length_cons]
    omega
theorem tames_app {n : Nat} {a b : List D} (h1 : D.tames n a = true) (h2 : D.tames n b = true) : D.tames n (a ++ b) = true := by
  rw [tames_all] at *
  rw [List.all_append, h1, h2]; rfl
theorem wts_app {a b : List D} : D.wts (a ++ b) = D.wts a + D.wts b := by
  rw [wts_sum, wts_sum, wts_sum, List.map_append, List.sum_append]
theorem shows_values {d : D} (h : d.tame 4 = true) (hw : d.wt ≤ 100000) : (D.tup [.str "values", d]).shows = true := shows_of (n := 5) (by
    have e : D.tame 4 (D.str "values") = true := by kernel_rfl
    simp only [D.tame, D.tames, h, Bool.and_true]
    exact e) (by decide) (by
    have e : (D.str "values").wt = 62 := by decide +kernel
    simp only [D.wt, D.wts] at e ⊢
    rw [size24]; omega)
theorem mul_tup {d : D} : opBin .mul (.tup [d]) (.int 4) = some (.frz (.tup [d, d, d, d])) := by
  simp only [opBin]
  rw [gd, if_pos ⟨by simp, by decide, by decide, by simp⟩]
  rfl
theorem mul_tup2 {d : D} : opBin .mul (.tup [d]) (.int 2) = some (.frz (.tup [d, d])) := by
  simp only [opBin]
  rw [gd, if_pos ⟨by simp, by decide, by decide, by simp⟩]
  rfl
section
variable {j x1 x3 x4 x5 x6 x8 x9 x10 x11 : Sl} {l : List (List D)} {vs : List D}
theorem t4_ok (h : LotOk l) (h9 : anyS x9) : evS O__law_bears T4 (bEn j x1 x3 x4 x5 x6 (.ov (.frz (.tup (l.map .tup)))) x8 x9 x10 x11) = .ok .nx (bEn j x1 x3 x4 x5 x6 (.ov (.frz (.tup (l.map .tup)))) x8 (.ov (.frz (.tup ((tsort l).map .tup)))) x10 x11) := by
  have s := law_sorted_ok h.vals (by have := h.2.2; omega)
  have e : O__law_bears 29 = F__law_sorted := rfl
  unfold T4
  rw [evS_set, call_1 (d := .tup (l.map .tup)) (r := .tup ((tsort l).map .tup)) rfl (by rw [e]; exact s), bnd_ok, put_any (s := x9) rfl h9]
  rfl
theorem t5_ok (h : LotOk l) : evS O__law_bears T5 (bEn j x1 x3 x4 x5 x6 (.ov (.frz (.tup (l.map .tup)))) x8 (.ov (.frz (.tup ((tsort l).map .tup)))) x10 x11) =
    .ok .nx (bEn j x1 x3 x4 x5 x6 (.ov (.frz (.tup (l.map .tup)))) x8 (.ov (.frz (.tup ((tsort l).map .tup)))) x10 x11) := by
  have hs := h.perm (tsort_perm l)
  have hr := h.perm (List.reverse_perm l)
  have a1 := ascending_ok h.vals h.short (by have := h.2.2; omega) h.2.1
  have a2 := ascending_ok hs.vals hs.short (by have := hs.2.2; omega) hs.2.1
  have a3 := ascending_ok hr.vals hr.short (by have := hr.2.2; omega) hr.2.1
  rw [tsort_eq hs.vals (tsort_perm l)] at a2
  rw [tsort_eq hr.vals (List.reverse_perm l), List.map_reverse] at a3
  have tl := tame_lot (n := 0) hs.1
  have sh : (D.tup [.tup ((tsort l).map .tup), .tup ((tsort l).map .tup), .tup ((tsort l).map .tup), .tup ((tsort l).map .tup)]).shows = true := shows_of (n := 3) (by
    simp only [D.tame, D.tames, tl.1, Bool.and_self]) (by decide) (by
    have := tl.2
    have := hs.2.2
    simp only [D.wt, D.wts]
    rw [size24]; omega)
  have eq := equal_ok sh
  have mu := mul_tup (d := .tup ((tsort l).map .tup))
  have e20 : O__law_bears 20 = F_ascending := rfl
  have e24 : O__law_bears 24 = F__law_equal := rfl
  have z1 : (1 : Nat) ≤ sizeLine := by decide
  have z4 : (4 : Nat) ≤ sizeLine := by decide
  unfold T5 bEn
  generalize (tsort l).map D.tup = ts at *
  generalize l.map D.tup = ls at *
  clear h hs hr sh tl
  walk_at "ev*"
def oddL (L : List D) : List D := [.non, .lst L, .tup (L ++ [.str "a"]), .tup (L ++ [.tup [.bl true]]), .tup (L ++ [.tup [.str "A"]]), .tup (L ++ [.lst [.int 1]]), .tup (L ++ [.non]), .tup (L ++ [.tup [.int 1, .int 10000]]), .str "a", .int 5, .tup (L ++ [.tup [.tup [.str "a"]]])]
theorem t6_ok {L : List D} (h : L.length ≤ 1000) (h10 : anyS x10) : evS O__law_bears T6 (bEn j x1 x3 x4 x5 x6 (.ov (.frz (.tup L))) x8 x9 x10 x11) = .ok .nx (bEn j x1 x3 x4 x5 x6 (.ov (.frz (.tup L))) x8 x9 (.ov (.lst ((oddL L).map .frz))) x11) := by
  have ad : ∀ x : D, opBin .add (.tup L) (.tup [x]) = some (.frz (.tup (L ++ [x]))) := fun x => by
    simp only [opBin]
    rw [gd, if_pos (by rw [List.length_singleton, size24]; omega)]
  have z1 : (1 : Nat) ≤ sizeLine := by decide
  have z2 : (2 : Nat) ≤ sizeLine := by decide
  have z11 : (11 : Nat) ≤ sizeLine := by decide
  have c1 : (OV.lst [.frz (.int 1)]).cool = true := rfl
  have d1 : (OV.lst [.frz (.int 1)]).d = .lst [.int 1] := rfl
  have ex : ∀ en, en = bEn j x1 x3 x4 x5 x6 (.ov (.frz (.tup L))) x8 x9 x10 x11 → evS O__law_bears T6 en = (match putS 10 (.lst ((oddL L).map .frz)) en with
      | some en' => .ok .nx en'
      | none => .bad) := by
    rintro en rfl
    unfold T6 bEn
    rw [evS_set]
    have key : ∀ p : OV → Option En, (∀ o, putS 10 o [j, x1, .no, x3, x4, x5, x6, .ov (.frz (.tup L)), x8, x9, x10, x11] = p o) → True := fun _ _ => trivial
    generalize hp : (fun (o : OV) (en : En) => (match putS 10 o en with
      | some en' => Out.ok Fl.nx en'
      | none => .bad)) = pf
    clear h h10
    walk_at "ev*"
    rw [← hp]
    rfl
  rw [ex _ rfl, put_any (s := x10) rfl h10]
  rfl
end
end K02

namespace K02
open PySem PM TL NumText
local macro_rules | `(tactic| walk_at "ev") => `(tactic| simp only [List.getElem?_cons_zero, List.getElem?_cons_succ, List.getElem?_nil, List.set_cons_zero, List.set_cons_succ, List.replicate_succ, List.replicate_zero, List.cons_append, List.nil_append, Option.map_some, Option.map_none, Option.bind_some, if_true, if_false, ite_true, ite_false, Bool.not_true, Bool.not_false, Bool.false_eq_true, Bool.true_and, Bool.and_true, Bool.false_and, Bool.and_false, Bool.true_or, Bool.or_true, Bool.false_or, Bool.or_false, reduceIte, List.length_cons, List.length_nil, Nat.reduceAdd, Nat.reduceSub, Nat.reduceLeDiff, Nat.reduceLT, Int.reduceAdd, Int.reduceSub, Int.reduceNeg, Int.reduceLT, Int.reduceLE, Int.reduceEq, decide_true, decide_false, List.map_cons, List.map_nil, Bool.and_self, Bool.not_not, List.range_one, eq_self, PM.isInst, List.foldl_nil, PM.isIn, PM.evE_call, Option.map_none, bnd_ok, bnd_exc, of_some, nx_ok, evE_lit, evE_var, evE_tup, evE_lst, evE_bin, evE_cmp, evE_chn, evE_and, evE_or, evE_not, evE_ite, evE_sub, evE_slc, evE_rev, evE_bif, evE_isi, evE_met1, evE_fmt, evE_dict, evE_heard, evT_and, evT_or, evT_not, evT_val, evL_nil, evL_cons, evKV_nil, evKV_cons, evA_nil, evA_cons, evCs_nil, evCs_one, evI_val, evI_enum, evI_zip, evI_range, evS_set, evS_asg, evS_setk, evS_expr, evS_ret, evS_retN, evS_if, evS_for, evS_raise, evS_brk, evS_cont, evS_pass, evSs_nil, evSs_cons, range_0, permute_0, permuteR_0, permute_1, permuteR_1, range_2, permute_2, permuteR_2, range_3, permute_3, permuteR_3, range_4, permute_4, permuteR_4, range_5, permute_5, permuteR_5, takeA_nil, takeA_val, takeA_slot, backA_nil, backA_val, backA_slot, backA_no, outs_nil, outs_lent, outs_ov, mkO_nm, mkO_lit, mkO_tup, mkO_lst, mkO_dict, mkO_bin, mkO_cmp, mkO_chn, mkO_and, mkO_or, mkO_not, mkO_ite, mkO_sub, mkO_slc, mkO_rev, mkO_lc, mkO_dc, mkO_fmt, mkO_call, mkO_bif, mkO_isi, mkO_met1, mkO_fst, mkO_heard, mkA_f, mkA_t, rd_val, rd_slot, rdVar_eq, putS_eq, bind1_nm, bind1_tp, binds_nil, binds_cons, flat_frz, flat_lst, flat_lst0, flat_lst1, flat_dic, cool_frz, d_frz, cool_lst, d_lst, cool_lst0, d_lst0, cool_dic, d_dic, gd_true, gd_false, bls_map, plain_str, plain_int, plain_bl, plain_non, plain_tup, plain_lst, plains_nil, plains_cons, isPy_str, isPy_int, isPy_bl, isPy_non, isPy_tup, isPy_lst, shal_str, shal_int, shal_bl, shal_non, eqv_str, eqv_int, eqv_bl, cmp_eq_str, cmp_ne_str, cmp_eq_int, cmp_ne_int, cmp_lt_int, cmp_le_int, cmp_gt_int, cmp_ge_int, bin_add_int, bin_sub_int, cmp_in_one, items_str, items_tup, items_lst, bif_all, bif_len_tup, bif_len_lst, bif_len_dic, bif_tuple_lst, bif_tuple_tup, bif_list_lst, bif_list_tup, truth_bl, for_nil])
local macro_rules | `(tactic| walk_at "ev*") => `(tactic| simp only [List.getElem?_cons_zero, List.getElem?_cons_succ, List.getElem?_nil, List.set_cons_zero, List.set_cons_succ, List.replicate_succ, List.replicate_zero, List.cons_append, List.nil_append, Option.map_some, Option.map_none, Option.bind_some, if_true, if_false, ite_true, ite_false, Bool.not_true, Bool.not_false, Bool.false_eq_true, Bool.true_and, Bool.and_true, Bool.false_and, Bool.and_false, Bool.true_or, Bool.or_true, Bool.false_or, Bool.or_false, reduceIte, List.length_cons, List.length_nil, Nat.reduceAdd, Nat.reduceSub, Nat.reduceLeDiff, Nat.reduceLT, Int.reduceAdd, Int.reduceSub, Int.reduceNeg, Int.reduceLT, Int.reduceLE, Int.reduceEq, decide_true, decide_false, List.map_cons, List.map_nil, Bool.and_self, Bool.not_not, List.range_one, eq_self, PM.isInst, List.foldl_nil, PM.isIn, PM.evE_call, Option.map_none, bnd_ok, bnd_exc, of_some, nx_ok, evE_lit, evE_var, evE_tup, evE_lst, evE_bin, evE_cmp, evE_chn, evE_and, evE_or, evE_not, evE_ite, evE_sub, evE_slc, evE_rev, evE_bif, evE_isi, evE_met1, evE_fmt, evE_dict, evE_heard, evT_and, evT_or, evT_not, evT_val, evL_nil, evL_cons, evKV_nil, evKV_cons, evA_nil, evA_cons, evCs_nil, evCs_one, evI_val, evI_enum, evI_zip, evI_range, evS_set, evS_asg, evS_setk, evS_expr, evS_ret, evS_retN, evS_if, evS_for, evS_raise, evS_brk, evS_cont, evS_pass, evSs_nil, evSs_cons, range_0, permute_0, permuteR_0, permute_1, permuteR_1, range_2, permute_2, permuteR_2, range_3, permute_3, permuteR_3, range_4, permute_4, permuteR_4, range_5, permute_5, permuteR_5, takeA_nil, takeA_val, takeA_slot, backA_nil, backA_val, backA_slot, backA_no, outs_nil, outs_lent, outs_ov, mkO_nm, mkO_lit, mkO_tup, mkO_lst, mkO_dict, mkO_bin, mkO_cmp, mkO_chn, mkO_and, mkO_or, mkO_not, mkO_ite, mkO_sub, mkO_slc, mkO_rev, mkO_lc, mkO_dc, mkO_fmt, mkO_call, mkO_bif, mkO_isi, mkO_met1, mkO_fst, mkO_heard, mkA_f, mkA_t, rd_val, rd_slot, rdVar_eq, putS_eq, bind1_nm, bind1_tp, binds_nil, binds_cons, flat_frz, flat_lst, flat_lst0, flat_lst1, flat_dic, cool_frz, d_frz, cool_lst, d_lst, cool_lst0, d_lst0, cool_dic, d_dic, gd_true, gd_false, bls_map, plain_str, plain_int, plain_bl, plain_non, plain_tup, plain_lst, plains_nil, plains_cons, isPy_str, isPy_int, isPy_bl, isPy_non, isPy_tup, isPy_lst, shal_str, shal_int, shal_bl, shal_non, eqv_str, eqv_int, eqv_bl, cmp_eq_str, cmp_ne_str, cmp_eq_int, cmp_ne_int, cmp_lt_int, cmp_le_int, cmp_gt_int, cmp_ge_int, bin_add_int, bin_sub_int, cmp_in_one, items_str, items_tup, items_lst, bif_all, bif_len_tup, bif_len_lst, bif_len_dic, bif_tuple_lst, bif_tuple_tup, bif_list_lst, bif_list_tup, truth_bl, for_nil, *])
/-- a thing that is refused whole -/
def heardE (k : Nat) : E := .call 24 (.cons (.heard (.pair "told") [([1], (.pair "text")), ([0], (.pair "values")), ([0, 1], (.const (.frz (.tup [(.str "other"), .non]))))] (.call k (.cons (.var 2) .nil) [false] (List.range 1))) (.cons (.tup (.cons (.lit (.str "values")) (.cons (.var 2) .nil))) .nil)) [false, false] (List.range 2)
theorem pick_values : pick0 0 [([1], HK0.pair "text"), ([0], .pair "values"), ([0, 1], .const (.frz (.tup [(.str "other"), .non])))] = some (.pair "values") := rfl
theorem heard_ok {k : Nat} {d : D} {j x1 x3 x4 x5 x6 x7 x8 x9 x10 x11 : Sl} (ho : O__law_bears k [.ov (.frz d)] = .exc 0 d [none]) (h : (D.tup [.str "values", d]).shows = true) :
    evE O__law_bears (heardE k) [j, x1, .ov (.frz d), x3, x4, x5, x6, x7, x8, x9, x10, x11] = .ok (.frz (.bl true)) [j, x1, .ov (.frz d), x3, x4, x5, x6, x7, x8, x9, x10, x11] := by
  have eq := equal_ok h
  have e24 : O__law_bears 24 = F__law_equal := rfl
  have pk := pick_values
  have hr : (HK0.pair "values").res d = .frz (.tup [.str "values", d]) := rfl
  have z2 : (2 : Nat) ≤ sizeLine := by decide
  unfold heardE
  clear h
  walk_at "ev*"
theorem all_true {ds : List D} : opBif .all (.lst (ds.map fun _ => .bl true)) = some (.frz (.bl true)) := by
  have := bif_all (f := fun _ : D => true) (l := ds)
  rw [this]
  congr 3
  exact List.all_eq_true.mpr fun _ _ => rfl
/-- a test over a list that a name owns -/
theorem all_owned {elt : E} {i : Nat} {en en0 : En} {ds : List D} (hi : evI O__law_bears (.val (.var i)) en = .ok ds en0) (h2 : en0[2]? = some .no) (hn : ds.length ≤ sizeLine) (he : ∀ d ∈ ds, evE O__law_bears elt (en0.set 2 (.ov (.frz d))) = .ok (.frz (.bl true)) (en0.set 2 (.ov (.frz d)))) :
    evS O__law_bears (.if_ (.not (.val (.bif .all (.lc elt (.nm 2) (.val (.var i)) .nil [2])))) (.cons (.ret (.lit (.bl false))) .nil) .nil) en = .ok .nx en0 := by
  have lc := lc_one0 (orc := O__law_bears) (elt := elt) (i := 2) (f := fun _ => .bl true) hi h2 rfl he hn
  have at_ := @all_true ds
  clear he hi h2 hn
  walk_at "ev*"
theorem odd_bad {l : List (List D)} (h : LotOk l) {x : D} (hp : x.isPy = true) (hf : fitsAll x) (hv : valsOk x = false) (ht : x.tame 3 = true) (hw : x.wt ≤ 1000) :
    F_ascending [.ov (.frz (.tup (l.map .tup ++ [x])))] = .exc 0 (.tup (l.map .tup ++ [x])) [none] ∧ (D.tup [.str "values", .tup (l.map .tup ++ [x])]).shows = true := by
  have ln : (l.map D.tup).length = l.length := List.length_map ..
  refine ⟨ascending_no2 (by rw [List.length_append, List.length_singleton, ln]; have := h.2.2; omega) (fun d hd => ?_) ?_, shows_values ?_ ?_⟩
  · rcases List.mem_append.mp hd with hd | hd
    · exact tups_py h.vals h.short d hd
    · rw [List.mem_singleton.mp hd]; exact ⟨hp, hf⟩
  · rw [List.all_append]
    simp [hv]
  · simp only [D.tame]
    exact tames_app (tame_lot (n := 2) h.1).1 (by simp only [D.tames, ht, Bool.and_true])
  · have := (tame_lot (n := 2) h.1).2
    have := h.2.2
    simp only [D.wt, wts_app, D.wts]
    omega
theorem no_tup {d : D} (h : d.isPy = true) (nt : isIn .tuple d = false) (ht : d.tame 4 = true) (hw : d.wt ≤ 100000) : F_ascending [.ov (.frz d)] = .exc 0 d [none] ∧ (D.tup [.str "values", d]).shows = true := ⟨ascending_no1 h nt, shows_values ht hw⟩
theorem fits1 {ds : List D} (h : (decide (ds.length ≤ 100) && ds.all fits) = true) : fitsAll (.tup ds) := by
  simp only [Bool.and_eq_true, decide_eq_true_eq, List.all_eq_true] at h
  exact ⟨by rw [size24]; omega, h.2⟩
theorem odd_ok {l : List (List D)} (h : LotOk l) : ∀ d ∈ oddL (l.map .tup), F_ascending [.ov (.frz d)] = .exc 0 d [none] ∧ (D.tup [.str "values", d]).shows = true := by
  intro d hd
  have tl := tame_lot (n := 2) h.1
  have hn := h.2.2
  simp only [oddL, List.mem_cons, List.not_mem_nil, or_false] at hd
  rcases hd with rfl | rfl | rfl | rfl | rfl | rfl | rfl | rfl | rfl | rfl | rfl
  · exact no_tup rfl rfl rfl (by decide)
  · refine no_tup ?_ rfl ?_ ?_
    · rw [isPy_lst]; exact tups_isPy h.vals
    · simp only [D.tame]; exact tl.1
    · simp only [D.wt]; omega
  · exact odd_bad h rfl trivial rfl rfl (by decide +kernel)
  · exact odd_bad h rfl (fits1 (by decide +kernel)) rfl rfl (by decide +kernel)
  · exact odd_bad h rfl (fits1 (by decide +kernel)) (by kernel_rfl) (by kernel_rfl) (by decide +kernel)
  · exact odd_bad h rfl trivial rfl (by kernel_rfl) (by decide +kernel)
  · exact odd_bad h rfl trivial rfl rfl (by decide +kernel)
  · exact odd_bad h rfl (fits1 (by decide +kernel)) (by kernel_rfl) (by kernel_rfl) (by simp only [D.wt, D.wts]; omega)
  · exact no_tup rfl rfl (by kernel_rfl) (by decide +kernel)
  · exact no_tup rfl rfl (by kernel_rfl) (by decide +kernel)
  · exact odd_bad h rfl (fits1 (by decide +kernel)) (by kernel_rfl) (by kernel_rfl) (by decide +kernel)
section
variable {j x1 x3 x4 x5 x6 x7 x8 x9 x10 x11 : Sl} {l : List (List D)} {vs : List D}
theorem t7_ok (h : LotOk l) : evS O__law_bears T7 (bEn j x1 x3 x4 x5 x6 x7 x8 x9 (.ov (.lst ((oddL (l.map .tup)).map .frz))) x11) = .ok .nx (bEn j x1 x3 x4 x5 x6 x7 x8 x9 (.ov (.frz (.lst (oddL (l.map .tup))))) x11) := by
  refine all_owned (elt := heardE 20) (ds := oddL (l.map .tup)) (by walk_at "ev") rfl (by show 11 ≤ sizeLine; decide) fun d hd => ?_
  obtain ⟨a, b⟩ := odd_ok h d hd
  exact heard_ok a b
theorem t8_ok (h : LotOk l) : evS O__law_bears T8 (bEn j x1 x3 x4 x5 x6 (.ov (.frz (.tup (l.map .tup)))) x8 x9 x10 x11) = .ok .nx (bEn j x1 x3 x4 x5 x6 (.ov (.frz (.tup (l.map .tup)))) x8 x9 x10 x11) := by
  have pl : D.plains (l.map .tup) = true := by
    rw [plains_iff, List.all_map]
    exact List.all_eq_true.mpr fun u hu => by
      show (D.tup u).plain = true
      rw [plain_tup]; exact (vals_flat (h.vals u hu)).1
  have ne := ne_nil_D pl
  have z0 : (0 : Nat) ≤ sizeLine := by decide
  cases l with
  | nil =>
    simp only [List.map_nil, List.isEmpty_nil, Bool.not_true] at ne ⊢
    unfold T8 bEn
    clear h pl
    walk_at "ev*"
  | cons t r =>
    have ex := ascending_no3 h.vals h.short (by have := h.2.2; omega) h.2.1 (List.mem_cons_self ..)
    have sl : (D.tup ((t :: r).map .tup)).slc .non (.int 1) = some (.frz (.tup [.tup t])) := by
      simp only [D.slc, D.bnd, cutL, HT.sIx]
      rw [if_neg (by omega), List.drop_zero, Nat.sub_zero]
      have : min (Int.toNat 1) ((t :: r).map D.tup).length = 1 := by
        rw [List.length_map, List.length_cons]
        show min 1 (r.length + 1) = 1
        omega
      rw [this]
      rfl
    have ad : opBin .add (.tup ((t :: r).map .tup)) (.tup [.tup t]) = some (.frz (.tup ((t :: r ++ [t]).map .tup))) := by
      have := h.2.2
      simp only [opBin]
      rw [gd, if_pos (by rw [List.length_map, List.length_singleton, size24]; omega), List.map_append]
      rfl
    have sh : (D.tup [.str "values", .tup ((t :: r ++ [t]).map .tup)]).shows = true := by
      have h2 : ∀ u ∈ t :: r ++ [t], valsAll u ∧ u.length ≤ 3 := fun u hu => by
        rcases List.mem_append.mp hu with hu | hu
        · exact h.1 u hu
        · rw [List.mem_singleton.mp hu]; exact h.1 t (List.mem_cons_self ..)
      have tl := tame_lot (n := 2) h2
      have := h.2.2
      refine shows_values (by simp only [D.tame]; exact tl.1) ?_
      have := tl.2
      rw [List.length_append, List.length_singleton] at this
      simp only [D.wt]
      omega
    have eq := equal_ok sh
    simp only [List.map_cons, List.isEmpty_cons, Bool.not_false] at ne
    rw [← List.map_cons (f := D.tup)] at ne
    have e20 : O__law_bears 20 = F_ascending := rfl
    have e24 : O__law_bears 24 = F__law_equal := rfl
    have pk := pick_values
    have hr : ∀ d, (HK0.pair "values").res d = .frz (.tup [.str "values", d]) := fun d => rfl
    have z2 : (2 : Nat) ≤ sizeLine := by decide
    unfold T8 bEn
    generalize (t :: r ++ [t]).map D.tup = ls2 at *
    generalize (t :: r).map D.tup = ls at *
    clear h pl sh
    walk_at "ev*"
def wrongL (V : List D) : List D := [.non, .lst V, .tup (V ++ [.non]), .tup (V ++ [.tup []]), .tup (V ++ [.bl true]), .str "a", .int 5, .tup (V ++ [.str "a b"])]
theorem t9_ok {L : List D} (h : L.length ≤ 1000) (h11 : anyS x11) : evS O__law_bears T9 (bEn j x1 x3 (.ov (.frz (.tup L))) x5 x6 x7 x8 x9 x10 x11) = .ok .nx (bEn j x1 x3 (.ov (.frz (.tup L))) x5 x6 x7 x8 x9 x10 (.ov (.lst ((wrongL L).map .frz)))) := by
  have ad : ∀ x : D, opBin .add (.tup L) (.tup [x]) = some (.frz (.tup (L ++ [x]))) := fun x => by
    simp only [opBin]
    rw [gd, if_pos (by rw [List.length_singleton, size24]; omega)]
  have z0 : (0 : Nat) ≤ sizeLine := by decide
  have z1 : (1 : Nat) ≤ sizeLine := by decide
  have z8 : (8 : Nat) ≤ sizeLine := by decide
  have ex : ∀ en, en = bEn j x1 x3 (.ov (.frz (.tup L))) x5 x6 x7 x8 x9 x10 x11 → evS O__law_bears T9 en = (match putS 11 (.lst ((wrongL L).map .frz)) en with
      | some en' => .ok .nx en'
      | none => .bad) := by
    rintro en rfl
    unfold T9 bEn
    rw [evS_set]
    generalize hp : (fun (o : OV) (en : En) => (match putS 11 o en with
      | some en' => Out.ok Fl.nx en'
      | none => .bad)) = pf
    clear h h11
    walk_at "ev*"
    rw [← hp]
    rfl
  rw [ex _ rfl, put_any (s := x11) rfl h11]
  rfl
theorem wrong_bad (h : valsAll vs) (hn : vs.length ≤ 5) {x : D} (hp : x.isPy = true) (hf : fits x = true) (hv : valOk x = false) (ht : x.tame 3 = true) (hw : x.wt ≤ 1000) :
    F_values_text [.ov (.frz (.tup (vs ++ [x])))] = .exc 0 (.tup (vs ++ [x])) [none] ∧ (D.tup [.str "values", .tup (vs ++ [x])]).shows = true := by
  refine ⟨values_text_no ?_ ⟨by rw [List.length_append, List.length_singleton, size24]; omega, fun d hd => ?_⟩ ?_, shows_values ?_ ?_⟩
  · rw [isPy_tup, List.all_append]
    have := vals_py h
    rw [isPy_tup] at this
    simp [this, hp]
  · rcases List.mem_append.mp hd with hd | hd
    · exact val_fits (h d hd)
    · rw [List.mem_singleton.mp hd]; exact hf
  · show (vs ++ [x]).all valOk = false
    rw [List.all_append]
    simp [hv]
  · simp only [D.tame]
    exact tames_app (tame_vals (n := 3) h).1 (by simp only [D.tames, ht, Bool.and_true])
  · have := (tame_vals (n := 3) h).2
    simp only [D.wt, wts_app, D.wts]
    omega
theorem wrong_no {d : D} (h : d.isPy = true) (hf : fitsAll d) (hv : valsOk d = false) (ht : d.tame 4 = true) (hw : d.wt ≤ 100000) : F_values_text [.ov (.frz d)] = .exc 0 d [none] ∧ (D.tup [.str "values", d]).shows = true := ⟨values_text_no h hf hv, shows_values ht hw⟩
theorem wrong_ok (h : valsAll vs) (hn : vs.length ≤ 5) : ∀ d ∈ wrongL vs, F_values_text [.ov (.frz d)] = .exc 0 d [none] ∧ (D.tup [.str "values", d]).shows = true := by
  intro d hd
  simp only [wrongL, List.mem_cons, List.not_mem_nil, or_false] at hd
  rcases hd with rfl | rfl | rfl | rfl | rfl | rfl | rfl | rfl
  · exact wrong_no rfl trivial rfl rfl (by decide)
  · refine wrong_no ?_ trivial rfl ?_ ?_
    · have := vals_py h
      rw [isPy_tup] at this
      rw [isPy_lst]; exact this
    · simp only [D.tame]; exact (tame_vals (n := 3) h).1
    · have := (tame_vals (n := 3) h).2
      simp only [D.wt]; omega
  · exact wrong_bad h hn rfl rfl rfl rfl (by decide +kernel)
  · exact wrong_bad h hn rfl (by kernel_rfl) rfl rfl (by decide +kernel)
  · exact wrong_bad h hn rfl rfl rfl rfl (by decide +kernel)
  · exact wrong_no rfl trivial rfl (by kernel_rfl) (by decide +kernel)
  · exact wrong_no rfl trivial rfl (by kernel_rfl) (by decide +kernel)
  · exact wrong_bad h hn rfl (fits_str (by decide +kernel)) (by kernel_rfl) (by kernel_rfl) (by decide +kernel)
theorem t10_ok (h : valsAll vs) (hn : vs.length ≤ 5) : evS O__law_bears T10 (bEn j x1 x3 x4 x5 x6 x7 x8 x9 x10 (.ov (.lst ((wrongL vs).map .frz)))) = .ok .nx (bEn j x1 x3 x4 x5 x6 x7 x8 x9 x10 (.ov (.frz (.lst (wrongL vs))))) := by
  refine all_owned (elt := heardE 18) (ds := wrongL vs) (by walk_at "ev") rfl (by show 8 ≤ sizeLine; decide) fun d hd => ?_
  obtain ⟨a, b⟩ := wrong_ok h hn d hd
  exact heard_ok a b
end
end K02

namespace K02
open PySem PM TL NumText
local macro_rules | `(tactic| walk_at "ev") => `(tactic| simp only [List.getElem?_cons_zero, List.getElem?_cons_succ, List.getElem?_nil, List.set_cons_zero, List.set_cons_succ, List.replicate_succ, List.replicate_zero, List.cons_append, List.nil_append, Option.map_some, Option.map_none, Option.bind_some, if_true, if_false, ite_true, ite_false, Bool.not_true, Bool.not_false, Bool.false_eq_true, Bool.true_and, Bool.and_true, Bool.false_and, Bool.and_false, Bool.true_or, Bool.or_true, Bool.false_or, Bool.or_false, reduceIte, List.length_cons, List.length_nil, Nat.reduceAdd, Nat.reduceSub, Nat.reduceLeDiff, Nat.reduceLT, Int.reduceAdd, Int.reduceSub, Int.reduceNeg, Int.reduceLT, Int.reduceLE, Int.reduceEq, decide_true, decide_false, List.map_cons, List.map_nil, Bool.and_self, Bool.not_not, List.range_one, eq_self, PM.isInst, List.foldl_nil, PM.isIn, PM.evE_call, Option.map_none, bnd_ok, bnd_exc, of_some, nx_ok, evE_lit, evE_var, evE_tup, evE_lst, evE_bin, evE_cmp, evE_chn, evE_and, evE_or, evE_not, evE_ite, evE_sub, evE_slc, evE_rev, evE_bif, evE_isi, evE_met1, evE_fmt, evE_dict, evE_heard, evT_and, evT_or, evT_not, evT_val, evL_nil, evL_cons, evKV_nil, evKV_cons, evA_nil, evA_cons, evCs_nil, evCs_one, evI_val, evI_enum, evI_zip, evI_range, evS_set, evS_asg, evS_setk, evS_expr, evS_ret, evS_retN, evS_if, evS_for, evS_raise, evS_brk, evS_cont, evS_pass, evSs_nil, evSs_cons, range_0, permute_0, permuteR_0, permute_1, permuteR_1, range_2, permute_2, permuteR_2, range_3, permute_3, permuteR_3, range_4, permute_4, permuteR_4, range_5, permute_5, permuteR_5, takeA_nil, takeA_val, takeA_slot, backA_nil, backA_val, backA_slot, backA_no, outs_nil, outs_lent, outs_ov, mkO_nm, mkO_lit, mkO_tup, mkO_lst, mkO_dict, mkO_bin, mkO_cmp, mkO_chn, mkO_and, mkO_or, mkO_not, mkO_ite, mkO_sub, mkO_slc, mkO_rev, mkO_lc, mkO_dc, mkO_fmt, mkO_call, mkO_bif, mkO_isi, mkO_met1, mkO_fst, mkO_heard, mkA_f, mkA_t, rd_val, rd_slot, rdVar_eq, putS_eq, bind1_nm, bind1_tp, binds_nil, binds_cons, flat_frz, flat_lst, flat_lst0, flat_lst1, flat_dic, cool_frz, d_frz, cool_lst, d_lst, cool_lst0, d_lst0, cool_dic, d_dic, gd_true, gd_false, bls_map, plain_str, plain_int, plain_bl, plain_non, plain_tup, plain_lst, plains_nil, plains_cons, isPy_str, isPy_int, isPy_bl, isPy_non, isPy_tup, isPy_lst, shal_str, shal_int, shal_bl, shal_non, eqv_str, eqv_int, eqv_bl, cmp_eq_str, cmp_ne_str, cmp_eq_int, cmp_ne_int, cmp_lt_int, cmp_le_int, cmp_gt_int, cmp_ge_int, bin_add_int, bin_sub_int, cmp_in_one, items_str, items_tup, items_lst, bif_all, bif_len_tup, bif_len_lst, bif_len_dic, bif_tuple_lst, bif_tuple_tup, bif_list_lst, bif_list_tup, truth_bl, for_nil])
local macro_rules | `(tactic| walk_at "ev*") => `(tactic| simp only [List.getElem?_cons_zero, List.getElem?_cons_succ, List.getElem?_nil, List.set_cons_zero, List.set_cons_succ, List.replicate_succ, List.replicate_zero, List.cons_append, List.nil_append, Option.map_some, Option.map_none, Option.bind_some, if_true, if_false, ite_true, ite_false, Bool.not_true, Bool.not_false, Bool.false_eq_true, Bool.true_and, Bool.and_true, Bool.false_and, Bool.and_false, Bool.true_or, Bool.or_true, Bool.false_or, Bool.or_false, reduceIte, List.length_cons, List.length_nil, Nat.reduceAdd, Nat.reduceSub, Nat.reduceLeDiff, Nat.reduceLT, Int.reduceAdd, Int.reduceSub, Int.reduceNeg, Int.reduceLT, Int.reduceLE, Int.reduceEq, decide_true, decide_false, List.map_cons, List.map_nil, Bool.and_self, Bool.not_not, List.range_one, eq_self, PM.isInst, List.foldl_nil, PM.isIn, PM.evE_call, Option.map_none, bnd_ok, bnd_exc, of_some, nx_ok, evE_lit, evE_var, evE_tup, evE_lst, evE_bin, evE_cmp, evE_chn, evE_and, evE_or, evE_not, evE_ite, evE_sub, evE_slc, evE_rev, evE_bif, evE_isi, evE_met1, evE_fmt, evE_dict, evE_heard, evT_and, evT_or, evT_not, evT_val, evL_nil, evL_cons, evKV_nil, evKV_cons, evA_nil, evA_cons, evCs_nil, evCs_one, evI_val, evI_enum, evI_zip, evI_range, evS_set, evS_asg, evS_setk, evS_expr, evS_ret, evS_retN, evS_if, evS_for, evS_raise, evS_brk, evS_cont, evS_pass, evSs_nil, evSs_cons, range_0, permute_0, permuteR_0, permute_1, permuteR_1, range_2, permute_2, permuteR_2, range_3, permute_3, permuteR_3, range_4, permute_4, permuteR_4, range_5, permute_5, permuteR_5, takeA_nil, takeA_val, takeA_slot, backA_nil, backA_val, backA_slot, backA_no, outs_nil, outs_lent, outs_ov, mkO_nm, mkO_lit, mkO_tup, mkO_lst, mkO_dict, mkO_bin, mkO_cmp, mkO_chn, mkO_and, mkO_or, mkO_not, mkO_ite, mkO_sub, mkO_slc, mkO_rev, mkO_lc, mkO_dc, mkO_fmt, mkO_call, mkO_bif, mkO_isi, mkO_met1, mkO_fst, mkO_heard, mkA_f, mkA_t, rd_val, rd_slot, rdVar_eq, putS_eq, bind1_nm, bind1_tp, binds_nil, binds_cons, flat_frz, flat_lst, flat_lst0, flat_lst1, flat_dic, cool_frz, d_frz, cool_lst, d_lst, cool_lst0, d_lst0, cool_dic, d_dic, gd_true, gd_false, bls_map, plain_str, plain_int, plain_bl, plain_non, plain_tup, plain_lst, plains_nil, plains_cons, isPy_str, isPy_int, isPy_bl, isPy_non, isPy_tup, isPy_lst, shal_str, shal_int, shal_bl, shal_non, eqv_str, eqv_int, eqv_bl, cmp_eq_str, cmp_ne_str, cmp_eq_int, cmp_ne_int, cmp_lt_int, cmp_le_int, cmp_gt_int, cmp_ge_int, bin_add_int, bin_sub_int, cmp_in_one, items_str, items_tup, items_lst, bif_all, bif_len_tup, bif_len_lst, bif_len_dic, bif_tuple_lst, bif_tuple_tup, bif_list_lst, bif_list_tup, truth_bl, for_nil, *])
def thingsL : List D := [.non, .bl true, .bl false, .str "", .str "A", .str "a b", .str "a1", .str "abcdefghi", .str "zzzzzzzz", .int 9999, .int (-9999), .int 10000, .int (-10000), .int (10 ^ 30), .tup [], .tup [.int 1], .lst [.str "a"], .dic [], .str "-", .str "a-b", .int 0]
theorem s0_ok {j : Sl} : evS O__law_bears S0 (bEn j .no .no .no .no .no .no .no .no .no .no) = .ok .nx (bEn j (.ov (.lst (thingsL.map .frz))) .no .no .no .no .no .no .no .no .no) := by kernel_rfl
theorem things_ok : ∀ d ∈ thingsL, d.isPy = true ∧ fits d = true := by
  have h : (thingsL.all fun d => d.isPy && fits d) = true := by kernel_rfl
  intro d hd
  have := List.all_eq_true.mp h d hd
  simpa using this
theorem s1_ok {j : Sl} : evS O__law_bears S1 (bEn j (.ov (.lst (thingsL.map .frz))) .no .no .no .no .no .no .no .no .no) = .ok .nx (bEn j (.ov (.frz (.lst thingsL))) .no .no .no .no .no .no .no .no .no) := by
  refine all_owned (ds := thingsL) (by walk_at "ev") rfl (by show 21 ≤ sizeLine; decide) fun d hd => ?_
  obtain ⟨hp, hf⟩ := things_ok d hd
  have w1 := is_value_ok hp hf
  have w2 := law_is_value_ok hp hf
  have mu := mul_tup2 (d := .bl (valOk d))
  have sh : (D.tup [.bl (valOk d), .bl (valOk d)]).shows = true := shows_of (n := 2) (by simp only [D.tame, D.tames, Bool.and_self]) (by decide) (by simp only [D.wt, D.wts]; rw [size24]; omega)
  have eq := equal_ok sh
  have e17 : O__law_bears 17 = F_is_value := rfl
  have e24 : O__law_bears 24 = F__law_equal := rfl
  have e26 : O__law_bears 26 = F__law_is_value := rfl
  have z1 : (1 : Nat) ≤ sizeLine := by decide
  have z2 : (2 : Nat) ≤ sizeLine := by decide
  generalize D.bl (valOk d) = v at *
  clear hp hf hd sh
  unfold bEn
  walk_at "ev*"
/-- how a jug's names stand between its turns -/
def turnI (en : En) : Prop := ∃ a b x1 x3 x4 x6 x7 x8 x9 x10 x11, JugOk a b ∧ anyS x3 ∧ anyS x4 ∧ anyS x6 ∧ x6.cold = true ∧ anyS x7 ∧ anyS x8 ∧ anyS x9 ∧ anyS x10 ∧ anyS x11 ∧ en = bEn (.ov (jugOV a b)) x1 x3 x4 .no x6 x7 x8 x9 x10 x11
def turnB : Ss := .cons T0 (.cons T1 (.cons T2 (.cons T3 (.cons T4 (.cons T5 (.cons T6 (.cons T7 (.cons T8 (.cons T9 (.cons T10 .nil))))))))))
theorem turn_ok {d : D} {en : En} (h : turnI en) : ∃ en1 en2, bind1 (.nm 3) d en = some en1 ∧ evSs O__law_bears turnB en1 = .ok .nx en2 ∧ turnI en2 := by
  obtain ⟨a, b, x1, x3, x4, x6, x7, x8, x9, x10, x11, hj, h3, h4, h6, c6, h7, h8, h9, h10, h11, rfl⟩ := h
  obtain ⟨vs, a1, b1, v0, v1, j1, e0⟩ := t0_ok hj (x1 := x1) (x3 := .ov (.frz d)) (x6 := x6) (x7 := x7) (x8 := x8) (x9 := x9) (x10 := x10) (x11 := x11) h4
  obtain ⟨a2, b2, j2, e1⟩ := t1_ok j1 (x1 := x1) (x3 := .ov (.frz d)) (x5 := .no) (x7 := x7) (x8 := x8) (x9 := x9) (x10 := x10) (x11 := x11) v0 v1 c6
  obtain ⟨l, a3, b3, y6, y8, j3, l0, l1, l2, q6, d6, q8, e2, e3⟩ := t23_ok j2 (x1 := x1) (x3 := .ov (.frz d)) (x4 := .ov (.frz (.tup vs))) (x9 := x9) (x10 := x10) (x11 := x11) h6 c6 h7 h8
  have hl : LotOk l := ⟨l0, l1, l2⟩
  have ln : (l.map D.tup).length ≤ 1000 := by rw [List.length_map]; omega
  refine ⟨bEn (.ov (jugOV a b)) x1 (.ov (.frz d)) x4 .no x6 x7 x8 x9 x10 x11, bEn (.ov (jugOV a3 b3)) x1 (.ov (.frz d)) (.ov (.frz (.tup vs))) .no y6 (.ov (.frz (.tup (l.map .tup)))) y8 (.ov (.frz (.tup ((tsort l).map .tup)))) (.ov (.frz (.lst (oddL (l.map .tup))))) (.ov (.frz (.lst (wrongL vs)))), ?_, ?_, ?_⟩
  · rw [bind1_nm, put_any (s := x3) rfl h3]
    rfl
  · unfold turnB
    rw [seq_nx e0, seq_nx e1, seq_nx e2, seq_nx e3, seq_nx (t4_ok hl h9), seq_nx (t5_ok hl), seq_nx (t6_ok ln h10), seq_nx (t7_ok hl), seq_nx (t8_ok hl), seq_nx (t9_ok (by omega) h11), seq_nx (t10_ok v0 v1), evSs_nil]
  · exact ⟨a3, b3, x1, _, _, y6, _, y8, _, _, _, j3, .inr ⟨_, rfl⟩, .inr ⟨_, rfl⟩, q6, d6, .inr ⟨_, rfl⟩, q8, .inr ⟨_, rfl⟩, .inr ⟨_, rfl⟩, .inr ⟨_, rfl⟩, rfl⟩
theorem law_bears_ok {a b : Int} (h : JugOk a b) : F__law_bears [.ov (jugOV a b)] = .ok (.frz (.bl true)) [none] := by
  obtain ⟨en', lp, ⟨a', b', x1, x3, x4, x6, x7, x8, x9, x10, x11, _, _, _, _, _, _, _, _, _, _, rfl⟩⟩ := for_inv (bnd := bind1 (.nm 3)) (body := evSs O__law_bears turnB) (fun _ en => turnI en) ((List.range 8).map fun (i : Nat) => .int (i : Int)) [] (bEn (.ov (jugOV a b)) (.ov (.frz (.lst thingsL))) .no .no .no .no .no .no .no .no .no) (fun pre d en _ hI => by
      obtain ⟨en1, en2, p, q, r⟩ := turn_ok (d := d) hI
      exact ⟨en1, en2, .nx, p, q, .inl rfl, r⟩) ⟨a, b, _, .no, .no, .no, .no, .no, .no, .no, .no, h, .inl rfl, .inl rfl, .inl rfl, rfl, .inl rfl, .inl rfl, .inl rfl, .inl rfl, .inl rfl, rfl⟩
  have e : F__law_bears [.ov (jugOV a b)] = callOf O__law_bears 1 12 (.cons S0 (.cons S1 (.cons (.for_ (.nm 3) (.range (.lit (.int 8))) turnB) (.cons (.ret (.lit (.bl true))) .nil)))) [.ov (jugOV a b)] := rfl
  rw [e, call1]
  have en : [Sl.ov (jugOV a b)] ++ List.replicate (12 - 1) Sl.no = bEn (.ov (jugOV a b)) .no .no .no .no .no .no .no .no .no .no := rfl
  have ir : evI O__law_bears (.range (.lit (.int 8))) (bEn (.ov (jugOV a b)) (.ov (.frz (.lst thingsL))) .no .no .no .no .no .no .no .no .no) = .ok ((List.range 8).map fun (i : Nat) => .int (i : Int)) (bEn (.ov (jugOV a b)) (.ov (.frz (.lst thingsL))) .no .no .no .no .no .no .no .no .no) := by
    rw [evI_range, evE_lit]
    rfl
  have st : evS O__law_bears (.for_ (.nm 3) (.range (.lit (.int 8))) turnB) (bEn (.ov (jugOV a b)) (.ov (.frz (.lst thingsL))) .no .no .no .no .no .no .no .no .no) = .ok .nx (bEn (.ov (jugOV a' b')) x1 x3 x4 .no x6 x7 x8 x9 x10 x11) := by
    rw [evS_for, ir, bnd_ok]
    exact lp
  rw [en, seq_nx s0_ok, seq_nx s1_ok, seq_nx st, evSs_cons, evS_ret, evE_lit]
  rfl
theorem plain (ns : List Int) (hn : ns.length ≤ 63) : ∃ outs, F_law [.ov (.frz (.lst (ns.map .int)))] = .ok (.frz (.bl true)) outs := by
  refine ⟨[none], ?_⟩
  have e21 : O_law 21 = F__law_jug := rfl
  have e33 : O_law 33 = F__law_bears := rfl
  have z2 : (2 : Nat) ≤ sizeLine := by decide
  have lc := lc_one' (orc := O_law) (elt := .call 33 (.cons (.call 21 (.cons (.var 0) (.cons (.var 1) .nil)) [false, false] (List.range 2)) .nil) [false] (List.range 1)) (it := .val (.tup (.cons (.lit (.int 0)) (.cons (.lit (.int 1)) .nil)))) (i := 1) (ds := [.int 0, .int 1]) (f := fun _ => .bl true)
    (en := [.ov (.frz (.lst (ns.map .int))), .no]) (by walk_at "ev*") rfl rfl (fun d hd => by
      have hs : ∃ side : Int, d = .int side ∧ (side = 0 ∨ side = 1) := by
        simp only [List.mem_cons, List.not_mem_nil, or_false] at hd
        rcases hd with rfl | rfl
        · exact ⟨0, rfl, .inl rfl⟩
        · exact ⟨1, rfl, .inr rfl⟩
      obtain ⟨side, rfl, hs⟩ := hs
      obtain ⟨a, b, hj, lj⟩ := law_jug_ok hs hn
      have lb := law_bears_ok hj
      generalize jugOV a b = jv at *
      clear hd hs hj
      walk_at "ev*") (by decide)
  have at_ := @all_true [.int 0, .int 1]
  simp only [List.range_one, range_2, List.map_cons, List.map_nil] at lc at_
  unfold F_law
  rw [call1, B_law]
  have fl2 : (OV.lst [.frz (.bl true), .frz (.bl true)]).flat = some (.lst [.bl true, .bl true]) := flat_lst (ds := [.bl true, .bl true])
  walk_at "ev*"
end K02

set_option maxHeartbeats 0

namespace K02
open PySem PySem.Spec PyProof.Rows PM
open L2 (FnScope defScope defArgs defBody FunD Cx)
abbrev R : PySem.W.OpenRow := PySem.W.OpenLaw.row PySem.Challenge.rw_eitherrows_k02_whole_values_and_their_tu
abbrev hk : PySem.W.Hook := He.hookX 5 fa fn [] tf exB
def ob (s : PySem.W.SharedT) : He.AlX := He.obsX 5 fa fn [] tf exB (HandSHeadRun.getT s)
theorem ob_eq (s : PySem.W.SharedT) : ob s = hk.obs s.abs := He.obsX_eq (HandSHeadRun.getT_eq s)
def loose : List PySem.Str := (["FIGURES", "LETTERS", "LONGEST_NAME", "LONGEST_NUMBER", "is_whole", "is_between", "are_unlike", "plain_number", "are_letters", "is_name", "GREATEST", "NOTHING"] : List PySem.Str) ++ (["MINUS", "BLANK", "value_ok", "values_ok", "value_order", "values_order", "ascending_by", "text_of_value", "text_of_values", "value_from", "values_from", "EitherError"] : List PySem.Str) ++ (["InvalidValues", "InvalidText", "check_values", "check_text", "is_value", "values_text", "read_values", "ascending", "_law_jug", "_law_pour", "_law_some", "_law_equal"] : List PySem.Str) ++ (["_law_words", "_law_is_value", "_law_drawn", "_law_less", "_law_sorted", "_law_heard", "_law_read", "_law_texts_right", "_law_bears"] : List PySem.Str)
theorem run (w : World) : HandSHeadRun.RunEq R (PySem.W.view R.prog [51]) hk ob 20000 loose w := by
  intro os
  kernel_rfl
theorem law_end (plain : ∀ ns : List Int, ns.length ≤ 63 → (∀ z ∈ ns, Builtin.Int.intBits z ≤ 1048576) → ∃ outs, F_law [.ov (.frz (.lst (ns.map .int)))] = .ok (.frz (.bl true)) outs)
    (w : World) (mg : Str → Option Value) (fa' : Addr) (h : Heap) (Y : hk.says w h) (G : h.Ns mainGlobals mg) (hmg : mg "law" = some (.ref fa')) :
    ∃ (K : PySem.W.Frag) (fd : FuncData) (cs' : List (Addr × Addr)) (sp : L2.Sp) (_ : TC), K.In h ∧ noLst K = true ∧ (∀ p ∈ cs', h.get? p.2 = some { cls := .none, data := .fields #[] }) ∧ (∀ p ∈ cs', K.lookup p.2 = none) ∧ (∀ p ∈ cs', PySem.W.CodeHd h p.1 p.2) ∧
        (∀ (s : Shared) (u : Value), BindsTo s fd ⟨[u], []⟩ [("script", u)]) ∧
        (∀ (H : L2.Hp) (a : Addr) (ns : List Int), ns.length ≤ 63 → (∀ z ∈ ns, Builtin.Int.intBits z ≤ 1048576) → (∀ p ∈ cs', H p.2 = some (.tbl #[])) → FLs K H a (ns.map L2.V.int) → sp [.ref a] H (fun v _ => v = .bl true) fun _ _ _ => False) ∧
        ∀ base : Heap, K.In base → base.Ns mainGlobals mg → (∀ p ∈ cs', LamX.TabB base mg p.1 p.2) → FnG R.prog w K mg base 11 fa' fd ["script"] sp := by
  obtain ⟨K, kin, c⟩ := Y
  letI tc : TC := ⟨tsOf K tf⟩
  obtain ⟨fd, D⟩ := c.t.d.def_ (fn := fn) 34 rfl
  have clsAll : ∀ c ∈ kcs, ClsOne K c := by
    have q : kcs.all (clsOneB K) = true := List.all_eq_true.mp c.more _ (List.mem_of_getElem? (i := 0) rfl)
    exact fun x hx => clsOne_ok (List.all_eq_true.mp q x hx)
  have e := hmg.symm.trans (He.glo_ok kin G (c.t.d.fact (fa := fa) 59 (f := .glo "law") rfl))
  cases e
  have nol : noLst K = true := List.all_eq_true.mp c.more _ (List.mem_of_getElem? (i := 2) rfl)
  have bd := L2.FunD.bindsA (ps := ["script"]) D fun _ _ _ _ _ _ us hl => match us, hl with | [_], _ => rfl
  refine ⟨K, fd, tf.map (He.cT K), spF (GG R.prog w K (TT K)) (PM.fldAt kcs) 1 F_law, tc, kin, nol, ?_, ?_, ?_, fun s u => bd s [u] rfl, ?_, ?_⟩
  · intro p hp
    obtain ⟨q, hq, rfl⟩ := List.mem_map.mp hp
    exact c.empty q hq
  · intro p hp
    obtain ⟨q, hq, rfl⟩ := List.mem_map.mp hp
    exact c.out q hq
  · intro p hp
    obtain ⟨q, hq, rfl⟩ := List.mem_map.mp hp
    exact PySem.W.codeHd_of_K kin (c.hd q hq)
  · intro H a ns h1 h2 hT hS
    obtain ⟨outs, eo⟩ := plain ns h1 h2
    refine law_sp (tabsNil (fun p hp => ?_) hT) hS eo
    obtain ⟨q, hq, rfl⟩ := List.mem_map.mp hp
    exact ⟨He.cT K q, List.mem_map.mpr ⟨q, hq, rfl⟩, rfl⟩
  · intro base kb gb tb
    have Z : HD R.prog w K h base mg := ⟨⟨c, kb, gb, fun p hp => tb _ (List.mem_map.mpr ⟨p, hp, rfl⟩), clsAll⟩, rfl⟩
    exact def_fn (x := "law") D sc_law rfl rfl (b_law Z)
end K02
open PySem PySem.W PySem.Calls PyProof.Rows
theorem K02.holds (plain : ∀ ns : List Int, ns.length ≤ 63 → (∀ z ∈ ns, Builtin.Int.intBits z ≤ 1048576) → ∃ outs, K02.F_law [.ov (.frz (.lst (ns.map .int)))] = .ok (.frz (.bl true)) outs) : PySem.Challenge.rw_eitherrows_k02_whole_values_and_their_tu.Holds := by
  w_on; o_law
  refine HandSHeadRun.head_any (r := OpenLaw.row PySem.Challenge.rw_eitherrows_k02_whole_values_and_their_tu) (q := view (OpenLaw.row PySem.Challenge.rw_eitherrows_k02_whole_values_and_their_tu).prog [51]) (H := K02.hk) (ob := K02.ob) (M := 20000) (loose := K02.loose) (d := HandSHeadRun.topDef (OpenLaw.row PySem.Challenge.rw_eitherrows_k02_whole_values_and_their_tu).prog 51) (kwd := []) K02.ob_eq
    (by kernel_rfl) (fun s => by kernel_rfl) K02.run (by kernel_rfl) (by kernel_rfl) (by kernel_rfl) (by rfl) (by first | assumption | decide +kernel) (by decide +kernel) ⟨rfl, rfl, rfl, rfl, rfl, by decide +kernel⟩ ?hw ?hc
  case hw => w_witness2
  case hc =>
    refine PM.walk_end (l := PySem.Challenge.rw_eitherrows_k02_whole_values_and_their_tu) (n := 63) (k := 11) (x := "script") rfl (by decide) (by kernel_rfl) ⟨rfl, by decide, by decide⟩ ?F
    intro w mg fa' h Y G hmg0
    have hmg : mg ("law" : PySem.Str) = some (.ref fa') := by
      have e : (HandSHeadRun.topDef (OpenLaw.row PySem.Challenge.rw_eitherrows_k02_whole_values_and_their_tu).prog 51).name = ("law" : PySem.Str) := by kernel_rfl
      rw [← e]
      exact hmg0
    exact K02.law_end plain w mg fa' h Y G hmg

theorem PySem.Challenge.cw_eitherrows_k02_whole_values_and_their_tu_holds : PySem.Challenge.rw_eitherrows_k02_whole_values_and_their_tu.Holds := by
  exact K02.holds fun ns hn _ => K02.plain ns hn

