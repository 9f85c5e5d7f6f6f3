import PyProof.Rows.All
import Wide.All
import OpenK.AllK
import Wide.FinOn
import KE.KDictKeyed
import KE.KeyNested
import HandS.ForMost
import HandS.Evl
import HandS.Small
import HandS.DictComp
import HandS.TupLen
import HandS.TupAny
import HandS.IsInst
import HandS.Wide
import HandS.Replace
import HandS.Style
import HandS.TupSets
import PySem.Challenge.RW_rolledtrue_k64_whole_floor_runs
set_option Elab.async false
set_option linter.all false
set_option maxRecDepth 100000
set_option maxHeartbeats 4000000
/-! PLa: a pure layer over the hand layer: data without a heap (D), what stands for it (Gx), mutable objects (MO), readings told by data alone (EV, TV, AV, SW, IV). -/
namespace PL
open PySem PySem.Spec PyProof.Rows L2 Evl

/-- data: what a value is worth, the heap forgotten; adr: an object that may still change -/
inductive D where
  | non | bl (b : Bool) | int (i : Int) | str (x : Str) | ty (n : String) | adr (a : Addr)
  | tup (l : List D) | lst (l : List D) | scr (l : List D)
  | dk (ks : List Key) (l : List D)
  | ins (C : Addr) (ns : List Str) (l : List D)
  deriving Inhabited

mutual
/-- the value v is the data d in the heap H -/
def Gx (K : PySem.W.Frag) (H : Hp) : D → V → Prop
  | .non, v => v = .non
  | .bl b, v => v = .bl b
  | .int i, v => v = .int i
  | .str x, v => v = .str x
  | .ty n, v => v = .ty n
  | .adr a, v => v = .ref a
  | .tup l, v => ∃ a vs, v = .ref a ∧ H a = some (.tup vs) ∧ GxL K H l vs
  | .lst l, v => ∃ a vs, v = .ref a ∧ H a = some (.lst vs) ∧ GxL K H l vs
  | .scr l, v => ∃ a vs, v = .ref a ∧ SqL K H a vs ∧ GxL K H l vs
  | .dk ks l, v => ∃ a vs, v = .ref a ∧ H a = some (.dK (ks.zip vs)) ∧ ks.length = l.length ∧ GxL K H l vs
  | .ins C ns l, v => ∃ a dx vs, v = .ref a ∧ H a = some (.ins C dx (ns.zip vs)) ∧ ns.length = l.length ∧ GxL K H l vs
def GxL (K : PySem.W.Frag) (H : Hp) : List D → List V → Prop
  | [], vs => vs = []
  | d :: l, vs => ∃ v r, vs = v :: r ∧ Gx K H d v ∧ GxL K H l r
end

section
variable {K : PySem.W.Frag} {H H' : Hp}
mutual
theorem Gx.mono (e : Ex H H') : ∀ (d : D) (v : V), Gx K H d v → Gx K H' d v
  | .non, v, h => h
  | .bl b, v, h => h
  | .int i, v, h => h
  | .str x, v, h => h
  | .ty n, v, h => h
  | .adr a, v, h => h
  | .tup l, v, h => by
    obtain ⟨a, vs, e1, e2, e3⟩ := h
    exact ⟨a, vs, e1, e _ _ e2, GxL.mono e l vs e3⟩
  | .lst l, v, h => by
    obtain ⟨a, vs, e1, e2, e3⟩ := h
    exact ⟨a, vs, e1, e _ _ e2, GxL.mono e l vs e3⟩
  | .scr l, v, h => by
    obtain ⟨a, vs, e1, e2, e3⟩ := h
    exact ⟨a, vs, e1, ex_l e e2, GxL.mono e l vs e3⟩
  | .dk ks l, v, h => by
    obtain ⟨a, vs, e1, e2, e4, e3⟩ := h
    exact ⟨a, vs, e1, e _ _ e2, e4, GxL.mono e l vs e3⟩
  | .ins C ns l, v, h => by
    obtain ⟨a, dx, vs, e1, e2, e4, e3⟩ := h
    exact ⟨a, dx, vs, e1, e _ _ e2, e4, GxL.mono e l vs e3⟩
theorem GxL.mono (e : Ex H H') : ∀ (l : List D) (vs : List V), GxL K H l vs → GxL K H' l vs
  | [], vs, h => h
  | d :: l, vs, h => by
    obtain ⟨v, r, e1, e2, e3⟩ := h
    exact ⟨v, r, e1, Gx.mono e d v e2, GxL.mono e l r e3⟩
end
theorem GxL.len : ∀ {l : List D} {vs : List V}, GxL K H l vs → vs.length = l.length
  | [], _, h => by
    have h' : _ = [] := h
    rw [h']; rfl
  | d :: l, _, ⟨v, r, e1, _, e3⟩ => by
    rw [e1, List.length_cons, List.length_cons, GxL.len e3]
theorem GxL.get : ∀ {l : List D} {vs : List V} {i : Nat} {d : D}, GxL K H l vs → l[i]? = some d → ∃ v, vs[i]? = some v ∧ Gx K H d v
  | [], _, _, _, _, e => by simp at e
  | x :: l, _, 0, d, ⟨v, r, e1, e2, e3⟩, e => by
    simp at e; subst e; subst e1; exact ⟨v, rfl, e2⟩
  | x :: l, _, i + 1, d, ⟨v, r, e1, e2, e3⟩, e => by
    subst e1
    obtain ⟨u, h1, h2⟩ := GxL.get (i := i) e3 (by simpa using e)
    exact ⟨u, by simpa using h1, h2⟩
theorem GxL.of : ∀ {l : List D} {vs : List V}, vs.length = l.length → (∀ (i : Nat) (d : D) (v : V), l[i]? = some d → vs[i]? = some v → Gx K H d v) → GxL K H l vs
  | [], [], _, _ => rfl
  | [], _ :: _, h, _ => by simp at h
  | _ :: _, [], h, _ => by simp at h
  | d :: l, v :: vs, h, f => ⟨v, vs, rfl, f 0 d v rfl rfl, GxL.of (by simpa using h) fun i d v h1 h2 => f (i + 1) d v (by simpa using h1) (by simpa using h2)⟩
theorem GxL.append : ∀ {l m : List D} {vs ws : List V}, GxL K H l vs → GxL K H m ws → GxL K H (l ++ m) (vs ++ ws)
  | [], _, _, _, h, g => by
    have h' : _ = [] := h
    subst h'; exact g
  | d :: l, m, _, ws, ⟨v, r, e1, e2, e3⟩, g => by
    subst e1
    exact ⟨v, r ++ ws, rfl, e2, GxL.append e3 g⟩
theorem GxL.one {d : D} {v : V} (h : Gx K H d v) : GxL K H [d] [v] := ⟨v, [], rfl, h, rfl⟩
theorem GxL.snoc {l : List D} {vs : List V} {d : D} {v : V} (h : GxL K H l vs) (g : Gx K H d v) : GxL K H (l ++ [d]) (vs ++ [v]) := h.append (GxL.one g)
theorem GxL.take : ∀ {l : List D} {vs : List V} (n : Nat), GxL K H l vs → GxL K H (l.take n) (vs.take n)
  | _, _, 0, _ => by simp [GxL]
  | [], _, n + 1, h => by
    have h' : _ = [] := h
    subst h'; simp [GxL]
  | d :: l, _, n + 1, ⟨v, r, e1, e2, e3⟩ => by
    subst e1
    exact ⟨v, r.take n, rfl, e2, GxL.take n e3⟩
theorem GxL.drop : ∀ {l : List D} {vs : List V} (n : Nat), GxL K H l vs → GxL K H (l.drop n) (vs.drop n)
  | _, _, 0, h => h
  | [], _, n + 1, h => by
    have h' : _ = [] := h
    subst h'; simp [GxL]
  | d :: l, _, n + 1, ⟨v, r, e1, e2, e3⟩ => by
    subst e1
    exact GxL.drop n e3
theorem GxL.set : ∀ {l : List D} {vs : List V} {d : D} {v : V} (n : Nat), GxL K H l vs → Gx K H d v → GxL K H (l.set n d) (vs.set n v)
  | [], _, _, _, n, h, _ => by
    have h' : _ = [] := h
    subst h'; simp [GxL]
  | x :: l, _, d, v, 0, ⟨u, r, e1, e2, e3⟩, g => by
    subst e1
    exact ⟨v, r, rfl, g, e3⟩
  | x :: l, _, d, v, n + 1, ⟨u, r, e1, e2, e3⟩, g => by
    subst e1
    exact ⟨u, r.set n v, rfl, e2, GxL.set n e3 g⟩
theorem GxL.erase : ∀ {l : List D} {vs : List V} (n : Nat), GxL K H l vs → GxL K H (l.eraseIdx n) (vs.eraseIdx n)
  | [], _, n, h => by
    have h' : _ = [] := h
    subst h'; simp [GxL]
  | x :: l, _, 0, ⟨u, r, e1, e2, e3⟩ => by
    subst e1
    exact e3
  | x :: l, _, n + 1, ⟨u, r, e1, e2, e3⟩ => by
    subst e1
    exact ⟨u, r.eraseIdx n, rfl, e2, GxL.erase n e3⟩
theorem GxL.reverse : ∀ {l : List D} {vs : List V}, GxL K H l vs → GxL K H l.reverse vs.reverse
  | [], _, h => by
    have h' : _ = [] := h
    subst h'; simp [GxL]
  | x :: l, _, ⟨u, r, e1, e2, e3⟩ => by
    subst e1
    rw [List.reverse_cons, List.reverse_cons]
    exact GxL.append (GxL.reverse e3) (GxL.one e2)
theorem GxL.ints : ∀ {ns : List Int} {vs : List V}, GxL K H (ns.map D.int) vs → vs = ns.map V.int
  | [], _, h => h
  | n :: ns, _, ⟨v, r, e1, e2, e3⟩ => by
    have e2' : v = .int n := e2
    rw [e1, e2', GxL.ints e3]; rfl
theorem GxL.ofInts : ∀ (ns : List Int), GxL K H (ns.map D.int) (ns.map V.int)
  | [] => rfl
  | n :: ns => ⟨_, _, rfl, rfl, GxL.ofInts ns⟩
theorem GxL.strs : ∀ {ns : List Str} {vs : List V}, GxL K H (ns.map D.str) vs → vs = ns.map V.str
  | [], _, h => h
  | n :: ns, _, ⟨v, r, e1, e2, e3⟩ => by
    have e2' : v = .str n := e2
    rw [e1, e2', GxL.strs e3]; rfl
theorem GxL.ofStrs : ∀ (ns : List Str), GxL K H (ns.map D.str) (ns.map V.str)
  | [] => rfl
  | n :: ns => ⟨_, _, rfl, rfl, GxL.ofStrs ns⟩
end

/-! ### tuples that are keys -/
mutual
def keyD : NestedKey → D
  | .none => .non
  | .num i => .int i
  | .text x => .str x
  | .tup ks => .tup (keyDs ks)
def keyDs : List NestedKey → List D
  | [] => []
  | k :: ks => keyD k :: keyDs ks
end

/-! ### a dict with keys that are tuples: its raw form -/
def RawN (w : World) (h : Heap) (d : Addr) (kvs : List (NestedKey × Addr × V)) : Prop :=
  (d == sysModules) = false ∧ ∃ xs : List (NestedKey × Addr × Value), Paired (fun (p : NestedKey × Addr × V) (q : NestedKey × Addr × Value) => p.1 = q.1 ∧ p.2.1 = q.2.1 ∧ RelV p.2.2 q.2.2) kvs xs ∧
    ∃ o es ep, h.get? d = some o ∧ o.ExactDict ∧ o.data = .dict es ep ∧ es.toList = xs.map (fun x => { hash := NestedKey.hash w x.1, key := .ref x.2.1, val := x.2.2 }) ∧ (xs.map (·.1)).Nodup
def DNo (w : World) (d : Addr) (kvs : List (NestedKey × Addr × V)) : HO := .ext fun h => RawN w h d kvs

/-! ### mutable objects -/
inductive MO where
  | lst (l : List D)
  | dk (kvs : List (Key × D))
  | dn (kvs : List (NestedKey × D))
  | ins (C : Addr) (ns : List Str) (l : List D)
abbrev MH := Addr → Option MO
def MH.set (M : MH) (a : Addr) (o : MO) : MH := fun b => if b = a then some o else M b
def MH.del (M : MH) (a : Addr) : MH := fun b => if b = a then none else M b
theorem MH.set_same {M : MH} {a : Addr} {o : MO} : M.set a o a = some o := by unfold MH.set; rw [if_pos rfl]
theorem MH.set_ne {M : MH} {a b : Addr} {o : MO} (h : b ≠ a) : M.set a o b = M b := by unfold MH.set; rw [if_neg h]
theorem MH.set_set {M : MH} {a : Addr} {o u : MO} : (M.set a o).set a u = M.set a u := by funext b; unfold MH.set; split <;> rfl
theorem MH.set_comm {M : MH} {a b : Addr} {o u : MO} (h : a ≠ b) : (M.set a o).set b u = (M.set b u).set a o := by
  funext c; unfold MH.set
  by_cases h1 : c = a
  · subst h1; rw [if_neg h, if_pos rfl, if_pos rfl]
  · by_cases h2 : c = b
    · subst h2; rw [if_pos rfl, if_neg h1, if_pos rfl]
    · rw [if_neg h2, if_neg h1, if_neg h1, if_neg h2]
theorem MH.del_set {M : MH} {a : Addr} {o : MO} (h : M a = none) : (M.set a o).del a = M := by
  funext b; unfold MH.del MH.set
  by_cases e : b = a
  · subst e; rw [if_pos rfl, h]
  · rw [if_neg e, if_neg e]
theorem MH.del_same {M : MH} {a : Addr} : M.del a a = none := by unfold MH.del; rw [if_pos rfl]
theorem MH.del_ne {M : MH} {a b : Addr} (h : b ≠ a) : M.del a b = M b := by unfold MH.del; rw [if_neg h]
theorem MH.del_set_ne {M : MH} {a b : Addr} {o : MO} (h : a ≠ b) : (M.set a o).del b = (M.del b).set a o := by
  funext c; unfold MH.del MH.set
  by_cases h1 : c = b
  · subst h1; simp [Ne.symm h]
  · by_cases h2 : c = a
    · subst h2; simp [h1]
    · simp [h1, h2]
theorem MH.set_id {M : MH} {a : Addr} {o : MO} (h : M a = some o) : M.set a o = M := by
  funext b; unfold MH.set
  by_cases e : b = a
  · subst e; rw [if_pos rfl, h]
  · rw [if_neg e]

def MOk (K : PySem.W.Frag) (w : World) (H0 : Hp) (a : Addr) : MO → HO → Prop
  | .lst l, o => ∃ vs, o = .lst vs ∧ GxL K H0 l vs
  | .dk kvs, o => ∃ vs, o = .dK ((kvs.map (·.1)).zip vs) ∧ GxL K H0 (kvs.map (·.2)) vs
  | .dn kvs, o => ∃ (as : List Addr) (vs : List V), o = DNo w a ((kvs.map (·.1)).zip (as.zip vs)) ∧ as.length = kvs.length ∧ GxL K H0 (kvs.map (·.2)) vs ∧ GxL K H0 (keyDs (kvs.map (·.1))) (as.map V.ref) ∧ ∀ x ∈ kvs, x.1.depth ≤ 8
  | .ins C ns l, o => ∃ dx vs, o = .ins C dx (ns.zip vs) ∧ ns.length = l.length ∧ GxL K H0 l vs
theorem MOk.mono {K : PySem.W.Frag} {w : World} {H H' : Hp} {a : Addr} (e : Ex H H') : ∀ {m : MO} {o : HO}, MOk K w H a m o → MOk K w H' a m o
  | .lst l, o, ⟨vs, e1, e2⟩ => ⟨vs, e1, GxL.mono e _ _ e2⟩
  | .dk kvs, o, ⟨vs, e1, e3⟩ => ⟨vs, e1, GxL.mono e _ _ e3⟩
  | .dn kvs, o, ⟨as, vs, e1, e2, e4, e5, e6⟩ => ⟨as, vs, e1, e2, GxL.mono e _ _ e4, GxL.mono e _ _ e5, e6⟩
  | .ins C ns l, o, ⟨dx, vs, e1, e2, e3⟩ => ⟨dx, vs, e1, e2, GxL.mono e _ _ e3⟩

/-- the state: H0 what is known for good, M what may change, F what others hold -/
structure S4 (K : PySem.W.Frag) (w : World) (H0 : Hp) (M : MH) (F : Hp) (H : Hp) : Prop where
  ex : Ex H0 H
  mu : ∀ a o, M a = some o → H0 a = none ∧ ∃ ho, H a = some ho ∧ MOk K w H0 a o ho
  fr : ∀ a o, F a = some o → H0 a = none ∧ M a = none ∧ H a = some o
def En (K : PySem.W.Frag) (H0 : Hp) (ds : List (Option D)) (σ : L2.St) : Prop := σ.length = ds.length ∧ ∀ (i : Nat) (d : D), ds[i]? = some (some d) → ∃ v, σ[i]? = some (some v) ∧ Gx K H0 d v
theorem En.mono {K : PySem.W.Frag} {H H' : Hp} {ds : List (Option D)} {σ : L2.St} (e : Ex H H') (h : En K H ds σ) : En K H' ds σ :=
  ⟨h.1, fun i d q => let ⟨v, h1, h2⟩ := h.2 i d q; ⟨v, h1, Gx.mono e _ _ h2⟩⟩
theorem En.set {K : PySem.W.Frag} {H : Hp} {ds : List (Option D)} {σ : L2.St} {d : D} {v : V} (h : En K H ds σ) (i : Nat) (g : Gx K H d v) : En K H (ds.set i (some d)) (σ.set i (some v)) := by
  refine ⟨by rw [List.length_set, List.length_set]; exact h.1, fun j e q => ?_⟩
  by_cases hij : i = j
  · subst hij
    by_cases hl : i < ds.length
    · rw [List.getElem?_set_self hl] at q
      have q' : d = e := by simpa using q
      subst q'
      exact ⟨v, List.getElem?_set_self (by rw [h.1]; exact hl), g⟩
    · rw [List.getElem?_eq_none (by rw [List.length_set]; omega)] at q
      cases q
  · rw [List.getElem?_set_ne hij] at q
    obtain ⟨u, h1, h2⟩ := h.2 j e q
    exact ⟨u, by rw [List.getElem?_set_ne hij]; exact h1, h2⟩
theorem En.up {K : PySem.W.Frag} {H : Hp} {ds : List (Option D)} {σ : L2.St} {d : D} (h : En K H ds σ) (i : Nat) (g : ∀ v, σ[i]? = some (some v) → Gx K H d v) (hi : ∃ v, σ[i]? = some (some v)) : En K H (ds.set i (some d)) σ := by
  refine ⟨by rw [List.length_set]; exact h.1, fun j e q => ?_⟩
  by_cases hij : i = j
  · subst hij
    by_cases hl : i < ds.length
    · rw [List.getElem?_set_self hl] at q
      have q' : d = e := by simpa using q
      subst q'
      obtain ⟨v, hv⟩ := hi
      exact ⟨v, hv, g v hv⟩
    · rw [List.getElem?_eq_none (by rw [List.length_set]; omega)] at q
      cases q
  · rw [List.getElem?_set_ne hij] at q
    exact h.2 j e q

section
variable {K : PySem.W.Frag} {w : World} {H0 H0' H F : Hp} {M : MH} {a p : Addr} {o : HO} {mo : MO}
/-- a new object that stays as it is -/
theorem S4.new (s : S4 K w H0 M F H) (hp : H p = none) : S4 K w (upd H0 p o) M F (upd H p o) := by
  have h0 : H0 p = none := fresh_back s.ex hp
  have e0 : Ex H0 (upd H0 p o) := Ex.new h0
  refine ⟨fun b u h => ?_, fun b m h => ?_, fun b u h => ?_⟩
  · by_cases hb : b = p
    · subst hb; rw [upd_same] at h ⊢; exact h
    · rw [upd_ne hb] at h ⊢; exact s.ex b u h
  · obtain ⟨h1, ho, h2, h3⟩ := s.mu b m h
    have hb : b ≠ p := ne_of_none h2 hp
    exact ⟨by rw [upd_ne hb]; exact h1, ho, by rw [upd_ne hb]; exact h2, h3.mono e0⟩
  · obtain ⟨h1, h2, h3⟩ := s.fr b u h
    have hb : b ≠ p := ne_of_none h3 hp
    exact ⟨by rw [upd_ne hb]; exact h1, h2, by rw [upd_ne hb]; exact h3⟩
/-- a new object that may change -/
theorem S4.newM (s : S4 K w H0 M F H) (hp : H p = none) (h : MOk K w H0 p mo o) : S4 K w H0 (M.set p mo) F (upd H p o) := by
  refine ⟨fun b u q => ?_, fun b m q => ?_, fun b u q => ?_⟩
  · rw [upd_ne (ne_of_none (s.ex b u q) hp)]; exact s.ex b u q
  · by_cases hb : b = p
    · subst hb
      rw [MH.set_same] at q; cases q
      exact ⟨fresh_back s.ex hp, o, upd_same, h⟩
    · rw [MH.set_ne hb] at q
      obtain ⟨h1, ho, h2, h3⟩ := s.mu b m q
      exact ⟨h1, ho, by rw [upd_ne hb]; exact h2, h3⟩
  · obtain ⟨h1, h2, h3⟩ := s.fr b u q
    have hb : b ≠ p := ne_of_none h3 hp
    exact ⟨h1, by rw [MH.set_ne hb]; exact h2, by rw [upd_ne hb]; exact h3⟩
theorem S4.noM (s : S4 K w H0 M F H) (hp : H p = none) : M p = none := by
  cases q : M p with
  | none => rfl
  | some m =>
    obtain ⟨_, ho, h2, _⟩ := s.mu p m q
    rw [h2] at hp; cases hp
/-- a change -/
theorem S4.wr {m0 : MO} (s : S4 K w H0 M F H) (ha : M a = some m0) (h : MOk K w H0 a mo o) : S4 K w H0 (M.set a mo) F (upd H a o) := by
  obtain ⟨g1, g2, g3, g4⟩ := s.mu a m0 ha
  refine ⟨fun b u q => ?_, fun b m q => ?_, fun b u q => ?_⟩
  · have hb : b ≠ a := ne_of_none q g1
    rw [upd_ne hb]; exact s.ex b u q
  · by_cases hb : b = a
    · subst hb
      rw [MH.set_same] at q; cases q
      exact ⟨g1, o, upd_same, h⟩
    · rw [MH.set_ne hb] at q
      obtain ⟨h1, ho, h2, h3⟩ := s.mu b m q
      exact ⟨h1, ho, by rw [upd_ne hb]; exact h2, h3⟩
  · obtain ⟨h1, h2, h3⟩ := s.fr b u q
    have hb : b ≠ a := fun z => by subst z; rw [h2] at ha; cases ha
    exact ⟨h1, by rw [MH.set_ne hb]; exact h2, by rw [upd_ne hb]; exact h3⟩
/-- from now on it stays as it is -/
theorem S4.frz {m0 : MO} (s : S4 K w H0 M F H) (ha : M a = some m0) (ho : H a = some o) : S4 K w (upd H0 a o) (M.del a) F H := by
  obtain ⟨g1, _⟩ := s.mu a m0 ha
  have e0 : Ex H0 (upd H0 a o) := Ex.new g1
  refine ⟨fun b u q => ?_, fun b m q => ?_, fun b u q => ?_⟩
  · by_cases hb : b = a
    · subst hb; rw [upd_same] at q; cases q; exact ho
    · rw [upd_ne hb] at q; exact s.ex b u q
  · by_cases hb : b = a
    · subst hb; rw [MH.del_same] at q; cases q
    · rw [MH.del_ne hb] at q
      obtain ⟨h1, hh, h2, h3⟩ := s.mu b m q
      exact ⟨by rw [upd_ne hb]; exact h1, hh, h2, h3.mono e0⟩
  · obtain ⟨h1, h2, h3⟩ := s.fr b u q
    have hb : b ≠ a := fun z => by subst z; rw [h2] at ha; cases ha
    exact ⟨by rw [upd_ne hb]; exact h1, by rw [MH.del_ne hb]; exact h2, h3⟩
end
end PL

set_option Elab.async false
set_option linter.all false
set_option maxRecDepth 100000
set_option maxHeartbeats 4000000
/-! PLb: the judgements, and the rules of expressions, tests, arguments. -/
namespace PL
open PySem PySem.Spec PyProof.Rows L2 Evl
section
variable (K : PySem.W.Frag) (w : World)
abbrev DS := List (Option D)
/-- an expression: it gives some data and a state of what may change, of which k is true -/
def EV (te : TE) (ds : DS) (M : MH) (k : D → MH → Prop) : Prop :=
  ∀ (H0 : Hp) (σ : L2.St) (H F : Hp) (Q : VK), S4 K w H0 M F H → En K H0 ds σ →
    (∀ d M' v H0' H', k d M' → Ex H0 H0' → S4 K w H0' M' F H' → Gx K H0' d v → Q v H') → te σ H Q
def TV (tt : TT) (ds : DS) (M : MH) (k : Bool → MH → Prop) : Prop :=
  ∀ (H0 : Hp) (σ : L2.St) (H F : Hp) (Q : Bool → Hp → Prop), S4 K w H0 M F H → En K H0 ds σ →
    (∀ b M' H0' H', k b M' → Ex H0 H0' → S4 K w H0' M' F H' → Q b H') → tt σ H Q
def AV (ta : TA) (ds : DS) (M : MH) (k : List D → MH → Prop) : Prop :=
  ∀ (H0 : Hp) (σ : L2.St) (H F : Hp) (Q : List V → Hp → Prop), S4 K w H0 M F H → En K H0 ds σ →
    (∀ l M' vs H0' H', k l M' → Ex H0 H0' → S4 K w H0' M' F H' → GxL K H0' l vs → Q vs H') → ta σ H Q
def OV (to : TO) (ds : DS) (M : MH) (k : Option Int → MH → Prop) : Prop :=
  ∀ (H0 : Hp) (σ : L2.St) (H F : Hp) (Q : Option Int → Hp → Prop), S4 K w H0 M F H → En K H0 ds σ →
    (∀ o M' H0' H', k o M' → Ex H0 H0' → S4 K w H0' M' F H' → Q o H') → to σ H Q
/-- by values: two places, one place, a call -/
def RD (r : R2) (x y : D) (M : MH) (k : D → MH → Prop) : Prop :=
  ∀ (H0 : Hp) (vx vy : V) (H F : Hp) (Q : VK), S4 K w H0 M F H → Gx K H0 x vx → Gx K H0 y vy →
    (∀ d M' v H0' H', k d M' → Ex H0 H0' → S4 K w H0' M' F H' → Gx K H0' d v → Q v H') → r vx vy H Q
def RU1 (r : V → Hp → VK → Prop) (x : D) (M : MH) (k : D → MH → Prop) : Prop :=
  ∀ (H0 : Hp) (vx : V) (H F : Hp) (Q : VK), S4 K w H0 M F H → Gx K H0 x vx →
    (∀ d M' v H0' H', k d M' → Ex H0 H0' → S4 K w H0' M' F H' → Gx K H0' d v → Q v H') → r vx H Q
def RA (r : List V → Hp → VK → Prop) (l : List D) (M : MH) (k : D → MH → Prop) : Prop :=
  ∀ (H0 : Hp) (vs : List V) (H F : Hp) (Q : VK), S4 K w H0 M F H → GxL K H0 l vs →
    (∀ d M' v H0' H', k d M' → Ex H0 H0' → S4 K w H0' M' F H' → Gx K H0' d v → Q v H') → r vs H Q
def RM (r : V → List V → Hp → VK → Prop) (x : D) (l : List D) (M : MH) (k : D → MH → Prop) : Prop :=
  ∀ (H0 : Hp) (vx : V) (vs : List V) (H F : Hp) (Q : VK), S4 K w H0 M F H → Gx K H0 x vx → GxL K H0 l vs →
    (∀ d M' v H0' H', k d M' → Ex H0 H0' → S4 K w H0' M' F H' → Gx K H0' d v → Q v H') → r vx vs H Q
/-- a target -/
def GV (g : TG) (d : D) (ds : DS) (M : MH) (k : DS → MH → Prop) : Prop :=
  ∀ (H0 : Hp) (v : V) (σ : L2.St) (H F : Hp) (Q : L2.St → Hp → Prop), S4 K w H0 M F H → En K H0 ds σ → Gx K H0 d v →
    (∀ ds' M' σ' H0' H', k ds' M' → Ex H0 H0' → S4 K w H0' M' F H' → En K H0' ds' σ' → Q σ' H') → g v σ H Q
def GVs (g : TGs) (l : List D) (ds : DS) (M : MH) (k : DS → MH → Prop) : Prop :=
  ∀ (H0 : Hp) (vs : List V) (σ : L2.St) (H F : Hp) (Q : L2.St → Hp → Prop), S4 K w H0 M F H → En K H0 ds σ → GxL K H0 l vs →
    (∀ ds' M' σ' H0' H', k ds' M' → Ex H0 H0' → S4 K w H0' M' F H' → En K H0' ds' σ' → Q σ' H') → g vs σ H Q
/-- the ends of a statement, by data -/
structure KS where
  nx : DS → MH → Prop
  rt : D → MH → Prop
  bk : DS → MH → Prop := fun _ _ => False
  ct : DS → MH → Prop := fun _ _ => False
structure Lk (H0 F : Hp) (k : KS) (E : Ends) : Prop where
  nx : ∀ ds M H0' σ H, k.nx ds M → Ex H0 H0' → S4 K w H0' M F H → En K H0' ds σ → E.nx σ H
  rt : ∀ d M v H0' H, k.rt d M → Ex H0 H0' → S4 K w H0' M F H → Gx K H0' d v → E.rt v H
  bk : ∀ ds M H0' σ H, k.bk ds M → Ex H0 H0' → S4 K w H0' M F H → En K H0' ds σ → E.bk σ H
  ct : ∀ ds M H0' σ H, k.ct ds M → Ex H0 H0' → S4 K w H0' M F H → En K H0' ds σ → E.ct σ H
def SW (t : TS) (ds : DS) (M : MH) (k : KS) : Prop :=
  ∀ (H0 : Hp) (σ : L2.St) (H F : Hp) (E : Ends), S4 K w H0 M F H → En K H0 ds σ → Lk K w H0 F k E → t E σ H
/-- what is walked -/
def JOk (J : It) (H0 : Hp) (l : List D) : Prop := ∀ (H1 H : Hp) (i : Nat), Ex H0 H1 → Ex H1 H →
  (l[i]? = none → J.stop i H) ∧ ∀ d, l[i]? = some d → J.go i H ∧ ∀ v H', J.yld i H v H' → Ex H H' ∧ ∃ H1', Ex H1 H1' ∧ Ex H1' H' ∧ (∀ a o, H1' a = some o → H1 a = some o ∨ H a = none) ∧ Gx K H1' d v
def IV (wi : TI) (ds : DS) (M : MH) (k : List D → MH → Prop) : Prop :=
  ∀ (H0 : Hp) (σ : L2.St) (H F : Hp) (R : It → Hp → Prop), S4 K w H0 M F H → En K H0 ds σ →
    (∀ l M' J H0' H', k l M' → Ex H0 H0' → S4 K w H0' M' F H' → JOk K J H0' l → R J H') → wi σ H R
end

section
variable {K : PySem.W.Frag} {w : World} {ds : DS} {M M1 : MH} {k k' : D → MH → Prop} {ta tb te tx : TE} {r : R2}
theorem EV.mono (h : EV K w te ds M k) (f : ∀ d M', k d M' → k' d M') : EV K w te ds M k' := fun H0 σ H F Q s e q => h H0 σ H F Q s e fun d M' v H0' H' p => q d M' v H0' H' (f d M' p)
theorem TV.mono {tt : TT} {k k' : Bool → MH → Prop} (h : TV K w tt ds M k) (f : ∀ d M', k d M' → k' d M') : TV K w tt ds M k' := fun H0 σ H F Q s e q => h H0 σ H F Q s e fun d M' H0' H' p => q d M' H0' H' (f d M' p)
theorem AV.mono {t : TA} {k k' : List D → MH → Prop} (h : AV K w t ds M k) (f : ∀ d M', k d M' → k' d M') : AV K w t ds M k' := fun H0 σ H F Q s e q => h H0 σ H F Q s e fun d M' v H0' H' p => q d M' v H0' H' (f d M' p)
theorem SW.mono {t : TS} {k k' : KS} (h : SW K w t ds M k) (f1 : ∀ d M', k.nx d M' → k'.nx d M') (f2 : ∀ d M', k.rt d M' → k'.rt d M') (f3 : ∀ d M', k.bk d M' → k'.bk d M') (f4 : ∀ d M', k.ct d M' → k'.ct d M') : SW K w t ds M k' :=
  fun H0 σ H F E s e q => h H0 σ H F E s e ⟨fun ds M H0' σ H p => q.nx ds M H0' σ H (f1 _ _ p), fun d M v H0' H p => q.rt d M v H0' H (f2 _ _ p), fun ds M H0' σ H p => q.bk ds M H0' σ H (f3 _ _ p), fun ds M H0' σ H p => q.ct ds M H0' σ H (f4 _ _ p)⟩
theorem Lk.mono {H0 H0' F : Hp} {k : KS} {E : Ends} (h : Lk K w H0 F k E) (e : Ex H0 H0') : Lk K w H0' F k E :=
  ⟨fun ds M H1 σ H p q => h.nx ds M H1 σ H p (e.trans q), fun d M v H1 H p q => h.rt d M v H1 H p (e.trans q), fun ds M H1 σ H p q => h.bk ds M H1 σ H p (e.trans q), fun ds M H1 σ H p q => h.ct ds M H1 σ H p (e.trans q)⟩

/-! ### expressions -/
theorem ev_var {i : Nat} {d : D} (h : ds[i]? = some (some d)) (q : k d M) : EV K w (tVar i) ds M k := fun H0 σ H F Q s e f => by
  obtain ⟨v, h1, h2⟩ := e.2 i d h
  exact ⟨v, h1, f d M v H0 H q (Ex.refl H0) s h2⟩
theorem ev_int {i : Int} (q : k (.int i) M) : EV K w (tC (.int i)) ds M k := fun H0 σ H F Q s e f => f _ M _ H0 H q (Ex.refl H0) s rfl
theorem ev_bl {i : Bool} (q : k (.bl i) M) : EV K w (tC (.bl i)) ds M k := fun H0 σ H F Q s e f => f _ M _ H0 H q (Ex.refl H0) s rfl
theorem ev_str {i : Str} (q : k (.str i) M) : EV K w (tC (.str i)) ds M k := fun H0 σ H F Q s e f => f _ M _ H0 H q (Ex.refl H0) s rfl
theorem ev_non (q : k .non M) : EV K w (tC .non) ds M k := fun H0 σ H F Q s e f => f _ M _ H0 H q (Ex.refl H0) s rfl
theorem ev_ty {n : String} (q : k (.ty n) M) : EV K w (tC (.ty n)) ds M k := fun H0 σ H F Q s e f => f _ M _ H0 H q (Ex.refl H0) s rfl
theorem ev_op (h : EV K w ta ds M fun x M1 => EV K w tb ds M1 fun y M2 => RD K w r x y M2 k) : EV K w (tOp r ta tb) ds M k := fun H0 σ H F Q s e f => by
  refine h H0 σ H F _ s e fun x M1 vx H1 H2 q e1 s1 gx => ?_
  refine q H1 σ H2 F _ s1 (e.mono e1) fun y M2 vy H3 H4 q2 e2 s2 gy => ?_
  exact q2 H3 vx vy H4 F Q s2 (Gx.mono e2 _ _ gx) gy fun d M' v H0' H' p e3 => f d M' v H0' H' p ((e1.trans e2).trans e3)
theorem ev_un {r : V → Hp → VK → Prop} (h : EV K w ta ds M fun x M1 => RU1 K w r x M1 k) : EV K w (tUn r ta) ds M k := fun H0 σ H F Q s e f => by
  refine h H0 σ H F _ s e fun x M1 vx H1 H2 q e1 s1 gx => ?_
  exact q H1 vx H2 F Q s1 gx fun d M' v H0' H' p e3 => f d M' v H0' H' p (e1.trans e3)
theorem rd_int {g : Int → Int → Int} {i j : Int} (q : k (.int (g i j)) M) : RD K w (rI0 fun a b => .int (g a b)) (.int i) (.int j) M k := fun H0 vx vy H F Q s gx gy f => ⟨i, j, gx, gy, f _ M _ H0 H q (Ex.refl H0) s rfl⟩
theorem rd_intb {g : Int → Int → Bool} {i j : Int} (q : k (.bl (g i j)) M) : RD K w (rI0 fun a b => .bl (g a b)) (.int i) (.int j) M k := fun H0 vx vy H F Q s gx gy f => ⟨i, j, gx, gy, f _ M _ H0 H q (Ex.refl H0) s rfl⟩
theorem rd_intC {C : Int → Int → Prop} {g : Int → Int → Int} {i j : Int} (c : C i j) (q : k (.int (g i j)) M) : RD K w (rI C fun a b => .int (g a b)) (.int i) (.int j) M k := fun H0 vx vy H F Q s gx gy f => ⟨i, j, gx, gy, c, f _ M _ H0 H q (Ex.refl H0) s rfl⟩
theorem ru_neg {i : Int} (q : k (.int (-i)) M) : RU1 K w (rU fun i => .int (-i)) (.int i) M k := fun H0 vx H F Q s gx f => ⟨i, gx, f _ M _ H0 H q (Ex.refl H0) s rfl⟩
theorem rd_cats {x y : Str} (hl : x.length + y.length ≤ sizeLine) (q : k (.str (x ++ y)) M) : RD K w (fun x y H Q => ∃ i j, x = .str i ∧ y = .str j ∧ i.length + j.length ≤ sizeLine ∧ Q (.str (i ++ j)) H) (.str x) (.str y) M k :=
  fun H0 vx vy H F Q s gx gy f => ⟨x, y, gx, gy, hl, f _ M _ H0 H q (Ex.refl H0) s rfl⟩
/-- flat data as values -/
def D.fl : D → Option V
  | .non => some .non
  | .bl b => some (.bl b)
  | .int i => some (.int i)
  | .str x => some (.str x)
  | _ => none
theorem Gx.fl {H : Hp} {d : D} {v u : V} (h : d.fl = some u) (g : Gx K H d v) : v = u := by
  cases d with
  | non => cases h; exact g
  | bl b => cases h; exact g
  | int b => cases h; exact g
  | str b => cases h; exact g
  | _ => cases h
theorem rd_eq {x y : D} {a b : V} (h1 : x.fl = some a) (h2 : y.fl = some b) (hs : scal a b = true) (q : k (.bl (decide (a = b))) M) : RD K w rEq x y M k := fun H0 vx vy H F Q s gx gy f => by
  rw [gx.fl h1, gy.fl h2]
  exact ⟨hs, f _ M _ H0 H q (Ex.refl H0) s rfl⟩
theorem rd_ne {x y : D} {a b : V} (h1 : x.fl = some a) (h2 : y.fl = some b) (hs : scal a b = true) (q : k (.bl (!decide (a = b))) M) : RD K w rNe x y M k := fun H0 vx vy H F Q s gx gy f => by
  rw [gx.fl h1, gy.fl h2]
  exact ⟨hs, f _ M _ H0 H q (Ex.refl H0) s rfl⟩
theorem rd_eqI {i j : Int} (q : k (.bl (decide (i = j))) M) : RD K w rEq (.int i) (.int j) M k := rd_eq rfl rfl rfl (by
  have e : decide (V.int i = V.int j) = decide (i = j) := by
    by_cases h : i = j
    · subst h; simp
    · rw [decide_eq_false h, decide_eq_false fun z => h (by injection z)]
  rw [e]; exact q)
theorem rd_neI {i j : Int} (q : k (.bl (!decide (i = j))) M) : RD K w rNe (.int i) (.int j) M k := rd_ne rfl rfl rfl (by
  have e : decide (V.int i = V.int j) = decide (i = j) := by
    by_cases h : i = j
    · subst h; simp
    · rw [decide_eq_false h, decide_eq_false fun z => h (by injection z)]
  rw [e]; exact q)
theorem rd_eqS {i j : Str} (q : k (.bl (decide (i = j))) M) : RD K w rEq (.str i) (.str j) M k := rd_eq rfl rfl rfl (by
  have e : decide (V.str i = V.str j) = decide (i = j) := by
    by_cases h : i = j
    · subst h; simp
    · rw [decide_eq_false h, decide_eq_false fun z => h (by injection z)]
  rw [e]; exact q)
theorem rd_neS {i j : Str} (q : k (.bl (!decide (i = j))) M) : RD K w rNe (.str i) (.str j) M k := rd_ne rfl rfl rfl (by
  have e : decide (V.str i = V.str j) = decide (i = j) := by
    by_cases h : i = j
    · subst h; simp
    · rw [decide_eq_false h, decide_eq_false fun z => h (by injection z)]
  rw [e]; exact q)
theorem rd_neB {i j : Bool} (q : k (.bl (!decide (i = j))) M) : RD K w rNe (.bl i) (.bl j) M k := rd_ne rfl rfl rfl (by
  have e : decide (V.bl i = V.bl j) = decide (i = j) := by
    by_cases h : i = j
    · subst h; simp
    · rw [decide_eq_false h, decide_eq_false fun z => h (by injection z)]
  rw [e]; exact q)
/-- x is None -/
def D.isN : D → Bool
  | .non => true
  | _ => false
theorem Gx.isN {H : Hp} : ∀ {d : D} {v : V}, Gx K H d v → decide (v = .non) = d.isN
  | .non, _, h => by rw [show _ = V.non from h]; rfl
  | .bl _, _, h => by rw [show _ = V.bl _ from h]; exact decide_eq_false fun z => nomatch z
  | .int _, _, h => by rw [show _ = V.int _ from h]; exact decide_eq_false fun z => nomatch z
  | .str _, _, h => by rw [show _ = V.str _ from h]; exact decide_eq_false fun z => nomatch z
  | .ty _, _, h => by rw [show _ = V.ty _ from h]; exact decide_eq_false fun z => nomatch z
  | .adr _, _, h => by rw [show _ = V.ref _ from h]; exact decide_eq_false fun z => nomatch z
  | .tup _, _, ⟨_, _, h, _⟩ => by rw [h]; exact decide_eq_false fun z => nomatch z
  | .lst _, _, ⟨_, _, h, _⟩ => by rw [h]; exact decide_eq_false fun z => nomatch z
  | .scr _, _, ⟨_, _, h, _⟩ => by rw [h]; exact decide_eq_false fun z => nomatch z
  | .dk _ _, _, ⟨_, _, h, _⟩ => by rw [h]; exact decide_eq_false fun z => nomatch z
  | .ins _ _ _, _, ⟨_, _, _, h, _⟩ => by rw [h]; exact decide_eq_false fun z => nomatch z
theorem rd_isN {x : D} (q : k (.bl x.isN) M) : RD K w (fun x y H Q => y = .non ∧ Q (.bl (decide (x = .non))) H) x .non M k := fun H0 vx vy H F Q s gx gy f => ⟨gy, by
  rw [gx.isN]
  exact f _ M _ H0 H q (Ex.refl H0) s rfl⟩
theorem rd_notN {x : D} (q : k (.bl (!x.isN)) M) : RD K w (fun x y H Q => y = .non ∧ Q (.bl (!decide (x = .non))) H) x .non M k := fun H0 vx vy H F Q s gx gy f => ⟨gy, by
  rw [gx.isN]
  exact f _ M _ H0 H q (Ex.refl H0) s rfl⟩

/-! ### tests -/
variable {kb : Bool → MH → Prop} {t u tA tB' : TT}
theorem tv_test (h : EV K w te ds M fun d M1 => ∃ b, d = .bl b ∧ kb b M1) : TV K w (tTest te) ds M kb := fun H0 σ H F Q s e f => by
  refine h H0 σ H F _ s e fun d M1 v H1 H2 q e1 s1 g => ?_
  obtain ⟨b, rfl, q⟩ := q
  exact ⟨b, g, f b M1 H1 H2 q e1 s1⟩
theorem tv_B (h : EV K w te ds M fun d M1 => ∃ b, d = .bl b ∧ kb b M1) : TV K w (tB te) ds M kb := fun H0 σ H F Q s e f => by
  refine h H0 σ H F _ s e fun d M1 v H1 H2 q e1 s1 g => ?_
  obtain ⟨b, rfl, q⟩ := q
  exact ⟨b, g, f b M1 H1 H2 q e1 s1⟩
theorem tv_and (h : TV K w t ds M fun b M1 => if b = true then TV K w u ds M1 kb else kb false M1) : TV K w (tAnd t u) ds M kb := fun H0 σ H F Q s e f => by
  refine h H0 σ H F _ s e fun b M1 H1 H2 q e1 s1 => ?_
  cases b with
  | true => exact (show TV K w u ds M1 kb from q) H1 σ H2 F Q s1 (e.mono e1) fun b M' H0' H' p e2 => f b M' H0' H' p (e1.trans e2)
  | false => exact f false M1 H1 H2 q e1 s1
theorem tv_or (h : TV K w t ds M fun b M1 => if b = true then kb true M1 else TV K w u ds M1 kb) : TV K w (tOr t u) ds M kb := fun H0 σ H F Q s e f => by
  refine h H0 σ H F _ s e fun b M1 H1 H2 q e1 s1 => ?_
  cases b with
  | false => exact (show TV K w u ds M1 kb from q) H1 σ H2 F Q s1 (e.mono e1) fun b M' H0' H' p e2 => f b M' H0' H' p (e1.trans e2)
  | true => exact f true M1 H1 H2 q e1 s1
theorem tv_not (h : TV K w t ds M fun b M1 => kb (!b) M1) : TV K w (tNot t) ds M kb := fun H0 σ H F Q s e f => h H0 σ H F _ s e fun b M1 H1 H2 q e1 s1 => f (!b) M1 H1 H2 q e1 s1
theorem ev_if (h : TV K w t ds M fun b M1 => if b = true then EV K w ta ds M1 k else EV K w tb ds M1 k) : EV K w (tIf t ta tb) ds M k := fun H0 σ H F Q s e f => by
  refine h H0 σ H F _ s e fun b M1 H1 H2 q e1 s1 => ?_
  cases b with
  | true => exact (show EV K w ta ds M1 k from q) H1 σ H2 F Q s1 (e.mono e1) fun b M' v H0' H' p e2 => f b M' v H0' H' p (e1.trans e2)
  | false => exact (show EV K w tb ds M1 k from q) H1 σ H2 F Q s1 (e.mono e1) fun b M' v H0' H' p e2 => f b M' v H0' H' p (e1.trans e2)
theorem ev_andV (h : EV K w ta ds M fun d M1 => ∃ b, d = .bl b ∧ if b = true then EV K w tb ds M1 k else k (.bl false) M1) : EV K w (tAndV ta tb) ds M k := fun H0 σ H F Q s e f => by
  refine h H0 σ H F _ s e fun d M1 v H1 H2 q e1 s1 g => ?_
  obtain ⟨b, rfl, q⟩ := q
  refine ⟨b, g, ?_⟩
  cases b with
  | true => exact (show EV K w tb ds M1 k from q) H1 σ H2 F Q s1 (e.mono e1) fun b M' v H0' H' p e2 => f b M' v H0' H' p (e1.trans e2)
  | false => exact f _ M1 _ H1 H2 q e1 s1 rfl
theorem ev_orV (h : EV K w ta ds M fun d M1 => ∃ b, d = .bl b ∧ if b = true then k (.bl true) M1 else EV K w tb ds M1 k) : EV K w (tOrV ta tb) ds M k := fun H0 σ H F Q s e f => by
  refine h H0 σ H F _ s e fun d M1 v H1 H2 q e1 s1 g => ?_
  obtain ⟨b, rfl, q⟩ := q
  refine ⟨b, g, ?_⟩
  cases b with
  | false => exact (show EV K w tb ds M1 k from q) H1 σ H2 F Q s1 (e.mono e1) fun b M' v H0' H' p e2 => f b M' v H0' H' p (e1.trans e2)
  | true => exact f _ M1 _ H1 H2 q e1 s1 rfl
theorem ev_notV (h : EV K w ta ds M fun d M1 => ∃ b, d = .bl b ∧ k (.bl (!b)) M1) : EV K w (tNotV ta) ds M k := fun H0 σ H F Q s e f => by
  refine h H0 σ H F _ s e fun d M1 v H1 H2 q e1 s1 g => ?_
  obtain ⟨b, rfl, q⟩ := q
  exact ⟨b, g, f _ M1 _ H1 H2 q e1 s1 rfl⟩

/-! ### arguments, displays -/
theorem av_nil {k : List D → MH → Prop} (q : k [] M) : AV K w tNil ds M k := fun H0 σ H F Q s e f => f [] M [] H0 H q (Ex.refl H0) s rfl
theorem av_cons {k : List D → MH → Prop} {tr : TA} (h : EV K w ta ds M fun x M1 => AV K w tr ds M1 fun l M2 => k (x :: l) M2) : AV K w (tCons ta tr) ds M k := fun H0 σ H F Q s e f => by
  refine h H0 σ H F _ s e fun x M1 vx H1 H2 q e1 s1 gx => ?_
  refine q H1 σ H2 F _ s1 (e.mono e1) fun l M2 vs H3 H4 q2 e2 s2 gl => ?_
  exact f _ M2 _ H3 H4 q2 (e1.trans e2) s2 ⟨vx, vs, rfl, Gx.mono e2 _ _ gx, gl⟩
theorem ev_tup {t : TA} (h : AV K w t ds M fun l M1 => l.length ≤ sizeLine ∧ k (.tup l) M1) : EV K w (tTup t) ds M k := fun H0 σ H F Q s e f => by
  refine h H0 σ H F _ s e fun l M1 vs H1 H2 q e1 s1 gl => ⟨by rw [gl.len]; exact q.1, fun p hp => ?_⟩
  have h0 : H1 p = none := fresh_back s1.ex hp
  exact f _ M1 _ _ _ q.2 (e1.trans (Ex.new h0)) (s1.new hp) ⟨p, vs, rfl, upd_same, GxL.mono (Ex.new h0) _ _ gl⟩
/-- a list that stays as it is | one that may change -/
theorem ev_lst {t : TA} (h : AV K w t ds M fun l M1 => l.length ≤ sizeLine ∧ k (.lst l) M1) : EV K w (tLst t) ds M k := fun H0 σ H F Q s e f => by
  refine h H0 σ H F _ s e fun l M1 vs H1 H2 q e1 s1 gl => ⟨by rw [gl.len]; exact q.1, fun p hp => ?_⟩
  have h0 : H1 p = none := fresh_back s1.ex hp
  exact f _ M1 _ _ _ q.2 (e1.trans (Ex.new h0)) (s1.new hp) ⟨p, vs, rfl, upd_same, GxL.mono (Ex.new h0) _ _ gl⟩
theorem ev_lstM {t : TA} (h : AV K w t ds M fun l M1 => l.length ≤ sizeLine ∧ ∀ p, M1 p = none → k (.adr p) (M1.set p (.lst l))) : EV K w (tLst t) ds M k := fun H0 σ H F Q s e f => by
  refine h H0 σ H F _ s e fun l M1 vs H1 H2 q e1 s1 gl => ⟨by rw [gl.len]; exact q.1, fun p hp => ?_⟩
  exact f _ _ _ _ _ (q.2 p (s1.noM hp)) e1 (s1.newM hp ⟨vs, rfl, gl⟩) rfl
theorem ev_dnewK (q : ∀ p, M p = none → k (.adr p) (M.set p (.dk []))) : EV K w tDNewK ds M k := fun H0 σ H F Q s e f p hp =>
  f _ _ _ _ _ (q p (s.noM hp)) (Ex.refl H0) (s.newM hp ⟨[], rfl, rfl⟩) rfl

/-! ### subscripts -/
theorem gx_get {H : Hp} {l : List D} {vs : List V} {i : Int} {d : D} (g : GxL K H l vs) (h : atI l i = some d) : ∃ v, atI vs i = some v ∧ Gx K H d v := by
  unfold atI at h ⊢
  rw [g.len]
  cases e : ixN l.length i with
  | none => rw [e] at h; cases h
  | some j =>
    rw [e] at h
    exact g.get h
theorem rd_ixT {l : List D} {i : Int} {d : D} (h : atI l i = some d) (q : k d M) : RD K w (rIxT K) (.tup l) (.int i) M k := fun H0 vx vy H F Q s gx gy f => by
  obtain ⟨a, vs, e1, e2, e3⟩ := gx
  obtain ⟨v, hv, gv⟩ := gx_get e3 h
  exact ⟨a, vs, i, v, e1, gy, SqT.of (s.ex _ _ e2), hv, f d M v H0 H q (Ex.refl H0) s gv⟩
theorem rd_ixL {l : List D} {i : Int} {d : D} (h : atI l i = some d) (q : k d M) : RD K w (rIxL K) (.lst l) (.int i) M k := fun H0 vx vy H F Q s gx gy f => by
  obtain ⟨a, vs, e1, e2, e3⟩ := gx
  obtain ⟨v, hv, gv⟩ := gx_get e3 h
  exact ⟨a, vs, i, v, e1, gy, SqL.of (s.ex _ _ e2), hv, f d M v H0 H q (Ex.refl H0) s gv⟩
theorem rd_ixLM {p : Addr} {l : List D} {i : Int} {d : D} (hm : M p = some (.lst l)) (h : atI l i = some d) (q : k d M) : RD K w (rIxL K) (.adr p) (.int i) M k := fun H0 vx vy H F Q s gx gy f => by
  obtain ⟨h1, ho, h2, vs, rfl, e3⟩ := s.mu p _ hm
  obtain ⟨v, hv, gv⟩ := gx_get e3 h
  exact ⟨p, vs, i, v, gx, gy, SqL.of h2, hv, f d M v H0 H q (Ex.refl H0) s gv⟩
/-- of a list, a tuple, a text: one rule -/
theorem rd_seqT {l : List D} {i : Int} {d : D} (h : atI l i = some d) (q : k d M) : RD K w (rIx K) (.tup l) (.int i) M k := fun H0 vx vy H F Q s gx gy f => .inr (.inl (rd_ixT h q H0 vx vy H F Q s gx gy f))
theorem rd_seqL {l : List D} {i : Int} {d : D} (h : atI l i = some d) (q : k d M) : RD K w (rIx K) (.lst l) (.int i) M k := fun H0 vx vy H F Q s gx gy f => .inl (rd_ixL h q H0 vx vy H F Q s gx gy f)
theorem rd_seqLM {p : Addr} {l : List D} {i : Int} {d : D} (hm : M p = some (.lst l)) (h : atI l i = some d) (q : k d M) : RD K w (rIx K) (.adr p) (.int i) M k := fun H0 vx vy H F Q s gx gy f => .inl (rd_ixLM hm h q H0 vx vy H F Q s gx gy f)
theorem rd_seqS {z : Str} {i : Int} {c : Nat} (hl : z.length ≤ sizeLine) (h : atI z.cps.toList i = some c) (q : k (.str ⟨#[c]⟩) M) : RD K w (rIx K) (.str z) (.int i) M k := fun H0 vx vy H F Q s gx gy f =>
  .inr (.inr ⟨z, i, c, gx, gy, hl, h, f _ M _ H0 H q (Ex.refl H0) s rfl⟩)
end
end PL

set_option Elab.async false
set_option linter.all false
set_option maxRecDepth 100000
set_option maxHeartbeats 4000000
/-! PLc: statements, targets, loops, comprehensions, calls of defs and methods, fields. -/
namespace PL
open PySem PySem.Spec PyProof.Rows L2 Evl
section
variable {K : PySem.W.Frag} {w : World} {ds : DS} {M M1 : MH} {k : D → MH → Prop} {ks : KS} {te ta tv : TE} {t u : TS} {g : TG} {c : TT}

/-! ### statements -/
theorem sw_next (q : ks.nx ds M) : SW K w tNext ds M ks := fun H0 σ H F E s e l => l.nx ds M H0 σ H q (Ex.refl H0) s e
theorem sw_seq (h : SW K w t ds M { ks with nx := fun ds' M' => SW K w u ds' M' ks }) : SW K w (tSeq t u) ds M ks := fun H0 σ H F E s e l =>
  h H0 σ H F { E with nx := u E } s e ⟨fun ds' M' H0' σ' H' q e1 s1 n1 => q H0' σ' H' F E s1 n1 (l.mono e1), l.rt, l.bk, l.ct⟩
theorem sw_brk (q : ks.bk ds M) : SW K w tBreak ds M ks := fun H0 σ H F E s e l => l.bk ds M H0 σ H q (Ex.refl H0) s e
theorem sw_cont (q : ks.ct ds M) : SW K w tCont ds M ks := fun H0 σ H F E s e l => l.ct ds M H0 σ H q (Ex.refl H0) s e
theorem sw_drop (h : EV K w te ds M fun _ M1 => ks.nx ds M1) : SW K w (tDrop te) ds M ks := fun H0 σ H F E s e l =>
  h H0 σ H F _ s e fun d M1 v H1 H2 q e1 s1 _ => l.nx ds M1 H1 σ H2 q e1 s1 (e.mono e1)
theorem sw_ret (h : EV K w te ds M ks.rt) : SW K w (tRet te) ds M ks := fun H0 σ H F E s e l =>
  h H0 σ H F _ s e fun d M1 v H1 H2 q e1 s1 g => l.rt d M1 v H1 H2 q e1 s1 g
theorem sw_retN (q : ks.rt .non M) : SW K w tRetN ds M ks := fun H0 σ H F E s e l => l.rt .non M .non H0 H q (Ex.refl H0) s rfl
theorem sw_if (h : TV K w c ds M fun b M1 => if b = true then SW K w t ds M1 ks else SW K w u ds M1 ks) : SW K w (tIfS c t u) ds M ks := fun H0 σ H F E s e l =>
  h H0 σ H F _ s e fun b M1 H1 H2 q e1 s1 => by
    cases b with
    | true => exact (show SW K w t ds M1 ks from q) H1 σ H2 F E s1 (e.mono e1) (l.mono e1)
    | false => exact (show SW K w u ds M1 ks from q) H1 σ H2 F E s1 (e.mono e1) (l.mono e1)
theorem sw_asg (h : EV K w te ds M fun d M1 => GV K w g d ds M1 ks.nx) : SW K w (tAsg te g) ds M ks := fun H0 σ H F E s e l =>
  h H0 σ H F _ s e fun d M1 v H1 H2 q e1 s1 gd => q H1 v σ H2 F _ s1 (e.mono e1) gd fun ds' M' σ' H0' H' p e2 s2 n2 => l.nx ds' M' H0' σ' H' p (e1.trans e2) s2 n2
theorem sw_aug {i : Nat} {ti : TIp} {x : D} (hx : ds[i]? = some (some x)) (h : EV K w te ds M fun y M1 => RD K w ti x y M1 fun z M2 => ks.nx (ds.set i (some z)) M2) : SW K w (tAug i te ti) ds M ks := fun H0 σ H F E s e l => by
  obtain ⟨vx, h1, gx⟩ := e.2 i x hx
  refine ⟨vx, h1, h H0 σ H F _ s e fun y M1 vy H1 H2 q e1 s1 gy => ?_⟩
  exact q H1 vx vy H2 F _ s1 (Gx.mono e1 _ _ gx) gy fun z M' v H0' H' p e2 s2 gz => l.nx _ M' H0' _ H' p (e1.trans e2) s2 ((e.mono (e1.trans e2)).set i gz)
theorem ip_int {f : Int → Int → Int} {i j : Int} (q : k (.int (f i j)) M) : RD K w (ipI f) (.int i) (.int j) M k := fun H0 vx vy H F Q s gx gy l => ⟨i, j, gx, gy, l _ M _ H0 H q (Ex.refl H0) s rfl⟩
/-- a, b = e1, e2 -/
theorem sw_par {i j : Nat} {t2 : TA} (h : AV K w t2 ds M fun l M1 => ∃ x y, l = [x, y] ∧ ks.nx ((ds.set i (some x)).set j (some y)) M1) : SW K w (tPar i j t2) ds M ks := fun H0 σ H F E s e l => by
  refine h H0 σ H F _ s e fun m M1 vs H1 H2 q e1 s1 gl => ?_
  obtain ⟨x, y, rfl, q⟩ := q
  obtain ⟨v, r, rfl, gx, z, r2, rfl, gy, hr⟩ := gl
  have hr' : r2 = [] := hr
  subst hr'
  exact ⟨v, z, rfl, l.nx _ M1 H1 _ H2 q e1 s1 (((e.mono e1).set i gx).set j gy)⟩
/-- what may change stays from now on as it is: a list, a dict, an instance -/
theorem sw_frzL {i : Nat} {p : Addr} {l : List D} (hi : ds[i]? = some (some (.adr p))) (hm : M p = some (.lst l)) (h : SW K w t (ds.set i (some (.lst l))) (M.del p) ks) : SW K w t ds M ks := fun H0 σ H F E s e q => by
  obtain ⟨h1, ho, h2, vs, rfl, g⟩ := s.mu p _ hm
  have e0 : Ex H0 (upd H0 p (.lst vs)) := Ex.new h1
  refine h _ σ H F E (s.frz hm h2) ((e.mono e0).up i (fun v hv => ?_) ?_) (q.mono e0)
  · obtain ⟨v', hv', gv⟩ := e.2 i _ hi
    rw [hv] at hv'
    have z : v = v' := by simpa using hv'
    have gv' : v' = .ref p := gv
    exact ⟨p, vs, by rw [z, gv'], upd_same, GxL.mono e0 _ _ g⟩
  · obtain ⟨v', hv', _⟩ := e.2 i _ hi
    exact ⟨v', hv'⟩
theorem sw_frzD {i : Nat} {p : Addr} {kvs : List (Key × D)} (hi : ds[i]? = some (some (.adr p))) (hm : M p = some (.dk kvs)) (h : SW K w t (ds.set i (some (.dk (kvs.map (·.1)) (kvs.map (·.2))))) (M.del p) ks) : SW K w t ds M ks := fun H0 σ H F E s e q => by
  obtain ⟨h1, ho, h2, vs, rfl, g⟩ := s.mu p _ hm
  have hk : (kvs.map (·.1)).length = (kvs.map (·.2)).length := by rw [List.length_map, List.length_map]
  have e0 : Ex H0 (upd H0 p (.dK ((kvs.map (·.1)).zip vs))) := Ex.new h1
  refine h _ σ H F E (s.frz hm h2) ((e.mono e0).up i (fun v hv => ?_) ?_) (q.mono e0)
  · obtain ⟨v', hv', gv⟩ := e.2 i _ hi
    rw [hv] at hv'
    have z : v = v' := by simpa using hv'
    have gv' : v' = .ref p := gv
    exact ⟨p, vs, by rw [z, gv'], upd_same, hk, GxL.mono e0 _ _ g⟩
  · obtain ⟨v', hv', _⟩ := e.2 i _ hi
    exact ⟨v', hv'⟩
/-- the same of an expression's value -/
theorem ev_frzL (h : EV K w te ds M fun d M1 => ∃ p l, d = .adr p ∧ M1 p = some (.lst l) ∧ k (.lst l) (M1.del p)) : EV K w te ds M k := fun H0 σ H F Q s e f =>
  h H0 σ H F Q s e fun d M1 v H1 H2 q e1 s1 g => by
    obtain ⟨p, l, rfl, hm, q⟩ := q
    obtain ⟨h1, ho, h2, vs, rfl, gl⟩ := s1.mu p _ hm
    have e0 : Ex H1 (upd H1 p (.lst vs)) := Ex.new h1
    exact f _ _ v _ H2 q (e1.trans e0) (s1.frz hm h2) ⟨p, vs, g, upd_same, GxL.mono e0 _ _ gl⟩
theorem ev_frzD (h : EV K w te ds M fun d M1 => ∃ p kvs, d = .adr p ∧ M1 p = some (.dk kvs) ∧ k (.dk (kvs.map (·.1)) (kvs.map (·.2))) (M1.del p)) : EV K w te ds M k := fun H0 σ H F Q s e f =>
  h H0 σ H F Q s e fun d M1 v H1 H2 q e1 s1 g => by
    obtain ⟨p, kvs, rfl, hm, q⟩ := q
    obtain ⟨h1, ho, h2, vs, rfl, gl⟩ := s1.mu p _ hm
    have hk : (kvs.map (·.1)).length = (kvs.map (·.2)).length := by rw [List.length_map, List.length_map]
    have e0 : Ex H1 (upd H1 p (.dK ((kvs.map (·.1)).zip vs))) := Ex.new h1
    exact f _ _ v _ H2 q (e1.trans e0) (s1.frz hm h2) ⟨p, vs, g, upd_same, hk, GxL.mono e0 _ _ gl⟩
theorem ev_frzI (h : EV K w te ds M fun d M1 => ∃ p C ns l, d = .adr p ∧ M1 p = some (.ins C ns l) ∧ k (.ins C ns l) (M1.del p)) : EV K w te ds M k := fun H0 σ H F Q s e f =>
  h H0 σ H F Q s e fun d M1 v H1 H2 q e1 s1 g => by
    obtain ⟨p, C, ns, l, rfl, hm, q⟩ := q
    obtain ⟨h1, ho, h2, dx, vs, rfl, hk, gl⟩ := s1.mu p _ hm
    have e0 : Ex H1 (upd H1 p (.ins C dx (ns.zip vs))) := Ex.new h1
    exact f _ _ v _ H2 q (e1.trans e0) (s1.frz hm h2) ⟨p, dx, vs, g, upd_same, hk, GxL.mono e0 _ _ gl⟩

/-! ### targets -/
theorem gv_name {i : Nat} {d : D} {q : DS → MH → Prop} (h : q (ds.set i (some d)) M) : GV K w (gName i) d ds M q := fun H0 v σ H F Q s e g f => f _ M _ H0 H h (Ex.refl H0) s (e.set i g)
theorem gvs_nil {q : DS → MH → Prop} (h : q ds M) : GVs K w gNil [] ds M q := fun H0 vs σ H F Q s e g f => ⟨g, f ds M σ H0 H h (Ex.refl H0) s e⟩
theorem gvs_cons {g : TG} {gs : TGs} {d : D} {l : List D} {q : DS → MH → Prop} (h : GV K w g d ds M fun ds' M' => GVs K w gs l ds' M' q) : GVs K w (gCons g gs) (d :: l) ds M q := fun H0 vs σ H F Q s e gg f => by
  obtain ⟨v, r, rfl, g1, g2⟩ := gg
  refine ⟨v, r, rfl, h H0 v σ H F _ s e g1 fun ds' M' σ' H0' H' p e1 s1 n1 => ?_⟩
  exact p H0' r σ' H' F Q s1 n1 (GxL.mono e1 _ _ g2) fun ds2 M2 σ2 H02 H2 p2 e2 s2 n2 => f ds2 M2 σ2 H02 H2 p2 (e1.trans e2) s2 n2
theorem gv_tup {n : Nat} {gs : TGs} {l : List D} {q : DS → MH → Prop} (hl : l.length = n) (h : GVs K w gs l ds M q) : GV K w (gTup K n gs) (.tup l) ds M q := fun H0 v σ H F Q s e gg f => by
  obtain ⟨a, vs, rfl, h1, g⟩ := gg
  exact ⟨a, vs, rfl, SqT.of (s.ex _ _ h1), by rw [g.len, hl], h H0 vs σ H F Q s e g f⟩
/-- o[i] = e -/
def RS (K : PySem.W.Frag) (w : World) (r : TSet) (o i v : D) (M : MH) (q : MH → Prop) : Prop :=
  ∀ (H0 : Hp) (vo vi vv : V) (H F : Hp) (Q : Hp → Prop), S4 K w H0 M F H → Gx K H0 o vo → Gx K H0 i vi → Gx K H0 v vv → (∀ M' H0' H', q M' → Ex H0 H0' → S4 K w H0' M' F H' → Q H') → r vo vi vv H Q
theorem gv_sub {to ti : TE} {r : TSet} {d : D} {q : DS → MH → Prop} (h : EV K w to ds M fun o M1 => EV K w ti ds M1 fun i M2 => RS K w r o i d M2 fun M3 => q ds M3) : GV K w (gSub to ti r) d ds M q := fun H0 v σ H F Q s e g f => by
  refine h H0 σ H F _ s e fun o M1 vo H1 H2 q1 e1 s1 g1 => ?_
  refine q1 H1 σ H2 F _ s1 (e.mono e1) fun i M2 vi H3 H4 q2 e2 s2 g2 => ?_
  exact q2 H3 vo vi v H4 F _ s2 (Gx.mono e2 _ _ g1) g2 (Gx.mono (e1.trans e2) _ _ g) fun M' H0' H' p e3 s3 => f ds M' σ H0' H' p ((e1.trans e2).trans e3) s3 (e.mono ((e1.trans e2).trans e3))
theorem rs_list {p : Addr} {l : List D} {i : Int} {j : Nat} {d : D} {q : MH → Prop} (hm : M p = some (.lst l)) (hj : ixN l.length i = some j) (h : q (M.set p (.lst (l.set j d)))) : RS K w rSetL (.adr p) (.int i) d M q := fun H0 vo vi vv H F Q s go gi gv f => by
  obtain ⟨h1, ho, h2, vs, rfl, g⟩ := s.mu p _ hm
  exact ⟨p, vs, i, j, go, gi, h2, by rw [g.len]; exact hj, f _ H0 _ h (Ex.refl H0) (s.wr hm ⟨_, rfl, g.set j gv⟩)⟩

/-! ### while -/
theorem sw_while (W : Nat → DS → MH → Prop) (m0 : Nat) (h0 : W m0 ds M)
    (hs : ∀ m ds M, W m ds M → TV K w c ds M fun b M1 => if b = true then SW K w t ds M1 { ks with nx := fun ds' M' => ∃ m', m' < m ∧ W m' ds' M', ct := fun ds' M' => ∃ m', m' < m ∧ W m' ds' M', bk := ks.nx } else ks.nx ds M1) :
    SW K w (tWhile c t) ds M ks := fun H0 σ H F E s e l => by
  refine ⟨fun m σ H => ∃ H0' ds M, Ex H0 H0' ∧ S4 K w H0' M F H ∧ En K H0' ds σ ∧ W m ds M, ⟨m0, H0, ds, M, Ex.refl H0, s, e, h0⟩, ?_⟩
  rintro m σ1 H1 ⟨H01, ds1, M1, e1, s1, n1, w1⟩
  refine hs m ds1 M1 w1 H01 σ1 H1 F _ s1 n1 fun b M2 H02 H2 q e2 s2 => ?_
  cases b with
  | true =>
    refine ⟨fun σ' H' => ∃ m', m' < m ∧ ∃ H0' ds M, Ex H0 H0' ∧ S4 K w H0' M F H' ∧ En K H0' ds σ' ∧ W m' ds M, fun σ' H' h => h, ?_⟩
    refine (show SW K w t ds1 M2 _ from q) H02 σ1 H2 F _ s2 (n1.mono e2) ⟨?_, ?_, ?_, ?_⟩
    · rintro ds' M' H0' σ' H' ⟨m', hm, w'⟩ e3 s3 n3
      exact ⟨m', hm, H0', ds', M', (e1.trans e2).trans e3, s3, n3, w'⟩
    · exact fun d M v H0' H' p e3 => l.rt d M v H0' H' p ((e1.trans e2).trans e3)
    · exact fun ds' M' H0' σ' H' p e3 => l.nx ds' M' H0' σ' H' p ((e1.trans e2).trans e3)
    · rintro ds' M' H0' σ' H' ⟨m', hm, w'⟩ e3 s3 n3
      exact ⟨m', hm, H0', ds', M', (e1.trans e2).trans e3, s3, n3, w'⟩
  | false => exact l.nx ds1 M2 H02 σ1 H2 q (e1.trans e2) s2 (n1.mono e2)

/-! ### for -/
def FP (K : PySem.W.Frag) (w : World) (g : TG) (t : TS) (ks : KS) : List D → DS → MH → Prop
  | [], ds, M => ks.nx ds M
  | d :: l, ds, M => GV K w g d ds M fun ds1 M1 => SW K w t ds1 M1 { ks with nx := FP K w g t ks l, ct := FP K w g t ks l, bk := ks.nx }
theorem grow {H0 H H1 H' F : Hp} {M : MH} (s : S4 K w H0 M F H) (e : Ex H H') (e1 : Ex H0 H1) (e2 : Ex H1 H') (n : ∀ a o, H1 a = some o → H0 a = some o ∨ H a = none) : S4 K w H1 M F H' := by
  have nn : ∀ a ho, H a = some ho → H0 a = none → H1 a = none := fun a ho h2 h1 => by
    cases q : H1 a with
    | none => rfl
    | some o =>
      rcases n a o q with z | z
      · rw [h1] at z; cases z
      · rw [h2] at z; cases z
  refine ⟨e2, fun a o h => ?_, fun a o h => ?_⟩
  · obtain ⟨h1, ho, h2, h3⟩ := s.mu a o h
    exact ⟨nn a ho h2 h1, ho, e a ho h2, h3.mono e1⟩
  · obtain ⟨h1, h2, h3⟩ := s.fr a o h
    exact ⟨nn a o h3 h1, h2, e a o h3⟩
theorem sw_for {wi : TI} (h : IV K w wi ds M fun l M1 => FP K w g t ks l ds M1) : SW K w (tFor wi g t) ds M ks := fun H0 σ H F E s e q => by
  refine h H0 σ H F _ s e fun l M1 J H1 H2 p e1 s1 jo => ?_
  refine ⟨fun i m σ H => m = l.length - i ∧ i ≤ l.length ∧ ∃ H0' ds M, Ex H1 H0' ∧ S4 K w H0' M F H ∧ En K H0' ds σ ∧ FP K w g t ks (l.drop i) ds M, ⟨l.length, by simp, Nat.zero_le _, H1, ds, M1, Ex.refl H1, s1, e.mono e1, by simpa using p⟩, ?_⟩
  rintro i m σ1 H3 ⟨rfl, hi, H03, ds3, M3, e3, s3, n3, f3⟩
  obtain ⟨j1, j2⟩ := jo H03 H3 i e3 s3.ex
  by_cases hlt : i < l.length
  · have hx : l[i]? = some l[i] := List.getElem?_eq_getElem hlt
    obtain ⟨go, yl⟩ := j2 _ hx
    rw [List.drop_eq_getElem_cons hlt] at f3
    refine .inr ⟨go, fun σ' H' => ∃ H0' ds M, Ex H1 H0' ∧ S4 K w H0' M F H' ∧ En K H0' ds σ' ∧ FP K w g t ks (l.drop (i + 1)) ds M, ?_, ?_⟩
    · rintro σ' H' ⟨H0', ds', M', a1, a2, a3, a4⟩
      exact ⟨l.length - (i + 1), by omega, rfl, hlt, H0', ds', M', a1, a2, a3, a4⟩
    · intro v H4 hy
      obtain ⟨ee, H04, b1, b2, b3, b4⟩ := yl v H4 hy
      have s4 : S4 K w H04 M3 F H4 := grow s3 ee b1 b2 b3
      refine f3 H04 v σ1 H4 F _ s4 (n3.mono b1) b4 fun ds5 M5 σ5 H05 H5 p5 e5 s5 n5 => ?_
      refine p5 H05 σ5 H5 F _ s5 n5 ⟨?_, ?_, ?_, ?_⟩
      · exact fun ds' M' H0' σ' H' p' e' s' n' => ⟨H0', ds', M', ((e3.trans b1).trans e5).trans e', s', n', p'⟩
      · exact fun d M' v' H0' H' p' e' s' g' => q.rt d M' v' H0' H' p' (e1.trans (((e3.trans b1).trans e5).trans e')) s' g'
      · exact fun ds' M' H0' σ' H' p' e' s' n' => q.nx ds' M' H0' σ' H' p' (e1.trans (((e3.trans b1).trans e5).trans e')) s' n'
      · exact fun ds' M' H0' σ' H' p' e' s' n' => ⟨H0', ds', M', ((e3.trans b1).trans e5).trans e', s', n', p'⟩
  · have hi' : i = l.length := by omega
    subst hi'
    rw [List.drop_length] at f3
    exact .inl ⟨j1 (List.getElem?_eq_none (Nat.le_refl _)), q.nx ds3 M3 H03 σ1 H3 f3 (e1.trans e3) s3 n3⟩
/-- by an invariant -/
theorem fp_inv (I : Nat → DS → MH → Prop) : ∀ {l : List D} {i : Nat} {ds : DS} {M : MH}, I i ds M →
    (∀ (j : Nat) (d : D) (ds : DS) (M : MH), l[j]? = some d → I (i + j) ds M → GV K w g d ds M fun ds1 M1 => SW K w t ds1 M1 { ks with nx := I (i + j + 1), ct := I (i + j + 1), bk := ks.nx }) →
    (∀ ds M, I (i + l.length) ds M → ks.nx ds M) → FP K w g t ks l ds M
  | [], i, ds, M, h0, _, hd => hd ds M h0
  | d :: l, i, ds, M, h0, hs, hd => by
    have ih : ∀ ds' M', I (i + 1) ds' M' → FP K w g t ks l ds' M' := fun ds' M' h => fp_inv I (i := i + 1) h (fun j d' ds2 M2 hj h2 => by
      have z := hs (j + 1) d' ds2 M2 (by simpa using hj) (by rw [show i + (j + 1) = i + 1 + j by omega]; exact h2)
      rw [show i + (j + 1) + 1 = i + 1 + j + 1 by omega] at z
      exact z) fun ds2 M2 h2 => hd ds2 M2 (by rw [List.length_cons, show i + (l.length + 1) = i + 1 + l.length by omega]; exact h2)
    have z := hs 0 d ds M rfl h0
    exact fun H0 v σ H F Q s e gd f => z H0 v σ H F Q s e gd fun ds1 M1 σ1 H01 H1 p e1 s1 n1 => f ds1 M1 σ1 H01 H1 (p.mono (fun _ _ q => ih _ _ q) (fun _ _ q => q) (fun _ _ q => q) (fun _ _ q => ih _ _ q)) e1 s1 n1
theorem FP.start (I : Nat → DS → MH → Prop) {l : List D} {ds : DS} {M : MH} (h0 : I 0 ds M)
    (hs : ∀ (j : Nat) (d : D) (ds : DS) (M : MH), l[j]? = some d → I j ds M → GV K w g d ds M fun ds1 M1 => SW K w t ds1 M1 { ks with nx := I (j + 1), ct := I (j + 1), bk := ks.nx })
    (hd : ∀ ds M, I l.length ds M → ks.nx ds M) : FP K w g t ks l ds M :=
  fp_inv I (i := 0) h0 (fun j d ds M h1 h2 => by
    rw [Nat.zero_add] at h2
    have z := hs j d ds M h1 h2
    rw [Nat.zero_add]; exact z) fun ds M h => hd ds M (by rw [Nat.zero_add] at h; exact h)

/-! ### what is walked -/
theorem jok_list {H0 : Hp} {a : Addr} {vs : List V} {l : List D} (h : SqL K H0 a vs) (g : GxL K H0 l vs) : JOk K (Itl K a) H0 l := fun H1 H i e1 e2 => by
  have hs : SqL K H a vs := ex_l (e1.trans e2) h
  refine ⟨fun hn => ⟨vs, hs, ?_⟩, fun d hd => ?_⟩
  · rw [g.len]; exact List.getElem?_eq_none_iff.mp hn
  · obtain ⟨v, hv, gv⟩ := g.get hd
    refine ⟨⟨vs, v, hs, hv⟩, fun v' H' hy => ?_⟩
    obtain ⟨rfl, hy⟩ := hy
    have z := hy vs hs
    rw [hv] at z
    have z' : v = v' := by simpa using z
    subst z'
    exact ⟨Ex.refl _, H1, Ex.refl H1, e2, fun a o h => .inl h, Gx.mono e1 _ _ gv⟩
theorem jok_tup {H0 : Hp} {a : Addr} {vs : List V} {l : List D} (h : SqT K H0 a vs) (g : GxL K H0 l vs) : JOk K (Itt K a) H0 l := fun H1 H i e1 e2 => by
  have hs : SqT K H a vs := ex_t (e1.trans e2) h
  refine ⟨fun hn => ⟨vs, hs, ?_⟩, fun d hd => ?_⟩
  · rw [g.len]; exact List.getElem?_eq_none_iff.mp hn
  · obtain ⟨v, hv, gv⟩ := g.get hd
    refine ⟨⟨vs, v, hs, hv⟩, fun v' H' hy => ?_⟩
    obtain ⟨rfl, hy⟩ := hy
    have z := hy vs hs
    rw [hv] at z
    have z' : v = v' := by simpa using z
    subst z'
    exact ⟨Ex.refl _, H1, Ex.refl H1, e2, fun a o h => .inl h, Gx.mono e1 _ _ gv⟩
variable {kl : List D → MH → Prop}
theorem iv_list (h : EV K w te ds M fun d M1 => ∃ l, (d = .lst l ∨ d = .scr l) ∧ kl l M1) : IV K w (iList K te) ds M kl := fun H0 σ H F R s e f => by
  refine h H0 σ H F _ s e fun d M1 v H1 H2 q e1 s1 g => ?_
  obtain ⟨l, rfl | rfl, q⟩ := q
  · obtain ⟨a, vs, rfl, h1, gl⟩ := g
    exact ⟨a, rfl, ⟨vs, SqL.of (s1.ex _ _ h1)⟩, f l M1 _ H1 H2 q e1 s1 (jok_list (SqL.of h1) gl)⟩
  · obtain ⟨a, vs, rfl, h1, gl⟩ := g
    exact ⟨a, rfl, ⟨vs, ex_l s1.ex h1⟩, f l M1 _ H1 H2 q e1 s1 (jok_list h1 gl)⟩
theorem iv_tup (h : EV K w te ds M fun d M1 => ∃ l, d = .tup l ∧ kl l M1) : IV K w (iTup K te) ds M kl := fun H0 σ H F R s e f => by
  refine h H0 σ H F _ s e fun d M1 v H1 H2 q e1 s1 g => ?_
  obtain ⟨l, rfl, q⟩ := q
  obtain ⟨a, vs, rfl, h1, gl⟩ := g
  exact ⟨a, rfl, ⟨vs, SqT.of (s1.ex _ _ h1)⟩, f l M1 _ H1 H2 q e1 s1 (jok_tup (SqT.of h1) gl)⟩
/-- lo, lo + 1, .. (n of them) -/
def rgD (lo : Int) (n : Nat) : List D := (List.range n).map fun i => D.int (lo + (i : Nat))
theorem rgD_len (lo : Int) (n : Nat) : (rgD lo n).length = n := by unfold rgD; simp
theorem rgD_get {lo : Int} {n i : Nat} : (rgD lo n)[i]? = if i < n then some (.int (lo + (i : Nat))) else none := by
  unfold rgD
  rw [List.getElem?_map]
  by_cases h : i < n
  · rw [if_pos h, List.getElem?_range h]; rfl
  · rw [if_neg h, List.getElem?_eq_none (by simpa using h)]; rfl
theorem jok_range {H0 : Hp} {lo : Int} {n : Nat} : JOk K (Itr lo n) H0 (rgD lo n) := fun H1 H i e1 e2 => by
  refine ⟨fun hn => ?_, fun d hd => ?_⟩
  · have := List.getElem?_eq_none_iff.mp hn
    rw [rgD_len] at this
    exact this
  · rw [rgD_get] at hd
    split at hd
    · rename_i h
      have z : D.int (lo + (i : Nat)) = d := by simpa using hd
      subst z
      refine ⟨h, fun v H' hy => ?_⟩
      obtain ⟨rfl, rfl⟩ := hy
      exact ⟨Ex.refl _, H1, Ex.refl H1, e2, fun a o h => .inl h, rfl⟩
    · cases hd
theorem iv_range1 {t1 : TA} (h : AV K w t1 ds M fun l M1 => ∃ j : Int, l = [.int j] ∧ -(2 ^ 62) ≤ j ∧ j < 2 ^ 62 ∧ kl (rgD 0 j.toNat) M1) : IV K w (iRng1 t1) ds M kl := fun H0 σ H F R s e f => by
  refine h H0 σ H F _ s e fun l M1 vs H1 H2 q e1 s1 g => ?_
  obtain ⟨j, rfl, h1, h2, q⟩ := q
  obtain ⟨v, r, rfl, g1, g2⟩ := g
  have g1' : v = .int j := g1
  have g2' : r = [] := g2
  subst g1' g2'
  exact ⟨j, rfl, h1, h2, f _ M1 _ H1 H2 q e1 s1 jok_range⟩
theorem iv_range2 {t1 : TA} (h : AV K w t1 ds M fun l M1 => ∃ i j : Int, l = [.int i, .int j] ∧ (-(2 ^ 62) ≤ i ∧ i < 2 ^ 62 ∧ -(2 ^ 62) ≤ j ∧ j < 2 ^ 62) ∧ kl (rgD i (j - i).toNat) M1) : IV K w (iRng2 t1) ds M kl := fun H0 σ H F R s e f => by
  refine h H0 σ H F _ s e fun l M1 vs H1 H2 q e1 s1 g => ?_
  obtain ⟨i, j, rfl, h1, q⟩ := q
  obtain ⟨v, r, rfl, g1, u, r2, rfl, g2, g3⟩ := g
  have g1' : v = .int i := g1
  have g2' : u = .int j := g2
  have g3' : r2 = [] := g3
  subst g1' g2' g3'
  exact ⟨i, j, rfl, h1, f _ M1 _ H1 H2 q e1 s1 jok_range⟩
/-- with a step -/
def rgC (lo c : Int) (n : Nat) : List D := (List.range n).map fun i => D.int (lo + (i : Nat) * c)
theorem jok_rangeC {H0 : Hp} {lo c : Int} {n : Nat} : JOk K (Itc lo c n) H0 (rgC lo c n) := fun H1 H i e1 e2 => by
  have gt : (rgC lo c n)[i]? = if i < n then some (.int (lo + (i : Nat) * c)) else none := by
    unfold rgC
    rw [List.getElem?_map]
    by_cases h : i < n
    · rw [if_pos h, List.getElem?_range h]; rfl
    · rw [if_neg h, List.getElem?_eq_none (by simpa using h)]; rfl
  rw [gt]
  refine ⟨fun hn => ?_, fun d hd => ?_⟩
  · split at hn
    · cases hn
    · rename_i h
      exact Nat.le_of_not_lt h
  · split at hd
    · rename_i h
      have z : D.int (lo + (i : Nat) * c) = d := by simpa using hd
      subst z
      refine ⟨h, fun v H' hy => ?_⟩
      obtain ⟨rfl, rfl⟩ := hy
      exact ⟨Ex.refl _, H1, Ex.refl H1, e2, fun a o h => .inl h, rfl⟩
    · cases hd
theorem iv_range3 {t1 : TA} (h : AV K w t1 ds M fun l M1 => ∃ (i j c : Int) (n : Nat), l = [.int i, .int j, .int c] ∧ RgC i j c n ∧ kl (rgC i c n) M1) : IV K w (iRng3 t1) ds M kl := fun H0 σ H F R s e f => by
  refine h H0 σ H F _ s e fun l M1 vs H1 H2 q e1 s1 g => ?_
  obtain ⟨i, j, c, n, rfl, h1, q⟩ := q
  obtain ⟨v, r, rfl, g1, u, r2, rfl, g2, z, r3, rfl, g3, g4⟩ := g
  have g1' : v = .int i := g1
  have g2' : u = .int j := g2
  have g3' : z = .int c := g3
  have g4' : r3 = [] := g4
  subst g1' g2' g3' g4'
  exact ⟨i, j, c, n, rfl, h1, f _ M1 _ H1 H2 q e1 s1 jok_rangeC⟩
/-- a text's signs -/
def signs (x : Str) : List D := x.cps.toList.map fun c => D.str ⟨#[c]⟩
theorem jok_str {H0 : Hp} {x : Str} : JOk K (Its x) H0 (signs x) := fun H1 H i e1 e2 => by
  have gt : (signs x)[i]? = x.cps[i]?.map fun c => D.str ⟨#[c]⟩ := by
    unfold signs
    rw [List.getElem?_map, Array.getElem?_toList]
  rw [gt]
  refine ⟨fun hn => ?_, fun d hd => ?_⟩
  · have z := Option.map_eq_none_iff.mp hn
    exact Array.getElem?_eq_none_iff.mp z
  · obtain ⟨c, hc, rfl⟩ := Option.map_eq_some_iff.mp hd
    refine ⟨(Array.getElem?_eq_some_iff.mp hc).1, fun v H' hy => ?_⟩
    obtain ⟨rfl, c', hc', rfl⟩ := hy
    rw [hc] at hc'
    cases hc'
    exact ⟨Ex.refl _, H1, Ex.refl H1, e2, fun a o h => .inl h, rfl⟩
theorem iv_str (h : EV K w te ds M fun d M1 => ∃ x, d = .str x ∧ kl (signs x) M1) : IV K w (iStr te) ds M kl := fun H0 σ H F R s e f => by
  refine h H0 σ H F _ s e fun d M1 v H1 H2 q e1 s1 g => ?_
  obtain ⟨x, rfl, q⟩ := q
  exact ⟨x, g, f _ M1 _ H1 H2 q e1 s1 jok_str⟩
/-- (i, x) -/
def enumD (l : List D) : List D := l.mapIdx fun i d => D.tup [.int (i : Nat), d]
theorem jok_enumL {H0 : Hp} {a : Addr} {vs : List V} {l : List D} (h : SqL K H0 a vs) (g : GxL K H0 l vs) : JOk K (Ite K a) H0 (enumD l) := fun H1 H i e1 e2 => by
  have hs : SqL K H a vs := ex_l (e1.trans e2) h
  have gt : (enumD l)[i]? = l[i]?.map fun d => D.tup [.int (i : Nat), d] := by
    unfold enumD
    rw [List.getElem?_mapIdx]
  rw [gt]
  refine ⟨fun hn => ⟨vs, hs, ?_⟩, fun d hd => ?_⟩
  · rw [g.len]; exact List.getElem?_eq_none_iff.mp (Option.map_eq_none_iff.mp hn)
  · obtain ⟨x, hx, rfl⟩ := Option.map_eq_some_iff.mp hd
    obtain ⟨v, hv, gv⟩ := g.get hx
    refine ⟨⟨vs, v, hs, hv⟩, fun v' H' hy => ?_⟩
    obtain ⟨T, y, rfl, hT, rfl, hy⟩ := hy
    have z := hy vs hs
    rw [hv] at z
    have z' : v = y := by simpa using z
    subst z'
    have h1 : H1 T = none := fresh_back e2 hT
    refine ⟨Ex.new hT, upd H1 T (.tup [.int (i : Nat), v]), Ex.new h1, fun b o hb => ?_, fun b o hb => ?_, T, _, rfl, upd_same, _, _, rfl, rfl, _, _, rfl, ?_, rfl⟩
    · by_cases hbt : b = T
      · subst hbt; rw [upd_same] at hb ⊢; exact hb
      · rw [upd_ne hbt] at hb ⊢; exact e2 b o hb
    · by_cases hbt : b = T
      · subst hbt; exact .inr hT
      · rw [upd_ne hbt] at hb; exact .inl hb
    · exact Gx.mono (e1.trans (Ex.new h1)) _ _ gv
theorem iv_enumL {t1 : TA} (h : AV K w t1 ds M fun l M1 => ∃ m, l = [.lst m] ∧ kl (enumD m) M1) : IV K w (iEnum K t1) ds M kl := fun H0 σ H F R s e f => by
  refine h H0 σ H F _ s e fun l M1 vs H1 H2 q e1 s1 g => ?_
  obtain ⟨m, rfl, q⟩ := q
  obtain ⟨v, r, rfl, ⟨a, us, rfl, h1, gl⟩, g2⟩ := g
  have g2' : r = [] := g2
  subst g2'
  exact ⟨a, us, rfl, SqL.of (s1.ex _ _ h1), f _ M1 _ H1 H2 q e1 s1 (jok_enumL (SqL.of h1) gl)⟩

/-! ### calls of defs -/
/-- a def's promise by data: f tells, for arguments and a state, what comes of it -/
abbrev Spec := List D → MH → (D → MH → Prop) → Prop
def SpD (K : PySem.W.Frag) (w : World) (f : Spec) : Sp := fun vs H Q _ => ∃ (H0 : Hp) (l : List D) (M : MH) (F : Hp) (k : D → MH → Prop), S4 K w H0 M F H ∧ GxL K H0 l vs ∧ f l M k ∧
  ∀ d M' v H0' H', k d M' → Ex H0 H0' → S4 K w H0' M' F H' → Gx K H0' d v → Q v H'
theorem ev_call {f : Spec} {E : XK} {t1 : TA} (h : AV K w t1 ds M fun l M1 => f l M1 k) : EV K w (tCall (SpD K w f) [] E t1) ds M k := fun H0 σ H F Q s e q => by
  refine h H0 σ H F _ s e fun l M1 vs H1 H2 p e1 s1 g => ?_
  show SpD K w f (vs ++ []) H2 Q E
  rw [List.append_nil]
  exact ⟨H1, l, M1, F, k, s1, g, p, fun d M' v H0' H' p' e' s' g' => q d M' v H0' H' p' (e1.trans e') s' g'⟩
theorem zip_lookup {m : Str} : ∀ {ns : List Str} {l : List D} {vs : List V} {H : Hp} {d : D}, ns.length = l.length → GxL K H l vs → (ns.zip l).lookup m = some d → ∃ v, (ns.zip vs).lookup m = some v ∧ Gx K H d v
  | [], _, _, _, _, _, _, h => by simp at h
  | n :: ns, [], _, _, _, hl, _, _ => by simp at hl
  | n :: ns, x :: l, _, H, d, hl, ⟨v, r, e, g1, g2⟩, h => by
    subst e
    rw [List.zip_cons_cons, List.lookup_cons] at h ⊢
    cases hb : (m == n) with
    | true => rw [hb] at h; cases h; exact ⟨v, rfl, g1⟩
    | false => rw [hb] at h; exact zip_lookup (by simpa using hl) g2 h
theorem zip_lookup_none {β : Type} {m : Str} : ∀ {ns : List Str} {vs : List β}, m ∉ ns → (ns.zip vs).lookup m = none
  | [], _, _ => by simp
  | n :: ns, [], _ => by simp
  | n :: ns, x :: vs, h => by
    rw [List.zip_cons_cons, List.lookup_cons]
    have : (m == n) = false := beq_eq_false_iff_ne.mpr fun e => h (by rw [e]; exact List.mem_cons_self)
    rw [this]
    exact zip_lookup_none fun z => h (List.mem_cons_of_mem _ z)
theorem ev_meth {C : Addr} {m : Str} {f : Spec} {E : XK} {t1 : TA} (h : EV K w ta ds M fun x M1 => ∃ ns l, x = .ins C ns l ∧ m ∉ ns ∧ AV K w t1 ds M1 fun a M2 => f (x :: a) M2 k) : EV K w (tMeth C m (SpD K w f) [] E ta t1) ds M k := fun H0 σ H F Q s e q => by
  refine h H0 σ H F _ s e fun x M1 vx H1 H2 p e1 s1 g => ?_
  obtain ⟨ns, l, rfl, hm, p⟩ := p
  obtain ⟨a, dx, vs, rfl, ha, hl, gl⟩ := id g
  refine ⟨a, dx, _, rfl, s1.ex _ _ ha, zip_lookup_none hm, ?_⟩
  refine p H1 σ H2 F _ s1 (e.mono e1) fun l2 M2 vs2 H3 H4 p2 e2 s2 g2 => ?_
  show SpD K w f (.ref a :: (vs2 ++ [])) H4 Q E
  rw [List.append_nil]
  exact ⟨H3, .ins C ns l :: l2, M2, F, k, s2, ⟨_, _, rfl, Gx.mono e2 _ _ g, g2⟩, p2, fun d M' v H0' H' p' e' s' g' => q d M' v H0' H' p' ((e1.trans e2).trans e') s' g'⟩
theorem ev_fld {fn : Str} (h : EV K w ta ds M fun x M1 => ∃ C ns l d, x = .ins C ns l ∧ Cls K C ∧ NoAttr K C fn ∧ (ns.zip l).lookup fn = some d ∧ k d M1) : EV K w (tFld K ta fn) ds M k := fun H0 σ H F Q s e q => by
  refine h H0 σ H F _ s e fun x M1 vx H1 H2 p e1 s1 g => ?_
  obtain ⟨C, ns, l, d, rfl, c1, c2, hd, p⟩ := p
  obtain ⟨a, dx, vs, rfl, ha, hl, gl⟩ := g
  obtain ⟨v, hv, gv⟩ := zip_lookup hl gl hd
  exact ⟨a, C, dx, _, v, rfl, s1.ex _ _ ha, c1, c2, hv, q d M1 v H1 H2 p e1 s1 gv⟩
theorem ev_fldM {fn : Str} (h : EV K w ta ds M fun x M1 => ∃ p C ns l d, x = .adr p ∧ M1 p = some (.ins C ns l) ∧ Cls K C ∧ NoAttr K C fn ∧ (ns.zip l).lookup fn = some d ∧ k d M1) : EV K w (tFld K ta fn) ds M k := fun H0 σ H F Q s e q => by
  refine h H0 σ H F _ s e fun x M1 vx H1 H2 p e1 s1 g => ?_
  obtain ⟨a, C, ns, l, d, rfl, hm, c1, c2, hd, p⟩ := p
  obtain ⟨h1, ho, h2, dx, vs, rfl, hl, gl⟩ := s1.mu a _ hm
  obtain ⟨v, hv, gv⟩ := zip_lookup hl gl hd
  exact ⟨a, C, dx, _, v, g, h2, c1, c2, hv, q d M1 v H1 H2 p e1 s1 gv⟩
/-- a field stored -/
def putN (f : Str) : List Str → List Str
  | [] => [f]
  | n :: ns => if n = f then n :: ns else n :: putN f ns
def putL {β : Type} (f : Str) (d : β) : List Str → List β → List β
  | [], _ => [d]
  | n :: ns, [] => []
  | n :: ns, x :: l => if n = f then d :: l else x :: putL f d ns l
theorem putL_len {β : Type} (f : Str) (d : β) : ∀ (ns : List Str) (l : List β), ns.length = l.length → (putN f ns).length = (putL f d ns l).length
  | [], [], _ => rfl
  | [], _ :: _, h => by simp at h
  | n :: ns, [], h => by simp at h
  | n :: ns, x :: l, h => by
    unfold putN putL
    by_cases e : n = f
    · rw [if_pos e, if_pos e]; simpa using h
    · rw [if_neg e, if_neg e]
      have := putL_len f d ns l (by simpa using h)
      simpa using this
theorem putF_zip (f : Str) (v : V) : ∀ (ns : List Str) (vs : List V), ns.length = vs.length → putF f v (ns.zip vs) = (putN f ns).zip (putL f v ns vs)
  | [], [], _ => rfl
  | [], _ :: _, h => by simp at h
  | n :: ns, [], h => by simp at h
  | n :: ns, x :: vs, h => by
    rw [List.zip_cons_cons]
    unfold putF putN putL
    by_cases e : n = f
    · rw [if_pos e, if_pos e, if_pos e, List.zip_cons_cons]
    · rw [if_neg e, if_neg e, if_neg e, List.zip_cons_cons, putF_zip f v ns vs (by simpa using h)]
theorem putL_gx {H : Hp} {d : D} {v : V} (f : Str) (g : Gx K H d v) : ∀ {ns : List Str} {l : List D} {vs : List V}, ns.length = l.length → GxL K H l vs → GxL K H (putL f d ns l) (putL f v ns vs)
  | [], [], _, _, h => by
    have h' : _ = [] := h
    subst h'; exact GxL.one g
  | [], _ :: _, _, h, _ => by simp at h
  | n :: ns, [], _, h, _ => by simp at h
  | n :: ns, x :: l, _, h, ⟨u, r, e, g1, g2⟩ => by
    subst e
    unfold putL
    by_cases e : n = f
    · rw [if_pos e, if_pos e]; exact ⟨v, r, rfl, g, g2⟩
    · rw [if_neg e, if_neg e]; exact ⟨u, _, rfl, g1, putL_gx f g (by simpa using h) g2⟩
theorem sw_fld {fn : Str} (h : EV K w tv ds M fun d M1 => EV K w ta ds M1 fun x M2 => ∃ p C ns l, x = .adr p ∧ M2 p = some (.ins C ns l) ∧ Cls K C ∧ NoAttr K C fn ∧ ns.length < 1000 ∧ ks.nx ds (M2.set p (.ins C (putN fn ns) (putL fn d ns l)))) : SW K w (sFld K ta tv fn) ds M ks := fun H0 σ H F E s e q => by
  refine h H0 σ H F _ s e fun d M1 v H1 H2 p e1 s1 g => ?_
  refine p H1 σ H2 F _ s1 (e.mono e1) fun x M2 vx H3 H4 p2 e2 s2 g2 => ?_
  obtain ⟨a, C, ns, l, rfl, hm, c1, c2, hn, p2⟩ := p2
  obtain ⟨h1, ho, h2, dx, vs, rfl, hl, gl⟩ := s2.mu a _ hm
  have hlv : ns.length = vs.length := by rw [hl, gl.len]
  refine ⟨a, C, dx, _, g2, h2, c1, c2, by rw [List.length_zip]; omega, ?_⟩
  refine q.nx ds _ H3 σ _ p2 (e1.trans e2) (s2.wr hm ⟨dx, putL fn v ns vs, ?_, putL_len fn d ns l hl, putL_gx fn (Gx.mono e2 _ _ g) hl gl⟩) (e.mono (e1.trans e2))
  rw [putF_zip fn v ns vs hlv]
/-- C(..) -/
theorem ev_make {C : Addr} {f : Spec} {E : XK} {t1 : TA} (h : AV K w t1 ds M fun l M1 => ∀ x, M1 x = none → f (.adr x :: l) (M1.set x (.ins C [] [])) fun d M' => d = .non ∧ k (.adr x) M') : EV K w (tMake C (SpD K w f) [] E t1) ds M k := fun H0 σ H F Q s e q => by
  refine h H0 σ H F _ s e fun l M1 vs H1 H2 p e1 s1 g => ?_
  intro x dx hx hdx hne
  show SpD K w f (.ref x :: (vs ++ [])) _ _ E
  rw [List.append_nil]
  have h1 : H1 dx = none := fresh_back s1.ex hdx
  have s2 : S4 K w (upd H1 dx (.own x)) M1 F (upd H2 dx (.own x)) := s1.new hdx
  have hx2 : (upd H2 dx (.own x)) x = none := by rw [upd_ne hne.symm]; exact hx
  have s3 : S4 K w (upd H1 dx (.own x)) (M1.set x (.ins C [] [])) F (upd (upd H2 dx (.own x)) x (.ins C dx [])) := s2.newM hx2 ⟨dx, [], rfl, rfl, rfl⟩
  refine ⟨_, .adr x :: l, _, F, _, s3, ⟨_, _, rfl, rfl, GxL.mono (Ex.new h1) _ _ g⟩, p x (s1.noM hx), ?_⟩
  rintro d M' v H0' H' ⟨rfl, p'⟩ e' s' g'
  exact ⟨g', q _ M' _ H0' H' p' ((e1.trans (Ex.new h1)).trans e') s' rfl⟩

/-! ### methods of built-in types -/
def TyD (K : PySem.W.Frag) (w : World) (T : String) (x : D) (M : MH) : Prop := ∀ (H0 H F : Hp) (v : V), S4 K w H0 M F H → Gx K H0 x v → tyV K T v H
theorem ev_bm {T : String} {r : V → List V → Hp → VK → Prop} {t1 : TA} (h : EV K w ta ds M fun x M1 => TyD K w T x M1 ∧ AV K w t1 ds M1 fun l M2 => RM K w r x l M2 k) : EV K w (tBM K T r ta t1) ds M k := fun H0 σ H F Q s e q => by
  refine h H0 σ H F _ s e fun x M1 vx H1 H2 p e1 s1 g => ⟨p.1 H1 H2 F vx s1 g, ?_⟩
  refine p.2 H1 σ H2 F _ s1 (e.mono e1) fun l2 M2 vs2 H3 H4 p2 e2 s2 g2 => ?_
  exact p2 H3 vx vs2 H4 F Q s2 (Gx.mono e2 _ _ g) g2 fun d M' v H0' H' p' e' s' g' => q d M' v H0' H' p' ((e1.trans e2).trans e') s' g'
theorem ev_bm0 {T : String} {r : V → List V → Hp → VK → Prop} (h : EV K w ta ds M fun x M1 => TyD K w T x M1 ∧ RM K w r x [] M1 k) : EV K w (tBM0 K T r ta) ds M k := fun H0 σ H F Q s e q => by
  refine h H0 σ H F _ s e fun x M1 vx H1 H2 p e1 s1 g => ⟨p.1 H1 H2 F vx s1 g, ?_⟩
  exact p.2 H1 vx [] H2 F Q s1 g rfl fun d M' v H0' H' p' e' s' g' => q d M' v H0' H' p' (e1.trans e') s' g'
theorem tyd_lst {l : List D} : TyD K w "list" (.lst l) M := fun H0 H F v s g => by
  obtain ⟨a, vs, rfl, h1, gl⟩ := g
  exact .inl ⟨rfl, vs, SqL.of (s.ex _ _ h1)⟩
theorem tyd_adr {p : Addr} {l : List D} (hm : M p = some (.lst l)) : TyD K w "list" (.adr p) M := fun H0 H F v s g => by
  obtain ⟨h1, ho, h2, vs, rfl, gl⟩ := s.mu p _ hm
  have g' : v = .ref p := g
  subst g'
  exact .inl ⟨rfl, vs, SqL.of h2⟩
theorem tyd_str {x : Str} : TyD K w "str" (.str x) M := fun H0 H F v s g => by
  have g' : v = .str x := g
  subst g'
  exact rfl
theorem rm_append {p : Addr} {l : List D} {d : D} (hm : M p = some (.lst l)) (hl : l.length < sizeLine) (q : k .non (M.set p (.lst (l ++ [d])))) : RM K w rAppend (.adr p) [d] M k := fun H0 vx vs H F Q s gx gl f => by
  obtain ⟨h1, ho, h2, us, rfl, g⟩ := s.mu p _ hm
  obtain ⟨v, r, rfl, gv, gr⟩ := gl
  have gr' : r = [] := gr
  subst gr'
  exact ⟨p, us, v, gx, rfl, h2, by rw [g.len]; exact hl, f _ _ _ H0 _ q (Ex.refl H0) (s.wr hm ⟨_, rfl, g.snoc gv⟩) rfl⟩
theorem rm_pop {p : Addr} {l : List D} {d : D} (hm : M p = some (.lst l)) (hl : l[l.length - 1]? = some d) (q : k d (M.set p (.lst l.dropLast))) : RM K w rPop (.adr p) [] M k := fun H0 vx vs H F Q s gx gl f => by
  obtain ⟨h1, ho, h2, us, rfl, g⟩ := s.mu p _ hm
  have gl' : vs = [] := gl
  subst gl'
  obtain ⟨v, hv, gv⟩ := g.get hl
  refine ⟨p, us, v, gx, rfl, h2, by rw [g.len]; exact hv, f _ _ _ H0 _ q (Ex.refl H0) (s.wr hm ⟨_, rfl, ?_⟩) gv⟩
  rw [List.dropLast_eq_take, List.dropLast_eq_take, g.len]
  exact g.take _
theorem rm_popAt {p : Addr} {l : List D} {d : D} {i : Int} {j : Nat} (hm : M p = some (.lst l)) (hi : -(2 ^ 63) ≤ i ∧ i < 2 ^ 63) (hj : seqIndex? i l.length = some j) (hl : l[j]? = some d) (q : k d (M.set p (.lst (l.eraseIdx j)))) : RM K w rPopAt (.adr p) [.int i] M k := fun H0 vx vs H F Q s gx gl f => by
  obtain ⟨h1, ho, h2, us, rfl, g⟩ := s.mu p _ hm
  obtain ⟨v0, r, rfl, gv0, gr⟩ := gl
  have gv0' : v0 = .int i := gv0
  have gr' : r = [] := gr
  subst gr' gv0'
  obtain ⟨v, hv, gv⟩ := g.get hl
  exact ⟨p, us, i, j, v, gx, rfl, h2, hi.1, hi.2, by rw [g.len]; exact hj, hv, f _ _ _ H0 _ q (Ex.refl H0) (s.wr hm ⟨_, rfl, g.erase j⟩) gv⟩

/-! ### built-ins called -/
theorem ev_cb {r : List V → Hp → VK → Prop} {t1 : TA} (h : AV K w t1 ds M fun l M1 => RA K w r l M1 k) : EV K w (tCB r t1) ds M k := fun H0 σ H F Q s e q => by
  refine h H0 σ H F _ s e fun l M1 vs H1 H2 p e1 s1 g => ?_
  exact p H1 vs H2 F Q s1 g fun d M' v H0' H' p' e' s' g' => q d M' v H0' H' p' (e1.trans e') s' g'
theorem gxl1 {H : Hp} {d : D} {vs : List V} (g : GxL K H [d] vs) : ∃ v, vs = [v] ∧ Gx K H d v := by
  obtain ⟨v, r, rfl, gv, gr⟩ := g
  have gr' : r = [] := gr
  subst gr'
  exact ⟨v, rfl, gv⟩
def rLen (K : PySem.W.Frag) : List V → Hp → VK → Prop := fun xs H Q => ∃ x n, xs = [x] ∧ LenV K x H n ∧ Q (.int n) H
theorem cb_len {X : Cx} : CallR X (.builtin "len") (rLen X.K) := call_len
theorem ra_lenS {x : Str} (hl : x.length ≤ sizeLine) (q : k (.int (x.length : Nat)) M) : RA K w (rLen K) [.str x] M k := fun H0 vs H F Q s g f => by
  obtain ⟨v, rfl, gv⟩ := gxl1 g
  have gv' : v = .str x := gv
  subst gv'
  exact ⟨_, x.length, rfl, ⟨hl, rfl⟩, f _ M _ H0 H q (Ex.refl H0) s rfl⟩
theorem ra_lenL {l : List D} (q : k (.int (l.length : Nat)) M) : RA K w (rLen K) [.lst l] M k := fun H0 vs H F Q s g f => by
  obtain ⟨v, rfl, a, us, rfl, h1, gl⟩ := gxl1 g
  exact ⟨_, us.length, rfl, .inl ⟨us, SqL.of (s.ex _ _ h1), rfl⟩, by rw [gl.len]; exact f _ M _ H0 H q (Ex.refl H0) s rfl⟩
theorem ra_lenX {l : List D} (q : k (.int (l.length : Nat)) M) : RA K w (rLen K) [.scr l] M k := fun H0 vs H F Q s g f => by
  obtain ⟨v, rfl, a, us, rfl, h1, gl⟩ := gxl1 g
  exact ⟨_, us.length, rfl, .inl ⟨us, ex_l s.ex h1, rfl⟩, by rw [gl.len]; exact f _ M _ H0 H q (Ex.refl H0) s rfl⟩
theorem ra_lenT {l : List D} (q : k (.int (l.length : Nat)) M) : RA K w (rLen K) [.tup l] M k := fun H0 vs H F Q s g f => by
  obtain ⟨v, rfl, a, us, rfl, h1, gl⟩ := gxl1 g
  exact ⟨_, us.length, rfl, .inr ⟨us, SqT.of (s.ex _ _ h1), rfl⟩, by rw [gl.len]; exact f _ M _ H0 H q (Ex.refl H0) s rfl⟩
theorem ra_lenM {p : Addr} {l : List D} (hm : M p = some (.lst l)) (q : k (.int (l.length : Nat)) M) : RA K w (rLen K) [.adr p] M k := fun H0 vs H F Q s g f => by
  obtain ⟨v, rfl, gv⟩ := gxl1 g
  have gv' : v = .ref p := gv
  subst gv'
  obtain ⟨h1, ho, h2, us, rfl, gl⟩ := s.mu p _ hm
  exact ⟨_, us.length, rfl, .inl ⟨us, SqL.of h2, rfl⟩, by rw [gl.len]; exact f _ M _ H0 H q (Ex.refl H0) s rfl⟩
end
end PL

set_option Elab.async false
set_option linter.all false
set_option maxRecDepth 100000
set_option maxHeartbeats 4000000
/-! PLe: enumerate of a tuple (the hand layer has it of a list). -/
namespace PLE
open PySem
open Sem (wp)
open AutoSeq1 (wpAny_loadPart')

section
variable {prog : Program} {w : World} {A : Around} {E : Value → Shared → Prop} {s : Shared}
theorem nx_tup {it t : Addr} {i : Nat} {vs : Array Value} {x : Value} {Q : Value → Shared → Prop} (hit : s.heap.IsTupleIter it t i) (ht : s.heap.IsTuple t vs) (hx : vs[i]? = some x)
    (hQ : ∀ h', h'.IsTupleIter it t (i + 1) → Heap.SameBut it s.heap h' → Q x { s with heap := h' }) : wpAny (model prog w) A (Builtin.SmallTypes.nextOf (.ref it)) Q E s := by
  obtain ⟨o, ho, oc, od⟩ := id hit
  obtain ⟨u, hu, _, m, ud⟩ := ht
  unfold Builtin.SmallTypes.nextOf
  refine wpAny_bind (wpAny_callSpecial?_slot (name := Str.ofString "__next__") hit.typeIs F.slot_tuple_iterator_next
    (wpAny_call_entry F.slot_tuple_iterator_next hit.typeIs F.entry_tuple_iterator_next ?_ (F.args_tuple_iterator_next_1 _)))
  show wpAny _ _ (field (.ref it) 0 >>= _) _ _ s
  refine wpAny_bind (wpAny_field ho od (x := .ref t) rfl ?_)
  show wpAny _ _ (if (Value.ref t == Value.none) = true then _ else _) _ _ s
  rw [if_neg (by exact Bool.false_ne_true)]
  show wpAny _ _ (field (.ref it) 1 >>= _) _ _ s
  refine wpAny_bind (wpAny_field ho od (x := .int i 0) rfl ?_)
  show wpAny _ _ (seqItems? (.ref t) >>= _) _ _ s
  refine wpAny_bind (wpAny_seqItems hu ud ?_)
  simp only [Int.toNat_natCast, hx]
  refine wpAny_bind (wpAny_setField ho od (by simp) (wpAny_pure ⟨x, rfl, wpAny_pure (hQ _ ⟨_, Heap.get?_update_self _ ho (Obj.isFreed_of_fields (Obj.data_mapFields od _)), (Obj.cls_mapFields ..).trans oc, ?_⟩ (Heap.SameBut.update ..))⟩))
  rw [Obj.data_mapFields od]; simp [rawInt]
theorem nx_tup_end {it t : Addr} {i : Nat} {vs : Array Value} {Q : Value → Shared → Prop} (hh : A.handled = none) (hit : s.heap.IsTupleIter it t i) (ht : s.heap.IsTuple t vs) (hx : vs[i]? = none)
    (hE : ∀ h' e, Heap.ExtBut it s.heap h' → (∃ o, h'.get? e = some o ∧ o.cls = .type "StopIteration") → E (.ref e) { s with heap := h' }) : wpAny (model prog w) A (Builtin.SmallTypes.nextOf (.ref it)) Q E s := by
  obtain ⟨o, ho, oc, od⟩ := id hit
  obtain ⟨u, hu, _, m, ud⟩ := ht
  unfold Builtin.SmallTypes.nextOf
  refine wpAny_bind (wpAny_callSpecial?_slot (name := Str.ofString "__next__") hit.typeIs F.slot_tuple_iterator_next
    (wpAny_call_entry F.slot_tuple_iterator_next hit.typeIs F.entry_tuple_iterator_next ?_ (F.args_tuple_iterator_next_1 _)))
  show wpAny _ _ (field (.ref it) 0 >>= _) _ _ s
  refine wpAny_bind (wpAny_field ho od (x := .ref t) rfl ?_)
  show wpAny _ _ (if (Value.ref t == Value.none) = true then _ else _) _ _ s
  rw [if_neg (by exact Bool.false_ne_true)]
  show wpAny _ _ (field (.ref it) 1 >>= _) _ _ s
  refine wpAny_bind (wpAny_field ho od (x := .int i 0) rfl ?_)
  show wpAny _ _ (seqItems? (.ref t) >>= _) _ _ s
  refine wpAny_bind (wpAny_seqItems hu ud ?_)
  simp only [Int.toNat_natCast, hx]
  refine wpAny_bind (wpAny_rule (wpAny_bind (wpAny_setField ho od (by simp) ?_)))
  show wpAny _ _ (newExc (.type "StopIteration") [] >>= _) _ _ _
  simp only [newExc, newTuple]
  refine wpAny_bind (wpAny_bind (wpAny_newObj_type ?_ (by size_fits)))
  refine wpAny_bind (m := firstArgMember _ _) (wpAny_of_eq (a := Value.none) (by first | rfl | (simp only [firstArgMember]; rfl)) ?_)
  refine wpAny_newObj_type ?_ (by size_fits)
  simp only [raiseNew]
  refine wpAny_bind (wpAny_handled ?_)
  first | rw [show A.in1.handled = none from hh] | rw [hh]
  exact wpAny_bind (wpAny_pure (wpAny_throw (hE _ _ (((Heap.SameBut.update ..).extBut.push _).push _) ⟨_, Heap.get?_push_size _ rfl, rfl⟩)))
end
theorem draws_tup {prog : Program} {w : World} {A : Around} (hh : A.handled = none) (it l : Addr) (hne : l ≠ it) (vs : Array Value) :
    Draws prog w A it [it, l] vs.size (fun i v => vs[i]? = some v) (fun i h => h.IsTupleIter it l i ∧ h.IsTuple l vs) where
  live := fun _ _ st => let ⟨o, ho, _⟩ := st.1; ⟨o, ho⟩
  frame := fun _ _ _ st hk => ⟨let ⟨o, e, r⟩ := st.1; ⟨o, hk it (by simp) o e, r⟩, let ⟨o, e, r⟩ := st.2; ⟨o, hk l (by simp) o e, r⟩⟩
  item := fun i s Q E hi st hQ => nx_tup st.1 st.2 (x := vs[i]) (by simp [hi]) fun h' hit' hs' => hQ _ h' s.toks (by simp [hi]) ⟨hit', st.2.extBut hs'.extBut hne⟩ hs'
  done := fun s Q E st hE => nx_tup_end hh st.1 st.2 (by simp) hE

theorem meets_enumT (l : Addr) (vs : Array Value) (n : Nat) (dct : Option Addr) (sl : Array (Option Value)) :
    Meets (Builtin.«enumerate.__new__» ⟨[.type "enumerate", .ref l], []⟩) (fun _ R s => s.heap.get? l = some { cls := .type "tuple", dict := dct, data := .seq vs n, slots := sl } ∧
      R (.ok (.ret (.ref (s.heap.push { cls := .type "tuple_iterator", data := .fields #[.ref l, .int 0 0] }).objs.size)))
        { s with heap := (s.heap.push { cls := .type "tuple_iterator", data := .fields #[.ref l, .int 0 0] }).push { cls := .type "enumerate", data := .fields #[.none, .bool false, .ref s.heap.objs.size, rawInt 0, .none, .none] } }) :=
  .of_wp fun prog w A R s h => by
    obtain ⟨hp, g, d, tk, os⟩ := s; obtain ⟨hl, h⟩ := h
    have hsub := sub_enumerate
    have hT : Heap.IsTuple (Shared.heap ⟨hp, g, d, tk, os⟩) l vs := ⟨_, hl, rfl, n, rfl⟩
    wp_walk using wpAny_loadPart' hl
    refine wpAny_stack_any fun st => wpAny_pure ?_
    split
    · rename_i c _ _ _ _ _
      cases (c == Value.type "enumerate") <;> (wp_walk using wpAny_loadPart' hl, wpAny_pyIter_tuple hT; exact ⟨_, rfl, h⟩)
    · wp_walk using wpAny_loadPart' hl, wpAny_pyIter_tuple hT
      exact ⟨_, rfl, h⟩
theorem call_enumT {prog : Program} {w : World} {A : Around} {E : Value → Shared → Prop} {s : Shared} {l : Addr} {vs : Array Value} {Q : Value → Shared → Prop} (hL : s.heap.IsTuple l vs)
    (h : ∀ h', IsEnum h' (s.heap.objs.size + 1) s.heap.objs.size 0 .none → h'.IsTupleIter s.heap.objs.size l 0 → h'.objs.size = s.heap.objs.size + 2 →
      (∀ b o, s.heap.get? b = some o → h'.get? b = some o) → Q (.ref (s.heap.objs.size + 1)) { s with heap := h' }) :
    wpAny (model prog w) A (call (.type "enumerate") [.ref l]) Q E s := by
  obtain ⟨⟨c, dct, dt, sl⟩, hl, hc, n, hd⟩ := hL
  have hc' : c = .type "tuple" := hc
  have hd' : dt = .seq vs n := hd
  subst hc' hd'
  refine callType_new F.called_enumerate (by decide) (F.typeCall_enumerate_1 _) (F.newCall_enumerate_1 _) (fun obj => F.args_object_init_2 obj _) F.entry_enumerate_new (meets_enumT l vs n dct sl) ⟨hl, ?_⟩
  have hz : (s.heap.push { cls := .type "tuple_iterator", data := .fields #[.ref l, .int 0 0] }).objs.size = s.heap.objs.size + 1 := Heap.size_push ..
  show _ ∧ _
  rw [hz]
  have he : IsEnum ((s.heap.push { cls := .type "tuple_iterator", data := .fields #[.ref l, .int 0 0] }).push { cls := .type "enumerate", data := .fields #[.none, .bool false, .ref s.heap.objs.size, rawInt 0, .none, .none] }) (s.heap.objs.size + 1) s.heap.objs.size 0 .none := by
    have q := Heap.get?_push_size (s.heap.push { cls := .type "tuple_iterator", data := .fields #[.ref l, .int 0 0] }) (o := { cls := .type "enumerate", data := .fields #[.none, .bool false, .ref s.heap.objs.size, rawInt 0, .none, .none] }) rfl
    rw [hz] at q; exact q
  refine ⟨⟨_, he, rfl⟩, h _ he ⟨_, Heap.get?_push_of_some _ (Heap.get?_push_size _ rfl), rfl, rfl⟩ ?_ ?_⟩
  · rw [Heap.size_push, hz]
  · exact fun b o q => Heap.get?_push_of_some _ (Heap.get?_push_of_some _ q)
end PLE
namespace PL
open PySem PySem.Spec PyProof.Rows L2 Evl
/-- the tuple at a, its items with their numbers in new pairs -/
def IteT (K : PySem.W.Frag) (a : Addr) : It :=
  ⟨fun i H => ∃ (xs : List V) (x : V), SqT K H a xs ∧ xs[i]? = some x, fun i H v H' => ∃ T x, v = .ref T ∧ H T = none ∧ H' = upd H T (.tup [.int (i : Nat), x]) ∧ ∀ xs, SqT K H a xs → xs[i]? = some x, fun i H => ∃ xs : List V, SqT K H a xs ∧ xs.length ≤ i⟩
theorem turn_enumT {P : Program} {w : World} {K : PySem.W.Frag} {elts : List Expr} {kk : Nat} {tpos : Pos} (a e it : Addr) (hae : a ≠ it) (hae2 : e ≠ a) :
    Turn P w K (.Tuple elts kk tpos) (IteT K a) [e, it] e (fun i h => (∃ old, IsEnum h e it ((i : Nat) : Int) old) ∧ h.IsTupleIter it a i ∧ e ≠ it) where
  mem := by simp
  obj := fun i h st b hb => by
    obtain ⟨⟨old, he⟩, ⟨o, ho, hc, hd⟩, _⟩ := st
    have q : b = e ∨ b = it := by simpa using hb
    rcases q with rfl | rfl
    · exact ⟨_, he, fun v q => nomatch q⟩
    · exact ⟨o, ho, fun v q => by rw [hd] at q; cases q⟩
  keep := fun i h h' st k => by
    obtain ⟨⟨old, he⟩, ⟨o, ho, r⟩, hne⟩ := st
    exact ⟨⟨old, k e (by simp) _ he⟩, ⟨o, k it (by simp) _ ho, r⟩, hne⟩
  item := by
    intro X hP hw hK hc i pins s σ H E I hf st hg
    subst hP hw hK
    obtain ⟨⟨old, he⟩, hit, hne⟩ := st
    obtain ⟨xs, x, hq, hx⟩ := hg
    obtain ⟨its, rv, p, hz⟩ := I.tuple hq
    obtain ⟨u, hu, ru⟩ := rv.get hx
    have hel : e < s.heap.objs.size := Heap.lt_size he
    have hil : it < s.heap.objs.size := by obtain ⟨_, q, _⟩ := hit; exact Heap.lt_size q
    have hT0 : s.heap.IsTuple a its.toArray := p
    have hlt : i < its.toArray.size := by
      have := (List.getElem?_eq_some_iff.mp hu).1
      simpa using this
    refine wpAny_pyNext_enum_itemD (PLE.draws_tup (prog := X.prog) (w := X.w) (A := X.A.in1) (I.ok.hd hc) it a hae its.toArray) he ⟨hit, hT0⟩ hlt hne (by simp [hne, hae2]) fun y h' tk hy ho hst' hT hsz hk => ?_
    have ey : y = u := by
      have hu' : its.toArray[i]? = some u := by simpa using hu
      rw [hu'] at hy
      exact (Option.some.inj hy).symm
    subst ey
    refine ⟨_, rfl, wpAny_letOwnedTupleGo_enum (s := { s with heap := h', toks := tk + 1 }) ho fun h'' he' sb => ?_⟩
    have hT2 : h''.get? s.heap.objs.size = some { cls := .type "tuple", data := .seq #[.int i tk, y] } := (sb.2 _ (Nat.ne_of_gt hel)).trans hT
    have new : ObjOk X.prog X.w (upd H s.heap.objs.size (.tup [.int (i : Nat), x])) h'' s.heap.objs.size (.tup [.int (i : Nat), x]) :=
      ⟨by show 2 ≤ sizeLine; decide, [.int i tk, y], .cons ⟨_, rfl⟩ (.cons ru .nil), ⟨_, hT2, rfl, _, rfl⟩⟩
    have I1 : Inv X pins σ (upd H s.heap.objs.size (.tup [.int (i : Nat), x])) { s with heap := h'', toks := tk + 1 } :=
      I.turnedNew (ch := [e, it]) (fun b ob hb q => by
        have b1 : b ≠ e := fun z => hb (by simp [z])
        have b2 : b ≠ it := fun z => hb (by simp [z])
        exact (sb.2 b b1).trans (hk b ob b1 b2 q)) hf (Nat.le_refl _) new
    refine ⟨.ref s.heap.objs.size, _, I1, rfl, ⟨_, x, rfl, I.hok.fresh (Nat.le_refl _), rfl, fun ys hy => by rw [I.tuple_inj hy hq]; exact hx⟩, ⟨⟨y, ?_⟩, ?_, hne⟩, fun b hb => ?_⟩
    · have e1 : ((i + 1 : Nat) : Int) = (i : Int) + 1 := by omega
      rw [e1]; exact he'
    · obtain ⟨o, q, r⟩ := hst'.1
      exact ⟨o, (sb.2 it (Ne.symm hne)).trans q, r⟩
    · have hb' : b < s.heap.objs.size := by
        have q : b = e ∨ b = it := by simpa using hb
        rcases q with z | z <;> (rw [z]; assumption)
      rw [upd_ne (Nat.ne_of_lt hb')]
      exact (hf b hb).1
  done := by
    intro X hP hw hK hc i pins s σ H E I hf st hg
    subst hP hw hK
    obtain ⟨⟨old, he⟩, hit, hne⟩ := st
    obtain ⟨xs, hq, hx⟩ := hg
    obtain ⟨its, rv, p, hz⟩ := I.tuple hq
    obtain ⟨f0, f1, f2, f3, f4, f5⟩ := hf it (by simp)
    have hl := rv.length
    have hT0 : s.heap.IsTuple a its.toArray := p
    have D := PLE.draws_tup (prog := X.prog) (w := X.w) (A := X.A.in1) (I.ok.hd hc) it a hae its.toArray
    have hT : s.TypeIs (.ref e) "enumerate" := ⟨_, he, rfl⟩
    unfold pyNext
    refine wpAny_bind (wpAny_attempt (wpAny_callSpecial?_slot (name := Str.ofString "__next__") hT F.slot_enumerate_next (wpAny_call_entry F.slot_enumerate_next hT F.entry_enumerate_next ?_ (F.args_enumerate_next_1 _))))
    show wpAny _ _ (field (.ref e) 2 >>= _) _ _ _
    refine wpAny_bind (wpAny_field he rfl (x := .ref it) rfl ?_)
    refine wpAny_bind (PLE.nx_tup_end (I.ok.hd hc) hit hT0 (by simp; omega) fun h' x' eb hx' => ?_)
    obtain ⟨o, ho, hc'⟩ := hx'
    refine wpAny_bind (wpAny_isInstance (T := "StopIteration") (b := true) ⟨o, ho, hc'⟩ isSubtype_stop ?_)
    exact wpAny_pure ⟨rfl, I.turned (t' := s.toks) (fun b o hb q => eb b o hb q) f0 f1 f3 f4 f5⟩
  self := fun A i s Q E st h => let ⟨⟨_, he⟩, _⟩ := st; wpAny_pyIter_enum he h
/-- enumerate of a list or a tuple -/
def iEnumA (K : PySem.W.Frag) (ta : TA) : TI := fun σ H R => ta σ H fun vs H1 => ∃ a xs, vs = [.ref a] ∧ ((SqL K H1 a xs ∧ R (Ite K a) H1) ∨ (SqT K H1 a xs ∧ R (IteT K a) H1))
theorem pi_enumA {X : Cx} {e : Expr} {ta : TA} {p pos tpos : Pos} {elts : List Expr} {kk : Nat} (hg : Gl X "enumerate") (hm : X.mg "enumerate" = none) (ha : PA X [e] ta) (hs : starEach [e] X.env = [(false, eval e X.env)] := by rfl) :
    PI X (.Tuple elts kk tpos) (.Call (.Name "enumerate" p) [e] [] pos) (iEnumA X.K ta) := by
  refine ⟨fun pins s σ H R I h => ?_⟩
  refine Call_ (ld_blt I hg hm boot_enumerate (PyProof.Rows.callWith_type1 (thn (ha.run pos pins s σ H _ I h) fun us s1 ⟨vs, H1, I1, r1, q1⟩ => ?_) hs rfl))
  obtain ⟨a, xs, ex, q⟩ := q1
  subst ex
  cases r1 with
  | cons r rr =>
    cases rr
    cases r
    have fp : ∀ b ∈ [s1.heap.objs.size + 1, s1.heap.objs.size], s1.heap.objs.size ≤ b := fun b hb => by
      have z : b = s1.heap.objs.size + 1 ∨ b = s1.heap.objs.size := by simpa using hb
      omega
    rcases q with ⟨hq, q⟩ | ⟨hq, q⟩
    · obtain ⟨its, rv, p', hz⟩ := I1.list hq
      refine call_enumerate_list p'.isList fun h' he hit hsz hk => wpAny_pyIter_enum he ?_
      exact ⟨s1.heap.objs.size + 1, [s1.heap.objs.size + 1, s1.heap.objs.size], _, _, H1, rfl, I1.kept (t' := s1.toks) hk, turn_enum a (s1.heap.objs.size + 1) s1.heap.objs.size, ⟨⟨.none, he⟩, hit, Nat.succ_ne_self _⟩, fun b hb => I1.fpOk (fp b hb) (I1.hok.fresh (fp b hb)), q⟩
    · obtain ⟨its, rv, p', hz⟩ := I1.tuple hq
      have hT0 : s1.heap.IsTuple a its.toArray := p'
      have hal : a < s1.heap.objs.size := by obtain ⟨_, z, _⟩ := hT0; exact Heap.lt_size z
      refine PLE.call_enumT hT0 fun h' he hit hsz hk => wpAny_pyIter_enum he ?_
      exact ⟨s1.heap.objs.size + 1, [s1.heap.objs.size + 1, s1.heap.objs.size], _, _, H1, rfl, I1.kept (t' := s1.toks) hk, turn_enumT a (s1.heap.objs.size + 1) s1.heap.objs.size (Nat.ne_of_lt hal) (Nat.ne_of_gt (Nat.lt_succ_of_lt hal)), ⟨⟨.none, he⟩, hit, Nat.succ_ne_self _⟩, fun b hb => I1.fpOk (fp b hb) (I1.hok.fresh (fp b hb)), q⟩
section
variable {K : PySem.W.Frag} {w : World} {ds : DS} {M : MH} {kl : List D → MH → Prop}
theorem jok_enumT {H0 : Hp} {a : Addr} {vs : List V} {l : List D} (h : SqT K H0 a vs) (g : GxL K H0 l vs) : JOk K (IteT K a) H0 (enumD l) := fun H1 H i e1 e2 => by
  have hs : SqT K H a vs := ex_t (e1.trans e2) h
  have gt : (enumD l)[i]? = l[i]?.map fun d => D.tup [.int (i : Nat), d] := by
    unfold enumD
    rw [List.getElem?_mapIdx]
  rw [gt]
  refine ⟨fun hn => ⟨vs, hs, ?_⟩, fun d hd => ?_⟩
  · rw [g.len]; exact List.getElem?_eq_none_iff.mp (Option.map_eq_none_iff.mp hn)
  · obtain ⟨x, hx, rfl⟩ := Option.map_eq_some_iff.mp hd
    obtain ⟨v, hv, gv⟩ := g.get hx
    refine ⟨⟨vs, v, hs, hv⟩, fun v' H' hy => ?_⟩
    obtain ⟨T, y, rfl, hT, rfl, hy⟩ := hy
    have z := hy vs hs
    rw [hv] at z
    have z' : v = y := by simpa using z
    subst z'
    have h1 : H1 T = none := fresh_back e2 hT
    refine ⟨Ex.new hT, upd H1 T (.tup [.int (i : Nat), v]), Ex.new h1, fun b o hb => ?_, fun b o hb => ?_, T, _, rfl, upd_same, _, _, rfl, rfl, _, _, rfl, ?_, rfl⟩
    · by_cases hbt : b = T
      · subst hbt; rw [upd_same] at hb ⊢; exact hb
      · rw [upd_ne hbt] at hb ⊢; exact e2 b o hb
    · by_cases hbt : b = T
      · subst hbt; exact .inr hT
      · rw [upd_ne hbt] at hb; exact .inl hb
    · exact Gx.mono (e1.trans (Ex.new h1)) _ _ gv
theorem iv_enum {t1 : TA} (h : AV K w t1 ds M fun l M1 => ∃ m, (l = [.lst m] ∨ l = [.tup m]) ∧ kl (enumD m) M1) : IV K w (iEnumA K t1) ds M kl := fun H0 σ H F R s e f => by
  refine h H0 σ H F _ s e fun l M1 vs H1 H2 q e1 s1 g => ?_
  obtain ⟨m, rfl | rfl, q⟩ := q
  · obtain ⟨v, rfl, a, us, rfl, h1, gl⟩ := gxl1 g
    exact ⟨a, us, rfl, .inl ⟨SqL.of (s1.ex _ _ h1), f _ M1 _ H1 H2 q e1 s1 (jok_enumL (SqL.of h1) gl)⟩⟩
  · obtain ⟨v, rfl, a, us, rfl, h1, gl⟩ := gxl1 g
    exact ⟨a, us, rfl, .inr ⟨SqT.of (s1.ex _ _ h1), f _ M1 _ H1 H2 q e1 s1 (jok_enumT (SqT.of h1) gl)⟩⟩
end
end PL

set_option Elab.async false
set_option linter.all false
set_option maxRecDepth 100000
set_option maxHeartbeats 4000000
/-! PLf: dicts whose keys are tuples of any depth (DNo): made, displayed, read, asked, written. Dicts by int and text keys, by data. -/
namespace PL
open PySem PySem.Spec PyProof.Rows L2 Evl

mutual
theorem key_nested {X : Cx} {pins : List (Addr × Obj)} {σ : L2.St} {H : Hp} {s : Shared} (I : Inv X pins σ H s) : ∀ (k : NestedKey) (v : V) (u : Value), Gx X.K H (keyD k) v → RelV v u → NestedIs s.heap k u
  | .none, v, u, g, r => by
    have g' : v = .non := g
    subst g'
    cases r
    exact .none
  | .num i, v, u, g, r => by
    have g' : v = .int i := g
    subst g'
    obtain ⟨t, rfl⟩ := r
    exact .int i t
  | .text x, v, u, g, r => by
    have g' : v = .str x := g
    subst g'
    obtain ⟨t, rfl⟩ := r
    exact .text x t
  | .tup ks, v, u, g, r => by
    obtain ⟨a, vs, rfl, h1, g⟩ := g
    cases r
    obtain ⟨_, its, rv, o, e1, e2, n, e3⟩ := I.hok a _ h1
    exact .tup e1 e2 e3 (by simpa using keys_nested I ks vs its g rv)
theorem keys_nested {X : Cx} {pins : List (Addr × Obj)} {σ : L2.St} {H : Hp} {s : Shared} (I : Inv X pins σ H s) : ∀ (ks : List NestedKey) (vs : List V) (us : List Value), GxL X.K H (keyDs ks) vs → Vals vs us → NestedAll s.heap ks us
  | [], vs, us, g, r => by
    have g' : vs = [] := g
    subst g'
    cases r
    exact .nil
  | k :: ks, vs, us, g, r => by
    obtain ⟨v, rest, rfl, g1, g2⟩ := g
    cases r with
    | cons r1 r2 => exact .cons (key_nested I k _ _ g1 r1) (keys_nested I ks _ _ g2 r2)
end

abbrev NKV := List (NestedKey × Addr × V)
def valN (kvs : NKV) (k : NestedKey) : Option V := (kvs.find? fun x => decide (x.1 = k)).map (·.2.2)
def putNK (kvs : NKV) (k : NestedKey) (a : Addr) (v : V) : NKV := if (valN kvs k).isSome then kvs.map (fun x => if x.1 = k then (x.1, x.2.1, v) else x) else kvs ++ [(k, a, v)]
/-- the keys stand where they are told -/
def KsOk (K : PySem.W.Frag) (H : Hp) (kvs : NKV) : Prop := ∀ x ∈ kvs, Gx K H (keyD x.1) (.ref x.2.1) ∧ x.1.depth ≤ 8
abbrev PR := Paired (fun (p : NestedKey × Addr × V) (q : NestedKey × Addr × Value) => p.1 = q.1 ∧ p.2.1 = q.2.1 ∧ RelV p.2.2 q.2.2)
theorem PR_mem : ∀ {kvs : NKV} {xs : List (NestedKey × Addr × Value)}, PR kvs xs → ∀ x ∈ xs, ∃ y ∈ kvs, y.1 = x.1 ∧ y.2.1 = x.2.1 ∧ RelV y.2.2 x.2.2
  | _, _, .nil, _, h => nomatch h
  | _, _, .cons h t, x, hx => by
    rcases List.mem_cons.mp hx with e | hx
    · subst e; exact ⟨_, List.mem_cons_self, h⟩
    · obtain ⟨y, hy, r⟩ := PR_mem t x hx
      exact ⟨y, List.mem_cons_of_mem _ hy, r⟩
theorem PR_val {k : NestedKey} : ∀ {kvs : NKV} {xs : List (NestedKey × Addr × Value)}, PR kvs xs → (∀ v, valN kvs k = some v → ∃ p, atKey xs k = some p ∧ RelV v p.2) ∧ (valN kvs k = none → atKey xs k = none)
  | _, _, .nil => ⟨fun v h => (by cases h), fun _ => rfl⟩
  | _, _, @Paired.cons _ _ _ p q ps qs h t => by
    obtain ⟨ih1, ih2⟩ := PR_val (k := k) t
    unfold valN atKey at *
    rw [List.find?_cons, List.find?_cons]
    by_cases e : p.1 = k
    · have e' : q.1 = k := h.1 ▸ e
      rw [decide_eq_true e, decide_eq_true e']
      refine ⟨fun v hv => ?_, fun hn => (by cases hn)⟩
      cases hv
      exact ⟨_, rfl, h.2.2⟩
    · have e' : ¬ q.1 = k := fun z => e (h.1.trans z)
      rw [decide_eq_false e, decide_eq_false e']
      exact ⟨ih1, ih2⟩
theorem PR_some {k : NestedKey} {kvs : NKV} {xs : List (NestedKey × Addr × Value)} (h : PR kvs xs) : (atKey xs k).isSome = (valN kvs k).isSome := by
  obtain ⟨h1, h2⟩ := PR_val (k := k) h
  cases e : valN kvs k with
  | none => rw [h2 e]; rfl
  | some v =>
    obtain ⟨p, hp, _⟩ := h1 v e
    rw [hp]; rfl
theorem PR_map {k : NestedKey} {v : V} {u : Value} (r : RelV v u) : ∀ {kvs : NKV} {xs : List (NestedKey × Addr × Value)}, PR kvs xs → PR (kvs.map fun x => if x.1 = k then (x.1, x.2.1, v) else x) (xs.map (putAt k u))
  | _, _, .nil => .nil
  | _, _, @Paired.cons _ _ _ p q ps qs h t => by
    rw [List.map_cons, List.map_cons]
    refine .cons ?_ (PR_map r t)
    unfold putAt
    by_cases e : p.1 = k
    · have e' : q.1 = k := h.1 ▸ e
      rw [if_pos e, if_pos e']
      exact ⟨h.1, h.2.1, r⟩
    · have e' : ¬ q.1 = k := fun z => e (h.1.trans z)
      rw [if_neg e, if_neg e']
      exact h
theorem PR_snoc {p : NestedKey × Addr × V} {q : NestedKey × Addr × Value} (h : p.1 = q.1 ∧ p.2.1 = q.2.1 ∧ RelV p.2.2 q.2.2) : ∀ {kvs : NKV} {xs : List (NestedKey × Addr × Value)}, PR kvs xs → PR (kvs ++ [p]) (xs ++ [q])
  | _, _, .nil => .cons h .nil
  | _, _, .cons g t => .cons g (PR_snoc h t)
theorem PR_put {k : NestedKey} {a : Addr} {v : V} {u : Value} (r : RelV v u) {kvs : NKV} {xs : List (NestedKey × Addr × Value)} (h : PR kvs xs) : PR (putNK kvs k a v) (storedH xs k a u) := by
  unfold putNK storedH
  rw [PR_some h]
  split
  · exact PR_map r h
  · exact PR_snoc ⟨rfl, rfl, r⟩ h
theorem putNK_len (kvs : NKV) (k : NestedKey) (a : Addr) (v : V) : (putNK kvs k a v).length ≤ kvs.length + 1 := by
  unfold putNK
  split
  · rw [List.length_map]; omega
  · rw [List.length_append]; exact Nat.le_refl _

section
variable {X : Cx} {pins : List (Addr × Obj)} {σ : L2.St} {H : Hp} {s : Shared} {d : Addr} {kvs : NKV}
theorem dn_of (I : Inv X pins σ H s) (h : H d = some (DNo X.w d kvs)) (ok : KsOk X.K H kvs) : (d == sysModules) = false ∧ ∃ xs, PR kvs xs ∧ s.heap.DictOfH (nestedKind X.prog X.w) d xs := by
  obtain ⟨⟨hd, xs, pr, o, es, ep, h1, h2, h3, h4, h5⟩, _, _⟩ := I.hok d _ h
  refine ⟨hd, xs, pr, o, es, ep, h1, h2, h3, h4, fun x hx => ?_, h5⟩
  obtain ⟨y, hy, e1, e2, _⟩ := PR_mem pr x hx
  obtain ⟨g, dp⟩ := ok y hy
  rw [e1, e2] at g
  rw [e1] at dp
  exact ⟨key_nested I _ _ _ g rfl, dp⟩
theorem raw_loc {w : World} {d : Addr} {kvs : NKV} (h1 h2 : Heap) (r : RawN w h1 d kvs) (k : ∀ o, h1.get? d = some o → h2.get? d = some o) : RawN w h2 d kvs := by
  obtain ⟨hd, xs, pr, o, es, ep, a1, r⟩ := r
  exact ⟨hd, xs, pr, o, es, ep, k o a1, r⟩
theorem dn_ok {P : Program} {w : World} {H' : Hp} {h' : Heap} {kvs : NKV} {xs : List (NestedKey × Addr × Value)} (hd : (d == sysModules) = false) (pr : PR kvs xs) (m : h'.DictOfH (nestedKind P w) d xs) : ObjOk P w H' h' d (DNo w d kvs) := by
  obtain ⟨o, es, ep, h1, h2, h3, h4, _, h5⟩ := m
  exact ⟨⟨hd, xs, pr, o, es, ep, h1, h2, h3, h4, h5⟩, ⟨o, h1⟩, raw_loc⟩
theorem dn_type (I : Inv X pins σ H s) (h : H d = some (DNo X.w d kvs)) : s.TypeIs (.ref d) "dict" := by
  obtain ⟨⟨_, xs, pr, o, es, ep, h1, h2, _⟩, _, _⟩ := I.hok d _ h
  exact ⟨o, h1, h2.1⟩

/-- d[k] -/
def tNGet (K : PySem.W.Frag) (w : World) (td ty : TE) : TE := fun σ H Q => td σ H fun x H1 => ty σ H1 fun y H2 => ∃ a kvs k v, x = .ref a ∧ H2 a = some (DNo w a kvs) ∧ KsOk K H2 kvs ∧ Gx K H2 (keyD (.tup k)) y ∧ (NestedKey.tup k).depth ≤ 8 ∧ valN kvs (.tup k) = some v ∧ Q v H2
theorem pe_nget {o i : Expr} {td ty : TE} {pos : Pos} (hu : X.A.units + 16 < cLine) (ho : PE X o td) (hi : PE X i ty) (hs : NoSl i) : PE X (.Subscript o i pos) (tNGet X.K X.w td ty) := by
  refine ⟨fun pins s σ H Q I h => ?_⟩
  refine subD_of PySem.F.slot_dict_getitem.lookup hs (thn (ho.run pins s σ H _ I h) fun u s1 ⟨x, H1, I1, rx, q1⟩ => thn (hi.run pins s1 σ H1 _ I1 q1) fun iv s2 ⟨y, H2, I2, ry, a, kvs, k, v, ex, hd, ok, gk, dk, hv, q2⟩ => ?_)
  subst ex
  obtain rfl : u = Value.ref a := rx
  obtain ⟨b, vs, ey, _⟩ := id gk
  subst ey
  obtain rfl : iv = Value.ref b := ry
  obtain ⟨hm, xs, pr, dd⟩ := dn_of I2 hd ok
  obtain ⟨p, hp, rp⟩ := (PR_val pr).1 v hv
  refine ⟨dn_type I2 hd, wpAny_getItem_heap (knd := nestedKind X.prog X.w) (by show X.A.units + 1 + 8 < cLine; omega) ⟨key_nested I2 _ _ _ gk rfl, dk⟩ dd hp ?_⟩
  exact ⟨v, H2, I2.tok _, rp, q2⟩
/-- k in d, k not in d -/
def rNIn (K : PySem.W.Frag) (w : World) (neg : Bool) : R2 := fun y x H Q => ∃ a kvs k, x = .ref a ∧ H a = some (DNo w a kvs) ∧ KsOk K H kvs ∧ Gx K H (keyD (.tup k)) y ∧ (NestedKey.tup k).depth ≤ 8 ∧ Q (.bl (if neg then !(valN kvs (.tup k)).isSome else (valN kvs (.tup k)).isSome)) H
theorem op_nin (hu : X.A.units + 16 < cLine) : OpR X (compareOp .In) (rNIn X.K X.w false) := by
  intro pins s σ H y x u v Q I ry rx h
  obtain ⟨a, kvs, k, ex, hd, ok, gk, dk, q⟩ := h
  subst ex
  obtain rfl : v = Value.ref a := rx
  obtain ⟨b, vs, ey, _⟩ := id gk
  subst ey
  obtain rfl : u = Value.ref b := ry
  obtain ⟨hm, xs, pr, dd⟩ := dn_of I hd ok
  refine wpAny_in_heap (knd := nestedKind X.prog X.w) (by show X.A.units + 1 + 8 < cLine; omega) ⟨key_nested I _ _ _ gk rfl, dk⟩ hm dd ?_
  rw [PR_some pr]
  exact ⟨.bl _, H, I.tok _, rfl, q⟩
theorem op_nnotin (hu : X.A.units + 16 < cLine) : OpR X (compareOp .NotIn) (rNIn X.K X.w true) := by
  intro pins s σ H y x u v Q I ry rx h
  obtain ⟨a, kvs, k, ex, hd, ok, gk, dk, q⟩ := h
  subst ex
  obtain rfl : v = Value.ref a := rx
  obtain ⟨b, vs, ey, _⟩ := id gk
  subst ey
  obtain rfl : u = Value.ref b := ry
  obtain ⟨hm, xs, pr, dd⟩ := dn_of I hd ok
  refine wpAny_notIn_heap (knd := nestedKind X.prog X.w) (by show X.A.units + 1 + 8 < cLine; omega) ⟨key_nested I _ _ _ gk rfl, dk⟩ hm dd ?_
  rw [PR_some pr]
  exact ⟨.bl _, H, I.tok _, rfl, q⟩
/-- d[k] = v -/
def rSetN (K : PySem.W.Frag) (w : World) : TSet := fun o i v H Q => ∃ a kvs k b, o = .ref a ∧ H a = some (DNo w a kvs) ∧ KsOk K H kvs ∧ i = .ref b ∧ Gx K H (keyD (.tup k)) (.ref b) ∧ (NestedKey.tup k).depth ≤ 8 ∧ kvs.length ≤ sizeLine ∧ Q (upd H a (DNo w a (putNK kvs (.tup k) b v)))
theorem set_nd (hu : X.A.units + 16 < cLine) : PSet X (rSetN X.K X.w) := by
  intro pins s σ H o i v ov iv u Q I ro ri rv h
  obtain ⟨a, kvs, k, b, eo, hd, ok, ei, gk, dk, hl, q⟩ := h
  subst eo ei
  obtain rfl : ov = Value.ref a := ro
  obtain rfl : iv = Value.ref b := ri
  obtain ⟨hm, xs, pr, dd⟩ := dn_of I hd ok
  have hz : xs.length ≤ sizeLine := by rw [← Paired.length pr]; exact hl
  refine wpAny_setItem_heap (hsz := hz) (knd := nestedKind X.prog X.w) (by show X.A.units + 1 + 8 < cLine; omega) ⟨key_nested I _ _ _ gk rfl, dk⟩ dd fun h' dd' hs => ?_
  have he : ∃ q, h'.get? a = some q := let ⟨q, _, _, hq, _⟩ := dd'; ⟨q, hq⟩
  exact ⟨_, d_write I (by rw [hd]; exact True.intro) hs he (dn_ok hm (PR_put rv pr) dd'), q⟩
/-- {} -/
theorem dn_new {P : Program} {w : World} {H' : Hp} (h : Heap) (hb : sysModules < h.objs.size) : ObjOk P w H' (h.push { cls := .type "dict", data := .dict #[] }) h.objs.size (DNo w h.objs.size []) :=
  dn_ok (beq_eq_false_iff_ne.mpr (Ne.symm (Nat.ne_of_lt hb))) .nil (Heap.DictOfH.new (knd := nestedKind P w) h)
def tNNew (w : World) : TE := fun _ H Q => ∀ p, H p = none → Q (.ref p) (upd H p (DNo w p []))
theorem pe_nnew {pos : Pos} : PE X (.Dict [] [] pos) (tNNew X.w) := ⟨fun pins s σ H Q I h =>
  wpAny_Dict_empty ⟨.ref s.heap.objs.size, _, I.laid (a := s.heap.objs.size) (o := DNo X.w s.heap.objs.size []) (t' := s.toks) (fun _ _ q => Heap.get?_push_of_some _ q) (Nat.le_refl _) (dn_new s.heap I.big), rfl, h _ (I.hok.fresh (Nat.le_refl _))⟩⟩
/-- {k: v, ..} with keys that are tuples -/
def mergeN (kvs : NKV) : List (NestedKey × Addr × V) → NKV
  | [] => kvs
  | x :: r => mergeN (putNK kvs x.1 x.2.1 x.2.2) r
theorem mergeN_len : ∀ (l kvs : NKV), (mergeN kvs l).length ≤ kvs.length + l.length
  | [], kvs => by show kvs.length ≤ kvs.length + 0; omega
  | x :: r, kvs => by
    have h1 := mergeN_len r (putNK kvs x.1 x.2.1 x.2.2)
    have h2 := putNK_len kvs x.1 x.2.1 x.2.2
    show (mergeN (putNK kvs x.1 x.2.1 x.2.2) r).length ≤ _
    rw [List.length_cons]; omega
def tNDisp (K : PySem.W.Frag) (w : World) (trs : List (TE × TE)) : TE := fun σ H Q => ∀ p, H p = none → tPairs trs σ (upd H p (DNo w p [])) fun ps H2 => H2 p = some (DNo w p []) ∧
  ∃ kvs : NKV, ps = kvs.map (fun x => (V.ref x.2.1, x.2.2)) ∧ KsOk K H2 kvs ∧ kvs.length ≤ 15 ∧ Q (.ref p) (upd H2 p (DNo w p (mergeN [] kvs)))
theorem store_n {P : Program} {w : World} {A : Around} {E : Value → Shared → Prop} (hu : A.units + 16 < cLine) {d : Addr} : ∀ (ws : List (Value × Value)) (kvs : NKV) (acc : NKV) (xs : List (NestedKey × Addr × Value)) (s : Shared) (Q : PUnit → Shared → Prop),
    VV (kvs.map fun x => (V.ref x.2.1, x.2.2)) ws → PR acc xs → s.heap.DictOfH (nestedKind P w) d xs → (∀ x ∈ kvs, NestedIs s.heap x.1 (.ref x.2.1) ∧ x.1.depth ≤ 8) → acc.length + kvs.length ≤ sizeLine →
    (∀ h' tk ys, PR (mergeN acc kvs) ys → h'.DictOfH (nestedKind P w) d ys → Heap.SameBut d s.heap h' → Q PUnit.unit { s with heap := h', toks := tk }) → wpAny (model P w) A (storeAll d ws) Q E s := by
  intro ws
  induction ws with
  | nil =>
    intro kvs acc xs s Q r pr dd hk hl hq
    cases kvs with
    | nil =>
      unfold storeAll
      rw [List.forIn_nil]
      exact wpAny_pure (hq s.heap s.toks xs pr dd ⟨rfl, fun _ _ => rfl⟩)
    | cons x r' => rw [List.map_cons] at r; cases r
  | cons y ws ih =>
    intro kvs acc xs s Q r pr dd hk hl hq
    cases kvs with
    | nil => rw [List.map_nil] at r; cases r
    | cons x kvs =>
      rw [List.map_cons] at r
      cases r with
      | cons h t =>
        rw [List.length_cons] at hl
        obtain ⟨y1, y2⟩ := y
        obtain rfl : y1 = Value.ref x.2.1 := h.1
        unfold storeAll
        rw [List.forIn_cons]
        have hx := hk x List.mem_cons_self
        obtain ⟨o0, es0, ep0, ho0, hc0, hd0, _⟩ := id dd
        refine wpAny_bind (wpAny_bind (wpAny_dictSet_heap (hsz := by rw [← Paired.length pr]; omega) (knd := nestedKind P w) (by show A.units + 8 < cLine; omega) hx dd fun h' dd' hs => wpAny_pure ?_))
        have hl' : (putNK acc x.1 x.2.1 x.2.2).length + kvs.length ≤ sizeLine := by
          have := putNK_len acc x.1 x.2.1 x.2.2
          omega
        refine ih kvs (putNK acc x.1 x.2.1 x.2.2) _ _ Q t (PR_put h.2 pr) dd' (fun z hz => ?_) hl' fun h'' tk ys p1 p2 p3 => hq h'' tk ys p1 p2 ⟨p3.1.trans hs.1, fun b hb => (p3.2 b hb).trans (hs.2 b hb)⟩
        obtain ⟨n1, n2⟩ := hk z (List.mem_cons_of_mem _ hz)
        refine ⟨NestedIs.at (fun b ob vs n hb hc => ?_) _ _ n1, n2⟩
        refine (hs.2 b fun e => ?_).trans hb
        subst e
        rw [ho0] at hb
        cases hb
        rw [hd0] at hc
        cases hc
theorem pe_ndisp {pos : Pos} {keys : List (Option Expr)} {values : List Expr} {trs : List (TE × TE)} (hu : X.A.units + 16 < cLine) (h : PPs X pos keys values trs) (hall : keys.all (·.isSome) = true) (hl : keys.length = values.length) (h0 : keys ≠ [])
    (h15 : keys.length ≤ 15) : PE X (.Dict keys values pos) (tNDisp X.K X.w trs) := by
  refine ⟨fun pins s σ H Q I q => ?_⟩
  have hn := I.hok.fresh (Nat.le_refl s.heap.objs.size)
  have I1 := I.laid (a := s.heap.objs.size) (o := DNo X.w s.heap.objs.size []) (h' := s.heap.push { cls := .type "dict", data := .dict #[] }) (t' := s.toks) (fun _ _ q => Heap.get?_push_of_some _ q) (Nat.le_refl _) (dn_new s.heap I.big)
  refine wpAny_Dict_any hall hl h0 h15 (thn (h.run pins _ σ _ _ I1 (q _ hn)) fun ws s2 ⟨ps, H2, I2, rel, e, kvs, ep, ok, lk, q2⟩ => ?_)
  subst ep
  obtain ⟨hm, xs, pr, dd⟩ := dn_of I2 e (fun x hx => nomatch hx)
  refine store_n (P := X.prog) hu ws kvs [] xs s2 _ rel pr dd (fun x hx => ⟨key_nested I2 _ _ _ (ok x hx).1 rfl, (ok x hx).2⟩) (by rw [List.length_nil, sizeLine_eq]; omega) fun h' tk ys p1 p2 p3 => ?_
  have he : ∃ q, h'.get? s.heap.objs.size = some q := let ⟨q, _, _, hq, _⟩ := p2; ⟨q, hq⟩
  exact ⟨.ref s.heap.objs.size, _, d_write I2 (by rw [e]; exact True.intro) p3 he (dn_ok hm p1 p2), rfl, q2⟩
/-- len(d) -/
theorem call_lenN : CallR X (.builtin "len") (fun xs H Q => ∃ a kvs, xs = [.ref a] ∧ H a = some (DNo X.w a kvs) ∧ KsOk X.K H kvs ∧ kvs.length ≤ sizeLine ∧ Q (.int (kvs.length : Nat)) H) := by
  intro pins s σ H xs us Q I r h
  obtain ⟨a, kvs, rfl, hd, ok, hz, q⟩ := h
  obtain rfl := Vals.ref1 r
  obtain ⟨hm, ys, pr, dd⟩ := dn_of I hd ok
  have hl : kvs.length = ys.length := Paired.length pr
  refine call_len_dictH hm dd ?_ ?_
  · have := (show ys.length ≤ sizeLine by rw [← hl]; exact hz)
    rw [sizeLine_eq] at this; omega
  · rw [← hl]
    exact ⟨.int _, H, I.tok _, ⟨_, rfl⟩, q⟩
end
end PL

set_option Elab.async false
set_option linter.all false
set_option maxRecDepth 100000
set_option maxHeartbeats 4000000
/-! PLg: dicts by data. -/
namespace PL
open PySem PySem.Spec PyProof.Rows L2 Evl

section
variable {κ : Type} [DecidableEq κ]
def valM (kvs : List (κ × D)) (k : κ) : Option D := (kvs.find? fun x => decide (x.1 = k)).map (·.2)
def putM (kvs : List (κ × D)) (k : κ) (d : D) : List (κ × D) := if (valM kvs k).isSome then kvs.map (fun x => if x.1 = k then (x.1, d) else x) else kvs ++ [(k, d)]
theorem valM_nil (k : κ) : valM ([] : List (κ × D)) k = none := rfl
theorem valM_cons (x : κ × D) (r : List (κ × D)) (k : κ) : valM (x :: r) k = if x.1 = k then some x.2 else valM r k := by
  unfold valM
  rw [List.find?_cons]
  by_cases e : x.1 = k
  · rw [decide_eq_true e, if_pos e]; rfl
  · rw [decide_eq_false e, if_neg e]
theorem valM_map (kvs : List (κ × D)) (k j : κ) (d : D) : valM (kvs.map fun x => if x.1 = k then (x.1, d) else x) j = if j = k then (valM kvs k).map (fun _ => d) else valM kvs j := by
  induction kvs with
  | nil => rw [List.map_nil, valM_nil]; split <;> rfl
  | cons x r ih =>
    rw [List.map_cons, valM_cons, ih]
    by_cases e : x.1 = k
    · rw [if_pos e]
      by_cases h : j = k
      · subst h; rw [if_pos e, if_pos rfl, valM_cons, if_pos e]; rfl
      · rw [if_neg h, if_neg h, valM_cons]
        have hx : ¬ x.1 = j := fun z => h (z.symm.trans e)
        rw [if_neg hx, if_neg hx]
    · rw [if_neg e, valM_cons x r j]
      by_cases h : j = k
      · subst h; rw [if_pos rfl, if_pos rfl, valM_cons, if_neg e, if_neg e]
      · rw [if_neg h, if_neg h]
theorem valM_app (kvs : List (κ × D)) (k j : κ) (d : D) : valM (kvs ++ [(k, d)]) j = match valM kvs j with | some x => some x | none => if k = j then some d else none := by
  induction kvs with
  | nil => rw [List.nil_append, valM_cons, valM_nil]
  | cons x r ih =>
    rw [List.cons_append, valM_cons, valM_cons, ih]
    by_cases e : x.1 = j
    · rw [if_pos e, if_pos e]
    · rw [if_neg e, if_neg e]
/-- what a dict holds behind a store -/
theorem valM_put (kvs : List (κ × D)) (k j : κ) (d : D) : valM (putM kvs k d) j = if j = k then some d else valM kvs j := by
  unfold putM
  split
  · rename_i h
    rw [valM_map]
    by_cases e : j = k
    · rw [if_pos e, if_pos e]
      obtain ⟨v, hv⟩ := Option.isSome_iff_exists.mp h
      rw [hv]; rfl
    · rw [if_neg e, if_neg e]
  · rename_i h
    have hn : valM kvs k = none := by simpa using h
    rw [valM_app]
    by_cases e : j = k
    · subst e; simp [hn]
    · rw [if_neg e, if_neg (fun z => e z.symm)]
      cases valM kvs j <;> rfl
theorem putM_len (kvs : List (κ × D)) (k : κ) (d : D) : (putM kvs k d).length ≤ kvs.length + 1 := by
  unfold putM
  split
  · rw [List.length_map]; omega
  · rw [List.length_append]; exact Nat.le_refl _
theorem putM_new {kvs : List (κ × D)} {k : κ} {d : D} (h : valM kvs k = none) : putM kvs k d = kvs ++ [(k, d)] := by
  unfold putM; rw [h]; rfl
theorem mem_putM {kvs : List (κ × D)} {k : κ} {d : D} {x : κ × D} (h : x ∈ putM kvs k d) : x.1 = k ∨ x ∈ kvs := by
  unfold putM at h
  split at h
  · obtain ⟨y, hy, e⟩ := List.mem_map.mp h
    by_cases z : y.1 = k
    · rw [if_pos z] at e; subst e; exact .inl z
    · rw [if_neg z] at e; subst e; exact .inr hy
  · rcases List.mem_append.mp h with z | z
    · exact .inr z
    · have : x = (k, d) := by simpa using z
      subst this; exact .inl rfl
end

section
variable {K : PySem.W.Frag} {H : Hp}
theorem zipV_val {k : Key} : ∀ {kvs : List (Key × D)} {vs : List V}, GxL K H (kvs.map (·.2)) vs → (∀ d, valM kvs k = some d → ∃ v, valV ((kvs.map (·.1)).zip vs) k = some v ∧ Gx K H d v) ∧ (valM kvs k = none → valV ((kvs.map (·.1)).zip vs) k = none)
  | [], vs, g => ⟨fun d h => (by cases h), fun _ => (by simp [valV])⟩
  | x :: r, _, ⟨v, vs, e, g1, g2⟩ => by
    subst e
    obtain ⟨ih1, ih2⟩ := zipV_val (k := k) g2
    have ez : valV ((((x :: r).map (·.1)).zip (v :: vs))) k = if x.1 = k then some v else valV ((r.map (·.1)).zip vs) k := by
      rw [List.map_cons, List.zip_cons_cons]
      unfold valV
      rw [List.find?_cons]
      by_cases e : x.1 = k
      · rw [decide_eq_true e, if_pos e]; rfl
      · rw [decide_eq_false e, if_neg e]
    rw [ez, valM_cons]
    by_cases e : x.1 = k
    · rw [if_pos e, if_pos e]
      exact ⟨fun d h => ⟨v, rfl, by cases h; exact g1⟩, fun h => (by cases h)⟩
    · rw [if_neg e, if_neg e]
      exact ⟨ih1, ih2⟩
theorem zipV_map {k : Key} {d : D} {v : V} (g : Gx K H d v) : ∀ {kvs : List (Key × D)} {vs : List V}, GxL K H (kvs.map (·.2)) vs →
    ∃ us, ((kvs.map (·.1)).zip vs).map (fun kv => if kv.1 = k then (kv.1, v) else kv) = ((kvs.map fun x => if x.1 = k then (x.1, d) else x).map (·.1)).zip us ∧ GxL K H ((kvs.map fun x => if x.1 = k then (x.1, d) else x).map (·.2)) us
  | [], vs, h => ⟨vs, rfl, h⟩
  | x :: r, _, ⟨u, vs, e, g1, g2⟩ => by
    subst e
    obtain ⟨us, h1, h2⟩ := zipV_map (k := k) g g2
    by_cases e : x.1 = k
    · refine ⟨v :: us, ?_, ?_⟩
      · simp only [List.map_cons, List.zip_cons_cons, if_pos e, h1]
      · simp only [List.map_cons, if_pos e]
        exact ⟨v, us, rfl, g, h2⟩
    · refine ⟨u :: us, ?_, ?_⟩
      · simp only [List.map_cons, List.zip_cons_cons, if_neg e, h1]
      · simp only [List.map_cons, if_neg e]
        exact ⟨u, us, rfl, g1, h2⟩
theorem any_val (kvs : List (Key × V)) (k : Key) : (kvs.any fun kv => decide (kv.1 = k)) = (valV kvs k).isSome := by
  induction kvs with
  | nil => rfl
  | cons x r ih =>
    unfold valV at *
    rw [List.any_cons, List.find?_cons]
    by_cases e : x.1 = k
    · rw [decide_eq_true e]; rfl
    · rw [decide_eq_false e, Bool.false_or, ih]
theorem zipV_put {k : Key} {d : D} {v : V} (g : Gx K H d v) {kvs : List (Key × D)} {vs : List V} (h : GxL K H (kvs.map (·.2)) vs) :
    ∃ us, putK ((kvs.map (·.1)).zip vs) k v = ((putM kvs k d).map (·.1)).zip us ∧ GxL K H ((putM kvs k d).map (·.2)) us := by
  obtain ⟨z1, z2⟩ := zipV_val (k := k) h
  unfold putK putM
  rw [any_val]
  cases e : valM kvs k with
  | some d0 =>
    obtain ⟨v0, hv0, _⟩ := z1 d0 e
    rw [hv0]
    exact zipV_map g h
  | none =>
    rw [z2 e]
    refine ⟨vs ++ [v], ?_, ?_⟩
    · have hl : (kvs.map (·.1)).length = vs.length := by rw [h.len, List.length_map, List.length_map]
      show (kvs.map (·.1)).zip vs ++ [(k, v)] = ((kvs ++ [(k, d)]).map (·.1)).zip (vs ++ [v])
      rw [List.map_append, List.zip_append hl]
      rfl
    · show GxL K H ((kvs ++ [(k, d)]).map (·.2)) (vs ++ [v])
      rw [List.map_append]
      exact h.append (GxL.one g)

/-! tuples as keys -/
theorem keyDs_map : ∀ ks : List NestedKey, keyDs ks = ks.map keyD
  | [] => rfl
  | k :: ks => by
    show keyD k :: keyDs ks = _
    rw [keyDs_map ks]; rfl
theorem zipN_val {k : NestedKey} : ∀ {kvs : List (NestedKey × D)} {as : List Addr} {vs : List V}, as.length = kvs.length → GxL K H (kvs.map (·.2)) vs →
    (∀ d, valM kvs k = some d → ∃ v, valN ((kvs.map (·.1)).zip (as.zip vs)) k = some v ∧ Gx K H d v) ∧ (valM kvs k = none → valN ((kvs.map (·.1)).zip (as.zip vs)) k = none)
  | [], as, vs, _, g => ⟨fun d h => (by cases h), fun _ => (by simp [valN])⟩
  | x :: r, [], _, hl, _ => by simp at hl
  | x :: r, a :: as, _, hl, ⟨v, vs, e, g1, g2⟩ => by
    subst e
    obtain ⟨ih1, ih2⟩ := zipN_val (k := k) (as := as) (by simpa using hl) g2
    have ez : valN (((x :: r).map (·.1)).zip ((a :: as).zip (v :: vs))) k = if x.1 = k then some v else valN ((r.map (·.1)).zip (as.zip vs)) k := by
      rw [List.map_cons, List.zip_cons_cons, List.zip_cons_cons]
      unfold valN
      rw [List.find?_cons]
      by_cases e : x.1 = k
      · rw [decide_eq_true e, if_pos e]; rfl
      · rw [decide_eq_false e, if_neg e]
    rw [ez, valM_cons]
    by_cases e : x.1 = k
    · rw [if_pos e, if_pos e]
      exact ⟨fun d h => ⟨v, rfl, by cases h; exact g1⟩, fun h => (by cases h)⟩
    · rw [if_neg e, if_neg e]
      exact ⟨ih1, ih2⟩
theorem zipN_map {k : NestedKey} {d : D} {v : V} (g : Gx K H d v) : ∀ {kvs : List (NestedKey × D)} {as : List Addr} {vs : List V}, as.length = kvs.length → GxL K H (kvs.map (·.2)) vs →
    ∃ us, ((kvs.map (·.1)).zip (as.zip vs)).map (fun x => if x.1 = k then (x.1, x.2.1, v) else x) = ((kvs.map fun x => if x.1 = k then (x.1, d) else x).map (·.1)).zip (as.zip us) ∧ GxL K H ((kvs.map fun x => if x.1 = k then (x.1, d) else x).map (·.2)) us
  | [], as, vs, _, h => ⟨vs, rfl, h⟩
  | x :: r, [], _, hl, _ => by simp at hl
  | x :: r, a :: as, _, hl, ⟨u, vs, e, g1, g2⟩ => by
    subst e
    obtain ⟨us, h1, h2⟩ := zipN_map (k := k) g (as := as) (by simpa using hl) g2
    by_cases e : x.1 = k
    · refine ⟨v :: us, ?_, ?_⟩
      · simp only [List.map_cons, List.zip_cons_cons, if_pos e, h1]
      · simp only [List.map_cons, if_pos e]
        exact ⟨v, us, rfl, g, h2⟩
    · refine ⟨u :: us, ?_, ?_⟩
      · simp only [List.map_cons, List.zip_cons_cons, if_neg e, h1]
      · simp only [List.map_cons, if_neg e]
        exact ⟨u, us, rfl, g1, h2⟩
theorem zipN_put {k : NestedKey} {a : Addr} {d : D} {v : V} (g : Gx K H d v) {kvs : List (NestedKey × D)} {as : List Addr} {vs : List V} (hl : as.length = kvs.length) (h : GxL K H (kvs.map (·.2)) vs) (hk : GxL K H (keyDs (kvs.map (·.1))) (as.map V.ref)) (ha : Gx K H (keyD k) (.ref a)) :
    ∃ (bs : List Addr) (us : List V), putNK ((kvs.map (·.1)).zip (as.zip vs)) k a v = ((putM kvs k d).map (·.1)).zip (bs.zip us) ∧ bs.length = (putM kvs k d).length ∧ GxL K H ((putM kvs k d).map (·.2)) us ∧ GxL K H (keyDs ((putM kvs k d).map (·.1))) (bs.map V.ref) := by
  obtain ⟨z1, z2⟩ := zipN_val (k := k) hl h
  unfold putNK putM
  cases e : valM kvs k with
  | some d0 =>
    obtain ⟨v0, hv0, _⟩ := z1 d0 e
    rw [hv0]
    obtain ⟨us, h1, h2⟩ := zipN_map (k := k) g hl h
    refine ⟨as, us, h1, ?_, h2, ?_⟩
    · show as.length = (kvs.map _).length
      rw [List.length_map]; exact hl
    · show GxL K H (keyDs ((kvs.map fun x => if x.1 = k then (x.1, d) else x).map (·.1))) (as.map V.ref)
      have e1 : (kvs.map fun x => if x.1 = k then (x.1, d) else x).map (·.1) = kvs.map (·.1) := by
        rw [List.map_map]
        refine List.map_congr_left fun x _ => ?_
        by_cases z : x.1 = k <;> simp [z]
      rw [e1]; exact hk
  | none =>
    rw [z2 e]
    refine ⟨as ++ [a], vs ++ [v], ?_, ?_, ?_, ?_⟩
    · have hv : as.length = vs.length := by rw [hl, h.len, List.length_map]
      have hz : (kvs.map (·.1)).length = (as.zip vs).length := by rw [List.length_map, List.length_zip, ← hv, Nat.min_self, hl]
      show (kvs.map (·.1)).zip (as.zip vs) ++ [(k, a, v)] = ((kvs ++ [(k, d)]).map (·.1)).zip ((as ++ [a]).zip (vs ++ [v]))
      rw [List.map_append, List.zip_append hv, List.zip_append hz]
      rfl
    · show (as ++ [a]).length = (kvs ++ [(k, d)]).length
      rw [List.length_append, List.length_append, hl]; rfl
    · show GxL K H ((kvs ++ [(k, d)]).map (·.2)) (vs ++ [v])
      rw [List.map_append]
      exact h.append (GxL.one g)
    · show GxL K H (keyDs ((kvs ++ [(k, d)]).map (·.1))) ((as ++ [a]).map V.ref)
      rw [keyDs_map, List.map_append, List.map_append, List.map_append, ← keyDs_map]
      exact hk.append (GxL.one ha)
theorem ksok_of : ∀ {kvs : List (NestedKey × D)} {as : List Addr} {vs : List V}, as.length = kvs.length → GxL K H (keyDs (kvs.map (·.1))) (as.map V.ref) → (∀ x ∈ kvs, x.1.depth ≤ 8) → KsOk K H ((kvs.map (·.1)).zip (as.zip vs))
  | [], as, vs, _, _, _ => fun x hx => (by simp at hx)
  | x :: r, [], _, hl, _, _ => by simp at hl
  | x :: r, a :: as, [], hl, _, _ => fun x hx => (by simp at hx)
  | x :: r, a :: as, v :: vs, hl, ⟨u, us, e, g1, g2⟩, hd => fun y hy => by
    rw [List.map_cons] at e
    injection e with e1 e2
    rw [List.map_cons, List.zip_cons_cons, List.zip_cons_cons] at hy
    rcases List.mem_cons.mp hy with q | q
    · subst q; exact ⟨by rw [e1]; exact g1, hd x List.mem_cons_self⟩
    · exact ksok_of (as := as) (by simpa using hl) (by rw [e2]; exact g2) (fun z hz => hd z (List.mem_cons_of_mem _ hz)) y q
end

def kD : Key → D
  | .inl i => .int i
  | .inr x => .str x
theorem Gx.key {K : PySem.W.Frag} {H : Hp} : ∀ {k : Key} {v : V}, Gx K H (kD k) v → v = kV k
  | .inl _, _, h => h
  | .inr _, _, h => h
/-- a dict told by data: one that may change, one that stays -/
def DkAt (M : MH) (x : D) (kvs : List (Key × D)) : Prop := (∃ p, x = .adr p ∧ M p = some (.dk kvs)) ∨ x = .dk (kvs.map (·.1)) (kvs.map (·.2))
theorem DkAt.m {M : MH} {p : Addr} {kvs : List (Key × D)} (h : M p = some (.dk kvs)) : DkAt M (.adr p) kvs := .inl ⟨p, rfl, h⟩
theorem DkAt.f {M : MH} {kvs : List (Key × D)} : DkAt M (.dk (kvs.map (·.1)) (kvs.map (·.2))) kvs := .inr rfl

section
variable {K : PySem.W.Frag} {w : World} {ds : DS} {M : MH} {k : D → MH → Prop} {td ty tx ta tb : TE}
theorem dk_at {H0 H F : Hp} {M : MH} {x : D} {kvs : List (Key × D)} {v : V} (s : S4 K w H0 M F H) (h : DkAt M x kvs) (g : Gx K H0 x v) : ∃ p vs, v = .ref p ∧ H p = some (.dK ((kvs.map (·.1)).zip vs)) ∧ GxL K H0 (kvs.map (·.2)) vs := by
  rcases h with ⟨p, rfl, hm⟩ | rfl
  · obtain ⟨h1, ho, h2, vs, rfl, gl⟩ := s.mu p _ hm
    exact ⟨p, vs, g, h2, gl⟩
  · obtain ⟨p, vs, rfl, h1, _, gl⟩ := g
    exact ⟨p, vs, rfl, s.ex _ _ h1, gl⟩
theorem ev_dget (h : EV K w td ds M fun x M1 => EV K w ty ds M1 fun y M2 => ∃ kvs kk d, DkAt M2 x kvs ∧ y = kD kk ∧ valM kvs kk = some d ∧ k d M2) : EV K w (tDGet td ty) ds M k := fun H0 σ H F Q s e f => by
  refine h H0 σ H F _ s e fun x M1 vx H1 H2 q e1 s1 gx => ?_
  refine q H1 σ H2 F _ s1 (e.mono e1) fun y M2 vy H3 H4 q2 e2 s2 gy => ?_
  obtain ⟨kvs, kk, d, hx, rfl, hv, q2⟩ := q2
  obtain ⟨p, vs, e3, h3, gl⟩ := dk_at s2 hx (Gx.mono e2 _ _ gx)
  obtain ⟨v, h4, g4⟩ := (zipV_val gl).1 d hv
  refine ⟨p, v, e3, ?_, f d M2 v H3 H4 q2 (e1.trans e2) s2 g4⟩
  rw [gy.key, ← h4]
  exact DGet.k h3
theorem ev_din (h : EV K w ty ds M fun y M1 => EV K w td ds M1 fun x M2 => ∃ kvs kk, DkAt M2 x kvs ∧ y = kD kk ∧ k (.bl (valM kvs kk).isSome) M2) : EV K w (tDIn ty td) ds M k := fun H0 σ H F Q s e f => by
  refine h H0 σ H F _ s e fun y M1 vy H1 H2 q e1 s1 gy => ?_
  refine q H1 σ H2 F _ s1 (e.mono e1) fun x M2 vx H3 H4 q2 e2 s2 gx => ?_
  obtain ⟨kvs, kk, hx, rfl, q2⟩ := q2
  obtain ⟨p, vs, e3, h3, gl⟩ := dk_at s2 hx gx
  refine ⟨p, valV ((kvs.map (·.1)).zip vs) kk, e3, ?_, ?_⟩
  · rw [(Gx.mono e2 _ _ gy).key]; exact DGet.k h3
  · obtain ⟨z1, z2⟩ := zipV_val (k := kk) gl
    have ee : (valV ((kvs.map (·.1)).zip vs) kk).isSome = (valM kvs kk).isSome := by
      cases e : valM kvs kk with
      | some d => obtain ⟨v, hv, _⟩ := z1 d e; rw [hv]; rfl
      | none => rw [z2 e] <;> rfl
    rw [ee]
    exact f _ M2 _ H3 H4 q2 (e1.trans e2) s2 rfl
theorem ev_dnotin (h : EV K w ty ds M fun y M1 => EV K w td ds M1 fun x M2 => ∃ kvs kk, DkAt M2 x kvs ∧ y = kD kk ∧ k (.bl (!(valM kvs kk).isSome)) M2) : EV K w (tDNotIn ty td) ds M k := fun H0 σ H F Q s e f => by
  refine h H0 σ H F _ s e fun y M1 vy H1 H2 q e1 s1 gy => ?_
  refine q H1 σ H2 F _ s1 (e.mono e1) fun x M2 vx H3 H4 q2 e2 s2 gx => ?_
  obtain ⟨kvs, kk, hx, rfl, q2⟩ := q2
  obtain ⟨p, vs, e3, h3, gl⟩ := dk_at s2 hx gx
  refine ⟨p, valV ((kvs.map (·.1)).zip vs) kk, e3, ?_, ?_⟩
  · rw [(Gx.mono e2 _ _ gy).key]; exact DGet.k h3
  · obtain ⟨z1, z2⟩ := zipV_val (k := kk) gl
    have ee : (valV ((kvs.map (·.1)).zip vs) kk).isSome = (valM kvs kk).isSome := by
      cases e : valM kvs kk with
      | some d => obtain ⟨v, hv, _⟩ := z1 d e; rw [hv]; rfl
      | none => rw [z2 e] <;> rfl
    rw [ee]
    exact f _ M2 _ H3 H4 q2 (e1.trans e2) s2 rfl
/-- d.get(k, x) -/
theorem ev_dget2 (h : EV K w td ds M fun x M1 => (∃ kvs0, DkAt M1 x kvs0) ∧ EV K w ty ds M1 fun y M2 => EV K w tx ds M2 fun z M3 => ∃ kvs kk, DkAt M3 x kvs ∧ y = kD kk ∧ k ((valM kvs kk).getD z) M3) : EV K w (tDGet2 td ty tx) ds M k := fun H0 σ H F Q s e f => by
  refine h H0 σ H F _ s e fun x M1 vx H1 H2 q e1 s1 gx => ?_
  obtain ⟨⟨kvs0, hx0⟩, q⟩ := q
  obtain ⟨p0, vs0, rfl, h30, _⟩ := dk_at s1 hx0 gx
  refine ⟨p0, rfl, .inl ⟨_, .inl h30⟩, ?_⟩
  refine q H1 σ H2 F _ s1 (e.mono e1) fun y M2 vy H3 H4 q2 e2 s2 gy => ?_
  refine q2 H3 σ H4 F _ s2 (e.mono (e1.trans e2)) fun z M3 vz H5 H6 q3 e3 s3 gz => ?_
  obtain ⟨kvs, kk, hx, rfl, q3⟩ := q3
  obtain ⟨p, vs, ep, h3, gl⟩ := dk_at s3 hx (Gx.mono (e2.trans e3) _ _ gx)
  cases ep
  refine ⟨valV ((kvs.map (·.1)).zip vs) kk, ?_, ?_⟩
  · rw [(Gx.mono e3 _ _ gy).key]; exact DGet.k h3
  · obtain ⟨z1, z2⟩ := zipV_val (k := kk) gl
    cases e : valM kvs kk with
    | some d =>
      obtain ⟨v, hv, gv⟩ := z1 d e
      rw [hv]
      rw [e] at q3
      exact f d M3 v H5 H6 q3 ((e1.trans e2).trans e3) s3 gv
    | none =>
      rw [z2 e]
      rw [e] at q3
      exact f z M3 vz H5 H6 q3 ((e1.trans e2).trans e3) s3 gz
/-- d[k] = v -/
theorem rs_dk {p : Addr} {kvs : List (Key × D)} {kk : Key} {i d : D} {q : MH → Prop} (hi : i = kD kk) (hm : M p = some (.dk kvs)) (hl : kvs.length < sizeLine) (h : q (M.set p (.dk (putM kvs kk d)))) : RS K w rSetD (.adr p) i d M q := fun H0 vo vi vv H F Q s go gi gv f => by
  subst hi
  obtain ⟨h1, ho, h2, vs, rfl, g⟩ := s.mu p _ hm
  obtain ⟨us, e1, g1⟩ := zipV_put (k := kk) gv g
  have hz : ((kvs.map (·.1)).zip vs).length < sizeLine := by rw [List.length_zip, List.length_map]; omega
  refine ⟨p, _, go, ?_, f _ H0 _ h (Ex.refl H0) (s.wr hm ⟨us, congrArg HO.dK e1, g1⟩)⟩
  rw [gi.key]
  exact DPut.k h2 hz
theorem ra_lenD {x : D} {kvs : List (Key × D)} (hx : DkAt M x kvs) (q : k (.int (kvs.length : Nat)) M) : RA K w (fun xs H Q => ∃ a kvs, xs = [V.ref a] ∧ H a = some (.dK kvs) ∧ Q (.int kvs.length) H) [x] M k := fun H0 vs H F Q s g f => by
  obtain ⟨v, rfl, gv⟩ := gxl1 g
  obtain ⟨p, vs, rfl, h3, gl⟩ := dk_at s hx gv
  refine ⟨p, _, rfl, h3, ?_⟩
  have hz : ((kvs.map (·.1)).zip vs).length = kvs.length := by rw [List.length_zip, List.length_map, gl.len, List.length_map, Nat.min_self]
  rw [hz]
  exact f _ M _ H0 H q (Ex.refl H0) s rfl

/-! keys that are tuples -/
theorem dn_at {H0 H F : Hp} {p : Addr} {kvs : List (NestedKey × D)} (s : S4 K w H0 M F H) (hm : M p = some (.dn kvs)) : ∃ (as : List Addr) (vs : List V), H p = some (DNo w p ((kvs.map (·.1)).zip (as.zip vs))) ∧ as.length = kvs.length ∧ GxL K H0 (kvs.map (·.2)) vs ∧ GxL K H0 (keyDs (kvs.map (·.1))) (as.map V.ref) ∧ (∀ x ∈ kvs, x.1.depth ≤ 8) ∧ KsOk K H ((kvs.map (·.1)).zip (as.zip vs)) := by
  obtain ⟨h1, ho, h2, as, vs, rfl, hl, gl, gk, hd⟩ := s.mu p _ hm
  exact ⟨as, vs, h2, hl, gl, gk, hd, ksok_of hl (GxL.mono s.ex _ _ gk) hd⟩
theorem ev_nnew (q : ∀ p, M p = none → k (.adr p) (M.set p (.dn []))) : EV K w (tNNew w) ds M k := fun H0 σ H F Q s e f p hp =>
  f _ _ _ _ _ (q p (s.noM hp)) (Ex.refl H0) (s.newM hp ⟨[], [], rfl, rfl, rfl, rfl, fun x hx => (by simp at hx)⟩) rfl
theorem ev_nget (h : EV K w td ds M fun x M1 => EV K w ty ds M1 fun y M2 => ∃ p kvs kk d, x = .adr p ∧ M2 p = some (.dn kvs) ∧ y = keyD (.tup kk) ∧ (NestedKey.tup kk).depth ≤ 8 ∧ valM kvs (.tup kk) = some d ∧ k d M2) : EV K w (tNGet K w td ty) ds M k := fun H0 σ H F Q s e f => by
  refine h H0 σ H F _ s e fun x M1 vx H1 H2 q e1 s1 gx => ?_
  refine q H1 σ H2 F _ s1 (e.mono e1) fun y M2 vy H3 H4 q2 e2 s2 gy => ?_
  obtain ⟨p, kvs, kk, d, rfl, hm, rfl, hd, hv, q2⟩ := q2
  obtain ⟨as, vs, h3, hl, gl, gk, hdd, ok⟩ := dn_at s2 hm
  obtain ⟨v, h4, g4⟩ := (zipN_val hl gl).1 d hv
  exact ⟨p, _, kk, v, Gx.mono e2 _ _ gx, h3, ok, Gx.mono s2.ex _ _ gy, hd, h4, f d M2 v H3 H4 q2 (e1.trans e2) s2 g4⟩
theorem rd_nin {p : Addr} {kvs : List (NestedKey × D)} {kk : List NestedKey} {y : D} (hy : y = keyD (.tup kk)) (hm : M p = some (.dn kvs)) (hd : (NestedKey.tup kk).depth ≤ 8) (q : k (.bl (valM kvs (.tup kk)).isSome) M) : RD K w (rNIn K w false) y (.adr p) M k := fun H0 vy vx H F Q s gy gx f => by
  subst hy
  obtain ⟨as, vs, h3, hl, gl, gk, hdd, ok⟩ := dn_at s hm
  refine ⟨p, _, kk, gx, h3, ok, Gx.mono s.ex _ _ gy, hd, ?_⟩
  obtain ⟨z1, z2⟩ := zipN_val (k := .tup kk) hl gl
  have ee : (valN ((kvs.map (·.1)).zip (as.zip vs)) (.tup kk)).isSome = (valM kvs (.tup kk)).isSome := by
    cases e : valM kvs (.tup kk) with
    | some d => obtain ⟨v, hv, _⟩ := z1 d e; rw [hv]; rfl
    | none => rw [z2 e] <;> rfl
  rw [if_neg Bool.false_ne_true, ee]
  exact f _ M _ H0 H q (Ex.refl H0) s rfl
theorem rd_nnotin {p : Addr} {kvs : List (NestedKey × D)} {kk : List NestedKey} {y : D} (hy : y = keyD (.tup kk)) (hm : M p = some (.dn kvs)) (hd : (NestedKey.tup kk).depth ≤ 8) (q : k (.bl (!(valM kvs (.tup kk)).isSome)) M) : RD K w (rNIn K w true) y (.adr p) M k := fun H0 vy vx H F Q s gy gx f => by
  subst hy
  obtain ⟨as, vs, h3, hl, gl, gk, hdd, ok⟩ := dn_at s hm
  refine ⟨p, _, kk, gx, h3, ok, Gx.mono s.ex _ _ gy, hd, ?_⟩
  obtain ⟨z1, z2⟩ := zipN_val (k := .tup kk) hl gl
  have ee : (valN ((kvs.map (·.1)).zip (as.zip vs)) (.tup kk)).isSome = (valM kvs (.tup kk)).isSome := by
    cases e : valM kvs (.tup kk) with
    | some d => obtain ⟨v, hv, _⟩ := z1 d e; rw [hv]; rfl
    | none => rw [z2 e] <;> rfl
  rw [if_pos rfl, ee]
  exact f _ M _ H0 H q (Ex.refl H0) s rfl
theorem rs_dn {p : Addr} {kvs : List (NestedKey × D)} {kk : List NestedKey} {i d : D} {q : MH → Prop} (hi : i = keyD (.tup kk)) (hm : M p = some (.dn kvs)) (hd : (NestedKey.tup kk).depth ≤ 8) (hl : kvs.length ≤ sizeLine) (h : q (M.set p (.dn (putM kvs (.tup kk) d)))) : RS K w (rSetN K w) (.adr p) i d M q := fun H0 vo vi vv H F Q s go gi gv f => by
  subst hi
  obtain ⟨as, vs, h3, hla, gl, gk, hdd, ok⟩ := dn_at s hm
  obtain ⟨b, us, rfl, hb⟩ := id gi
  obtain ⟨bs, us, e1, e2, g1, g2⟩ := zipN_put (k := .tup kk) (a := b) gv hla gl gk gi
  have hz : ((kvs.map (·.1)).zip (as.zip vs)).length ≤ sizeLine := by rw [List.length_zip, List.length_map]; omega
  refine ⟨p, _, kk, b, go, h3, ok, rfl, Gx.mono s.ex _ _ gi, hd, hz, f _ H0 _ h (Ex.refl H0) (s.wr hm ⟨bs, us, ?_, e2, g1, g2, fun x hx => ?_⟩)⟩
  · rw [e1]
  · rcases mem_putM hx with z | z
    · rw [z]; exact hd
    · exact hdd x z
theorem ra_lenN {p : Addr} {kvs : List (NestedKey × D)} (hm : M p = some (.dn kvs)) (hl : kvs.length ≤ sizeLine) (q : k (.int (kvs.length : Nat)) M) : RA K w (fun xs H Q => ∃ a kvs, xs = [V.ref a] ∧ H a = some (DNo w a kvs) ∧ KsOk K H kvs ∧ kvs.length ≤ sizeLine ∧ Q (.int (kvs.length : Nat)) H) [.adr p] M k := fun H0 vs H F Q s g f => by
  obtain ⟨v, rfl, gv⟩ := gxl1 g
  obtain ⟨as, vs, h3, hla, gl, gk, hdd, ok⟩ := dn_at s hm
  have hv : as.length = vs.length := by rw [hla, gl.len, List.length_map]
  have hz : ((kvs.map (·.1)).zip (as.zip vs)).length = kvs.length := by rw [List.length_zip, List.length_map, List.length_zip, ← hv, Nat.min_self, hla, Nat.min_self]
  refine ⟨p, _, by rw [show v = V.ref p from gv], h3, ok, by rw [hz]; exact hl, ?_⟩
  rw [hz]
  exact f _ M _ H0 H q (Ex.refl H0) s rfl
end
end PL

set_option Elab.async false
set_option linter.all false
set_option maxRecDepth 100000
set_option maxHeartbeats 4000000
/-! PLh: comprehensions, slices, joins of lists, deep ==, sorted, isinstance, texts. -/
namespace PL
open PySem PySem.Spec PyProof.Rows L2 Evl

/-! ### comprehensions -/
def wipeD (ds : DS) : List Nat → DS
  | [] => ds
  | v :: vs => (wipeD ds vs).set v none
section
variable {K : PySem.W.Frag} {w : World} {ds : DS} {M : MH} {k : D → MH → Prop} {te tk tv : TE} {g : TG} {tt : TT} {wi : TI} {vs : List Nat}
theorem En.none {H : Hp} {ds : DS} {σ : L2.St} (h : En K H ds σ) (v : Nat) : En K H (ds.set v none) (σ.set v none) := by
  refine ⟨by rw [List.length_set, List.length_set]; exact h.1, fun j e q => ?_⟩
  by_cases hij : v = j
  · subst hij
    by_cases hl : v < ds.length
    · rw [List.getElem?_set_self hl] at q; cases q
    · rw [List.getElem?_eq_none (by rw [List.length_set]; omega)] at q; cases q
  · rw [List.getElem?_set_ne hij] at q
    obtain ⟨u, h1, h2⟩ := h.2 j e q
    exact ⟨u, by rw [List.getElem?_set_ne hij]; exact h1, h2⟩
theorem En.wipe {H : Hp} {ds : DS} {σ : L2.St} (h : En K H ds σ) : ∀ vs : List Nat, En K H (wipeD ds vs) (L2.wipe σ vs)
  | [] => h
  | v :: vs => (h.wipe vs).none v
/-- the block's own names alone are stored by its target -/
def GWipe (g : TG) (vs : List Nat) : Prop := ∀ (v : V) (σ : L2.St) (H : Hp) (Q : L2.St → Hp → Prop), g v (L2.wipe σ vs) H Q → g v (L2.wipe σ vs) H fun σ2 H2 => L2.wipe σ2 vs = L2.wipe σ vs ∧ Q σ2 H2
theorem gw_name {j : Nat} : GWipe (gName j) [j] := fun v σ H Q h => ⟨by
  show ((σ.set j Option.none).set j (some v)).set j Option.none = σ.set j Option.none
  rw [List.set_set, List.set_set], h⟩
theorem gw_tup2 {n i j : Nat} (hij : i ≠ j) : GWipe (gTup K n (gCons (gName i) (gCons (gName j) gNil))) [i, j] := fun v σ H Q h => by
  obtain ⟨a, xs, e1, e2, e3, v1, r1, e4, v2, r2, e5, e6, q⟩ := h
  refine ⟨a, xs, e1, e2, e3, v1, r1, e4, v2, r2, e5, e6, ?_, q⟩
  show (((((σ.set j Option.none).set i Option.none).set i (some v1)).set j (some v2)).set j Option.none).set i Option.none = (σ.set j Option.none).set i Option.none
  apply List.ext_getElem?
  intro m
  simp only [List.getElem?_set, List.length_set]
  by_cases h1 : i = m <;> by_cases h2 : j = m <;> simp_all
def Fs (F : Hp) (d : Addr) (o : HO) : Hp := fun b => if b = d then some o else F b
theorem S4.toF {H0 H F : Hp} {d : Addr} {o : HO} (s : S4 K w H0 M F H) (hd : H d = Option.none) : S4 K w H0 M (Fs F d o) (upd H d o) := by
  refine ⟨fun b u q => ?_, fun b m q => ?_, fun b u q => ?_⟩
  · rw [upd_ne (ne_of_none (s.ex b u q) hd)]; exact s.ex b u q
  · obtain ⟨h1, ho, h2, h3⟩ := s.mu b m q
    exact ⟨h1, ho, by rw [upd_ne (ne_of_none h2 hd)]; exact h2, h3⟩
  · unfold Fs at q
    by_cases hb : b = d
    · subst hb
      rw [if_pos rfl] at q; cases q
      exact ⟨fresh_back s.ex hd, s.noM hd, upd_same⟩
    · rw [if_neg hb] at q
      obtain ⟨h1, h2, h3⟩ := s.fr b u q
      exact ⟨h1, h2, by rw [upd_ne hb]; exact h3⟩
theorem S4.frU {H0 H F : Hp} {d : Addr} {o o' : HO} (s : S4 K w H0 M (Fs F d o) H) : S4 K w H0 M (Fs F d o') (upd H d o') := by
  obtain ⟨g1, g2, g3⟩ := s.fr d o (by unfold Fs; rw [if_pos rfl])
  refine ⟨fun b u q => ?_, fun b m q => ?_, fun b u q => ?_⟩
  · have hb : b ≠ d := ne_of_none q g1
    rw [upd_ne hb]; exact s.ex b u q
  · have hb : b ≠ d := fun z => by subst z; rw [g2] at q; cases q
    obtain ⟨h1, ho, h2, h3⟩ := s.mu b m q
    exact ⟨h1, ho, by rw [upd_ne hb]; exact h2, h3⟩
  · unfold Fs at q
    by_cases hb : b = d
    · subst hb
      rw [if_pos rfl] at q; cases q
      exact ⟨g1, g2, upd_same⟩
    · rw [if_neg hb] at q
      obtain ⟨h1, h2, h3⟩ := s.fr b u (by unfold Fs; rw [if_neg hb]; exact q)
      exact ⟨h1, h2, by rw [upd_ne hb]; exact h3⟩
theorem S4.atF {H0 H F : Hp} {d : Addr} {o : HO} (s : S4 K w H0 M (Fs F d o) H) : H0 d = Option.none ∧ M d = Option.none ∧ H d = some o := s.fr d o (by unfold Fs; rw [if_pos rfl])
theorem S4.offF {H0 H F : Hp} {d : Addr} {o : HO} (s : S4 K w H0 M (Fs F d o) H) (hF : F d = Option.none) : S4 K w (upd H0 d o) M F H := by
  obtain ⟨g1, g2, g3⟩ := s.atF
  have e0 : Ex H0 (upd H0 d o) := Ex.new g1
  refine ⟨fun b u q => ?_, fun b m q => ?_, fun b u q => ?_⟩
  · by_cases hb : b = d
    · subst hb; rw [upd_same] at q; cases q; exact g3
    · rw [upd_ne hb] at q; exact s.ex b u q
  · have hb : b ≠ d := fun z => by subst z; rw [g2] at q; cases q
    obtain ⟨h1, ho, h2, h3⟩ := s.mu b m q
    exact ⟨by rw [upd_ne hb]; exact h1, ho, h2, h3.mono e0⟩
  · have hb : b ≠ d := fun z => by subst z; rw [hF] at q; cases q
    obtain ⟨h1, h2, h3⟩ := s.fr b u (by unfold Fs; rw [if_neg hb]; exact q)
    exact ⟨by rw [upd_ne hb]; exact h1, h2, h3⟩
theorem S4.offFM {H0 H F : Hp} {d : Addr} {o : HO} {mo : MO} (s : S4 K w H0 M (Fs F d o) H) (hF : F d = Option.none) (h : MOk K w H0 d mo o) : S4 K w H0 (M.set d mo) F H := by
  obtain ⟨g1, g2, g3⟩ := s.atF
  refine ⟨s.ex, fun b m q => ?_, fun b u q => ?_⟩
  · by_cases hb : b = d
    · subst hb; rw [MH.set_same] at q; cases q; exact ⟨g1, o, g3, h⟩
    · rw [MH.set_ne hb] at q; exact s.mu b m q
  · have hb : b ≠ d := fun z => by subst z; rw [hF] at q; cases q
    obtain ⟨h1, h2, h3⟩ := s.fr b u (by unfold Fs; rw [if_neg hb]; exact q)
    exact ⟨h1, by rw [MH.set_ne hb]; exact h2, h3⟩
/-- the turns of a comprehension: acc is what is made so far -/
def LP (K : PySem.W.Frag) (w : World) (g : TG) (tt : TT) (te : TE) (ds : DS) (vs : List Nat) (q : List D → MH → Prop) : List D → List D → MH → Prop
  | [], acc, M => q acc M
  | d :: l, acc, M => GV K w g d (wipeD ds vs) M fun ds1 M1 => TV K w tt ds1 M1 fun b M2 => if b = true then EV K w te ds1 M2 fun x M3 => acc.length < sizeLine ∧ LP K w g tt te ds vs q l (acc ++ [x]) M3 else LP K w g tt te ds vs q l acc M2
theorem ev_lcG (hg : GWipe g vs) {q : List D → MH → Prop} (h : IV K w wi ds M fun l M1 => LP K w g tt te ds vs q l [] M1)
    (fin : ∀ acc M', q acc M' → ∀ (H0 H F : Hp) (d : Addr) (us : List V), S4 K w H0 M' (Fs F d (.lst us)) H → F d = Option.none → GxL K H0 acc us → ∃ x M2 H0', k x M2 ∧ Ex H0 H0' ∧ S4 K w H0' M2 F H ∧ Gx K H0' x (.ref d)) :
    EV K w (tLc wi g tt te vs) ds M k := fun H0 σ H F Q s e f => by
  refine h H0 σ H F _ s e fun l M1 J H1 H2 p e1 s1 jo => ?_
  intro d hd
  have hF : F d = Option.none := by
    cases q : F d with
    | none => rfl
    | some o =>
      have z := (s1.fr d o q).2.2
      rw [hd] at z; cases z
  refine ⟨fun i m H => m = l.length - i ∧ i ≤ l.length ∧ ∃ H0' M acc us, Ex H1 H0' ∧ S4 K w H0' M (Fs F d (.lst us)) H ∧ GxL K H0' acc us ∧ LP K w g tt te ds vs q (l.drop i) acc M, ⟨l.length, by simp, Nat.zero_le _, H1, M1, [], [], Ex.refl H1, s1.toF hd, rfl, by simpa using p⟩, ?_⟩
  rintro i m H3 ⟨rfl, hi, H03, M3, acc, us, e3, s3, ga, f3⟩
  obtain ⟨j1, j2⟩ := jo H03 H3 i e3 s3.ex
  by_cases hlt : i < l.length
  · have hx : l[i]? = some l[i] := List.getElem?_eq_getElem hlt
    obtain ⟨go, yl⟩ := j2 _ hx
    rw [List.drop_eq_getElem_cons hlt] at f3
    refine .inr ⟨go, fun H' => ∃ H0' M acc us, Ex H1 H0' ∧ S4 K w H0' M (Fs F d (.lst us)) H' ∧ GxL K H0' acc us ∧ LP K w g tt te ds vs q (l.drop (i + 1)) acc M, ?_, ?_⟩
    · rintro H' ⟨H0', M', acc', us', a1, a2, a3, a4⟩
      exact ⟨l.length - (i + 1), by omega, rfl, hlt, H0', M', acc', us', a1, a2, a3, a4⟩
    · intro v H4 hy
      obtain ⟨ee, H04, b1, b2, b3, b4⟩ := yl v H4 hy
      have s4 : S4 K w H04 M3 (Fs F d (.lst us)) H4 := grow s3 ee b1 b2 b3
      refine hg v σ H4 _ (f3 H04 v _ H4 _ _ s4 ((e.mono ((e1.trans e3).trans b1)).wipe vs) b4 fun ds5 M5 σ5 H05 H5 p5 e5 s5 n5 => ?_)
      refine p5 H05 σ5 H5 _ _ s5 n5 fun b M6 H06 H6 p6 e6 s6 => ?_
      cases b with
      | false => exact ⟨H06, M6, acc, us, ((e3.trans b1).trans e5).trans e6, s6, GxL.mono ((b1.trans e5).trans e6) _ _ ga, p6⟩
      | true =>
        refine (show EV K w te ds5 M6 _ from p6) H06 σ5 H6 _ _ s6 (n5.mono e6) fun x M7 y H07 H7 p7 e7 s7 g7 => ?_
        have ga' : GxL K H07 acc us := GxL.mono (((b1.trans e5).trans e6).trans e7) _ _ ga
        refine ⟨us, s7.atF.2.2, by rw [ga'.len]; exact p7.1, H07, M7, acc ++ [x], us ++ [y], (((e3.trans b1).trans e5).trans e6).trans e7, s7.frU, ga'.snoc g7, p7.2⟩
  · have hi' : i = l.length := by omega
    subst hi'
    rw [List.drop_length] at f3
    obtain ⟨x, M2, H0', p1, p2, p3, p4⟩ := fin acc M3 f3 H03 H3 F d us s3 hF ga
    exact .inl ⟨j1 (List.getElem?_eq_none (Nat.le_refl _)), f x M2 _ H0' H3 p1 ((e1.trans e3).trans p2) p3 p4⟩
theorem ev_lc (hg : GWipe g vs) (h : IV K w wi ds M fun l M1 => LP K w g tt te ds vs (fun acc M' => k (.lst acc) M') l [] M1) : EV K w (tLc wi g tt te vs) ds M k :=
  ev_lcG hg h fun acc M' q H0 H F d us s hF ga => ⟨_, M', _, q, Ex.new s.atF.1, s.offF hF, d, us, rfl, upd_same, GxL.mono (Ex.new s.atF.1) _ _ ga⟩
theorem ev_lcM (hg : GWipe g vs) (h : IV K w wi ds M fun l M1 => LP K w g tt te ds vs (fun acc M' => ∀ p, M' p = Option.none → k (.adr p) (M'.set p (.lst acc))) l [] M1) : EV K w (tLc wi g tt te vs) ds M k :=
  ev_lcG hg h fun acc M' q H0 H F d us s hF ga => ⟨_, _, H0, q d s.atF.2.1, Ex.refl H0, s.offFM hF ⟨us, rfl, ga⟩, rfl⟩
theorem tv_yes {q : Bool → MH → Prop} (h : q true M) : TV K w tYes ds M q := fun H0 σ H F Q s e f => f true M H0 H h (Ex.refl H0) s
/-- dict comprehensions with int and text keys -/
def LPd (K : PySem.W.Frag) (w : World) (g : TG) (tt : TT) (tk tv : TE) (ds : DS) (vs : List Nat) (q : List (Key × D) → MH → Prop) : List D → List (Key × D) → MH → Prop
  | [], acc, M => q acc M
  | d :: l, acc, M => GV K w g d (wipeD ds vs) M fun ds1 M1 => TV K w tt ds1 M1 fun b M2 => if b = true then EV K w tk ds1 M2 fun x M3 => EV K w tv ds1 M3 fun y M4 => ∃ kk, x = kD kk ∧ acc.length < sizeLine ∧ LPd K w g tt tk tv ds vs q l (putM acc kk y) M4 else LPd K w g tt tk tv ds vs q l acc M2
theorem ev_dc (hg : GWipe g vs) (h : IV K w wi ds M fun l M1 => LPd K w g tt tk tv ds vs (fun acc M' => k (.dk (acc.map (·.1)) (acc.map (·.2))) M') l [] M1) : EV K w (tDc wi g tt tk tv vs) ds M k := fun H0 σ H F Q s e f => by
  refine h H0 σ H F _ s e fun l M1 J H1 H2 p e1 s1 jo => ?_
  intro d hd
  have hF : F d = Option.none := by
    cases q : F d with
    | none => rfl
    | some o =>
      have z := (s1.fr d o q).2.2
      rw [hd] at z; cases z
  refine ⟨fun i m H => m = l.length - i ∧ i ≤ l.length ∧ ∃ (H0' : Hp) (M : MH) (acc : List (Key × D)) (us : List V), Ex H1 H0' ∧ S4 K w H0' M (Fs F d (.dK ((acc.map (·.1)).zip us))) H ∧ GxL K H0' (acc.map (·.2)) us ∧ LPd K w g tt tk tv ds vs (fun acc M' => k (.dk (acc.map (·.1)) (acc.map (·.2))) M') (l.drop i) acc M, ⟨l.length, by simp, Nat.zero_le _, H1, M1, [], [], Ex.refl H1, s1.toF hd, rfl, by simpa using p⟩, ?_⟩
  rintro i m H3 ⟨rfl, hi, H03, M3, acc, us, e3, s3, ga, f3⟩
  obtain ⟨j1, j2⟩ := jo H03 H3 i e3 s3.ex
  by_cases hlt : i < l.length
  · have hx : l[i]? = some l[i] := List.getElem?_eq_getElem hlt
    obtain ⟨go, yl⟩ := j2 _ hx
    rw [List.drop_eq_getElem_cons hlt] at f3
    refine .inr ⟨go, fun H' => ∃ (H0' : Hp) (M : MH) (acc : List (Key × D)) (us : List V), Ex H1 H0' ∧ S4 K w H0' M (Fs F d (.dK ((acc.map (·.1)).zip us))) H' ∧ GxL K H0' (acc.map (·.2)) us ∧ LPd K w g tt tk tv ds vs (fun acc M' => k (.dk (acc.map (·.1)) (acc.map (·.2))) M') (l.drop (i + 1)) acc M, ?_, ?_⟩
    · rintro H' ⟨H0', M', acc', us', a1, a2, a3, a4⟩
      exact ⟨l.length - (i + 1), by omega, rfl, hlt, H0', M', acc', us', a1, a2, a3, a4⟩
    · intro v H4 hy
      obtain ⟨ee, H04, b1, b2, b3, b4⟩ := yl v H4 hy
      have s4 : S4 K w H04 M3 (Fs F d (.dK ((acc.map (·.1)).zip us))) H4 := grow s3 ee b1 b2 b3
      refine hg v σ H4 _ (f3 H04 v _ H4 _ _ s4 ((e.mono ((e1.trans e3).trans b1)).wipe vs) b4 fun ds5 M5 σ5 H05 H5 p5 e5 s5 n5 => ?_)
      refine p5 H05 σ5 H5 _ _ s5 n5 fun b M6 H06 H6 p6 e6 s6 => ?_
      cases b with
      | false => exact ⟨H06, M6, acc, us, ((e3.trans b1).trans e5).trans e6, s6, GxL.mono ((b1.trans e5).trans e6) _ _ ga, p6⟩
      | true =>
        refine (show EV K w tk ds5 M6 _ from p6) H06 σ5 H6 _ _ s6 (n5.mono e6) fun x M7 vx H07 H7 p7 e7 s7 g7 => ?_
        refine p7 H07 σ5 H7 _ _ s7 ((n5.mono e6).mono e7) fun y M8 vy H08 H8 p8 e8 s8 g8 => ?_
        obtain ⟨kk, rfl, hl, p8⟩ := p8
        have eall : Ex H03 H08 := ((((b1.trans e5).trans e6).trans e7)).trans e8
        have ga' : GxL K H08 (acc.map (·.2)) us := GxL.mono eall _ _ ga
        obtain ⟨us', z1, z2⟩ := zipV_put (k := kk) g8 ga'
        refine ⟨(acc.map (·.1)).zip us, kk, (Gx.mono e8 _ _ g7).key, s8.atF.2.2, by rw [List.length_zip, List.length_map]; omega, H08, M8, putM acc kk y, us', e3.trans eall, ?_, z2, p8⟩
        rw [← z1]
        exact s8.frU
  · have hi' : i = l.length := by omega
    subst hi'
    rw [List.drop_length] at f3
    have e0 : Ex H03 (upd H03 d (.dK ((acc.map (·.1)).zip us))) := Ex.new s3.atF.1
    refine .inl ⟨j1 (List.getElem?_eq_none (Nat.le_refl _)), f _ M3 _ _ H3 f3 ((e1.trans e3).trans e0) (s3.offF hF) ⟨d, us, rfl, upd_same, by rw [List.length_map, List.length_map], GxL.mono e0 _ _ ga⟩⟩

/-! ### slices -/
theorem ov_none {q : Option Int → MH → Prop} (h : q none M) : OV K w tNoPart ds M q := fun H0 σ H F Q s e f => f none M H0 H h (Ex.refl H0) s
theorem ov_some {q : Option Int → MH → Prop} (h : EV K w te ds M fun d M1 => ∃ i, d = .int i ∧ q (some i) M1) : OV K w (tPart te) ds M q := fun H0 σ H F Q s e f => by
  refine h H0 σ H F _ s e fun d M1 v H1 H2 p e1 s1 g => ?_
  obtain ⟨i, rfl, p⟩ := p
  exact ⟨i, g, f (some i) M1 H1 H2 p e1 s1⟩
def RSl (K : PySem.W.Frag) (w : World) (r : V → Option Int → Option Int → Hp → VK → Prop) (x : D) (lo hi : Option Int) (M : MH) (k : D → MH → Prop) : Prop :=
  ∀ (H0 : Hp) (vx : V) (H F : Hp) (Q : VK), S4 K w H0 M F H → Gx K H0 x vx → (∀ d M' v H0' H', k d M' → Ex H0 H0' → S4 K w H0' M' F H' → Gx K H0' d v → Q v H') → r vx lo hi H Q
theorem ev_sl {r : V → Option Int → Option Int → Hp → VK → Prop} {tl th : TO} (h : EV K w te ds M fun x M1 => OV K w tl ds M1 fun lo M2 => OV K w th ds M2 fun hi M3 => RSl K w r x lo hi M3 k) : EV K w (tSl r te tl th) ds M k := fun H0 σ H F Q s e f => by
  refine h H0 σ H F _ s e fun x M1 vx H1 H2 p1 e1 s1 gx => ?_
  refine p1 H1 σ H2 F _ s1 (e.mono e1) fun lo M2 H3 H4 p2 e2 s2 => ?_
  refine p2 H3 σ H4 F _ s2 (e.mono (e1.trans e2)) fun hi M3 H5 H6 p3 e3 s3 => ?_
  exact p3 H5 vx H6 F Q s3 (Gx.mono (e2.trans e3) _ _ gx) fun d M' v H0' H' p e' => f d M' v H0' H' p (((e1.trans e2).trans e3).trans e')
def cutD {α : Type} (xs : List α) (lo hi : Option Int) : List α := (xs.drop (HT.sIx xs.length 0 lo)).take (HT.sIx xs.length xs.length hi - HT.sIx xs.length 0 lo)
theorem GxL.cut {H : Hp} {l : List D} {us : List V} (g : GxL K H l us) (lo hi : Option Int) : GxL K H (cutD l lo hi) (cutV us lo hi) := by
  unfold cutD cutV
  rw [g.len]
  exact GxL.take _ (GxL.drop _ g)
theorem rsl_list {l : List D} {lo hi : Option Int} (q : k (.lst (cutD l lo hi)) M) : RSl K w (rSlL K) (.lst l) lo hi M k := fun H0 vx H F Q s gx f => by
  obtain ⟨a, us, rfl, h1, gl⟩ := gx
  refine ⟨a, us, rfl, SqL.of (s.ex _ _ h1), fun p hp => ?_⟩
  have e0 := Ex.new (o := .lst (cutV us lo hi)) (fresh_back s.ex hp)
  exact f _ M _ _ _ q e0 (s.new hp) ⟨p, _, rfl, upd_same, GxL.mono e0 _ _ (gl.cut lo hi)⟩
theorem rsl_scr {l : List D} {lo hi : Option Int} (q : k (.lst (cutD l lo hi)) M) : RSl K w (rSlL K) (.scr l) lo hi M k := fun H0 vx H F Q s gx f => by
  obtain ⟨a, us, rfl, h1, gl⟩ := gx
  refine ⟨a, us, rfl, ex_l s.ex h1, fun p hp => ?_⟩
  have e0 := Ex.new (o := .lst (cutV us lo hi)) (fresh_back s.ex hp)
  exact f _ M _ _ _ q e0 (s.new hp) ⟨p, _, rfl, upd_same, GxL.mono e0 _ _ (gl.cut lo hi)⟩
theorem rsl_listM {p : Addr} {l : List D} {lo hi : Option Int} (hm : M p = some (.lst l)) (q : k (.lst (cutD l lo hi)) M) : RSl K w (rSlL K) (.adr p) lo hi M k := fun H0 vx H F Q s gx f => by
  obtain ⟨h1, ho, h2, us, rfl, gl⟩ := s.mu p _ hm
  refine ⟨p, us, gx, SqL.of h2, fun b hb => ?_⟩
  have e0 := Ex.new (o := .lst (cutV us lo hi)) (fresh_back s.ex hb)
  exact f _ M _ _ _ q e0 (s.new hb) ⟨b, _, rfl, upd_same, GxL.mono e0 _ _ (gl.cut lo hi)⟩
theorem rsl_tup {l : List D} {lo hi : Option Int} (q : k (.tup (cutD l lo hi)) M) : RSl K w (rSlA K) (.tup l) lo hi M k := fun H0 vx H F Q s gx f => by
  obtain ⟨a, us, rfl, h1, gl⟩ := gx
  refine ⟨a, us, rfl, SqT.of (s.ex _ _ h1), fun hw => ?_, fun _ p hp => ?_⟩
  · have e : cutD l lo hi = l := by
      unfold cutD
      rw [← gl.len, hw.1, hw.2, List.drop_zero, Nat.sub_zero, gl.len, List.take_length]
    rw [e] at q
    exact f _ M _ H0 H q (Ex.refl H0) s ⟨a, us, rfl, h1, gl⟩
  · have e0 := Ex.new (o := .tup (cutV us lo hi)) (fresh_back s.ex hp)
    exact f _ M _ _ _ q e0 (s.new hp) ⟨p, _, rfl, upd_same, GxL.mono e0 _ _ (gl.cut lo hi)⟩
theorem rsl_str {z : Str} {lo hi : Option Int} (hl : z.length ≤ sizeLine) (q : k (.str (cutS z lo hi)) M) : RSl K w rSlS (.str z) lo hi M k := fun H0 vx H F Q s gx f => ⟨z, gx, hl, f _ M _ H0 H q (Ex.refl H0) s rfl⟩
/-- s[::-1] -/
def tRevS (te : TE) : TE := fun σ H Q => te σ H fun x H1 => ∃ z : Str, x = .str z ∧ z.length ≤ sizeLine ∧ Q (.str ⟨z.cps.toList.reverse.toArray⟩) H1
theorem rev_signs (x : Str) (u : Tok) : Txt.sliceBy x none none (-1, u) = ⟨x.cps.toList.reverse.toArray⟩ := by
  have h := step_rev_list x u
  have e : ((List.range x.length).map fun k => x.cps.getD (x.length - 1 - k) 0) = x.cps.toList.reverse := by
    obtain ⟨⟨l⟩⟩ := x
    show ((List.range l.length).map fun k => (Array.mk l).getD (l.length - 1 - k) 0) = l.reverse
    apply List.ext_getElem?
    intro i
    by_cases hi : i < l.length
    · have h2 : l.length - 1 - i < l.length := by omega
      rw [List.getElem?_map, List.getElem?_range hi, List.getElem?_reverse hi, List.getElem?_eq_getElem h2]
      simp [Array.getD, h2]
    · rw [List.getElem?_eq_none (by simpa using hi), List.getElem?_eq_none (by rw [List.length_reverse]; omega)]
  rw [e] at h
  rw [← h]
theorem pe_revS {X : Cx} {e : Expr} {te : TE} {kk : Nat} {p1 p2 p3 pos : Pos} (he : PE X e te) : PE X (.Subscript e (.Slice none none (some (.UnaryOp .USub (.Constant (.int 1) kk p1) p2)) p3) pos) (tRevS te) := by
  refine ⟨fun pins s σ H Q I h => ?_⟩
  refine Subscript_ (thn (he.run pins s σ H _ I h) fun v s1 ⟨x, H1, I1, r1, q1⟩ => ?_)
  obtain ⟨z, ex, hz, q⟩ := q1
  subst ex
  obtain ⟨t, rfl⟩ := r1
  have hst : PO X (some (.UnaryOp .USub (.Constant (.int 1) kk p1) p2)) (tPart (tUn (rU fun i => .int (-i)) (tC (.int 1)))) := po_some (pe_un un_neg pe_int)
  refine wpAny_Slice (thn (po_none.run pins s1 σ H1 (fun o H2 => o = none ∧ H2 = H1) I1 ⟨rfl, rfl⟩) fun vl s2 ⟨l, H2, I2, pl, el, e2⟩ => ?_)
  subst el e2
  refine thn (po_none.run pins s2 σ H2 (fun o H3 => o = none ∧ H3 = H2) I2 ⟨rfl, rfl⟩) fun vu s3 ⟨u, H3, I3, pu, eu, e3⟩ => ?_
  subst eu e3
  refine thn (hst.run pins s3 σ H3 (fun o H4 => o = some (-1) ∧ H4 = H3) I3 ⟨1, rfl, -1, rfl, rfl, rfl⟩) fun vs s4 ⟨o, H4, I4, ps, eo, e4⟩ => ?_
  subst eo e4
  cases pl
  cases pu
  obtain ⟨ts, ps'⟩ : ∃ t, vs = Value.int (-1) t := by cases ps; exact ⟨_, rfl⟩
  subst ps'
  have I5 : Inv X pins σ H4 { s4 with heap := s4.heap.push { cls := .type "slice", data := .fields #[.none, .none, .int (-1) ts] } } := I4.kept (t' := s4.toks) fun b ob q => Heap.get?_push_of_some _ q
  refine tail_any (ops := [.str z t, .ref s4.heap.objs.size]) (typeIs_str _ z t) F.slot_str_getitem.lookup ?_ (by with_unfolding_all rfl)
  refine wpAny_getItem_str_slice (l := none) (u := none) (st := some (-1, ts)) ⟨_, Heap.get?_push_size _ rfl, rfl, rfl⟩ (show ((-1 : Int) == 0) = false by decide) ?_
  have hle := Txt.sliceBy_le z none none (-1, ts) (show (-1 : Int) ≠ 0 by decide)
  refine post_val_or_str ⟨Nat.le_trans hle hz, fun t' c => ?_⟩
  have e := rev_signs z ts
  show EP X pins σ Q (.str (Txt.sliceBy z none none (-1, ts)) t') _
  rw [e]
  exact ⟨.str _, H4, I5.tok c, ⟨_, rfl⟩, q⟩
theorem ev_revS (h : EV K w te ds M fun x M1 => ∃ z : Str, x = .str z ∧ z.length ≤ sizeLine ∧ k (.str ⟨z.cps.toList.reverse.toArray⟩) M1) : EV K w (tRevS te) ds M k := fun H0 σ H F Q s e f => by
  refine h H0 σ H F _ s e fun x M1 vx H1 H2 p1 e1 s1 gx => ?_
  obtain ⟨z, rfl, hz, p1⟩ := p1
  exact ⟨z, gx, hz, f _ M1 _ H1 H2 p1 e1 s1 rfl⟩
end
end PL

set_option Elab.async false
set_option linter.all false
set_option maxRecDepth 100000
set_option maxHeartbeats 4000000
/-! PLi: lists joined, deep ==, sorted, isinstance, list, tuple, min, index, abs, int, sum; texts joined, found, repeated. -/
namespace PL
open PySem PySem.Spec PyProof.Rows L2 Evl
theorem vals_get : ∀ {xs : List V} {us : List Value}, xs.length = us.length → (∀ (i : Nat) (x : V) (u : Value), xs[i]? = some x → us[i]? = some u → RelV x u) → Vals xs us
  | [], [], _, _ => .nil
  | [], _ :: _, h, _ => by simp at h
  | _ :: _, [], h, _ => by simp at h
  | x :: xs, u :: us, h, f => .cons (f 0 x u rfl rfl) (vals_get (by simpa using h) fun i a b h1 h2 => f (i + 1) a b (by simpa using h1) (by simpa using h2))
section
variable {K : PySem.W.Frag} {w : World} {ds : DS} {M : MH} {k : D → MH → Prop}
/-- a list told by data: one that stays, one that may change -/
def LsAt (M : MH) (x : D) (l : List D) : Prop := x = .lst l ∨ ∃ p, x = .adr p ∧ M p = some (.lst l)
theorem LsAt.f {M : MH} {l : List D} : LsAt M (.lst l) l := .inl rfl
theorem LsAt.m {M : MH} {p : Addr} {l : List D} (h : M p = some (.lst l)) : LsAt M (.adr p) l := .inr ⟨p, rfl, h⟩
theorem ls_at {H0 H F : Hp} {x : D} {l : List D} {v : V} (s : S4 K w H0 M F H) (h : LsAt M x l) (g : Gx K H0 x v) : ∃ p vs, v = .ref p ∧ H p = some (.lst vs) ∧ GxL K H0 l vs := by
  rcases h with rfl | ⟨p, rfl, hm⟩
  · obtain ⟨p, vs, rfl, h1, gl⟩ := g
    exact ⟨p, vs, rfl, s.ex _ _ h1, gl⟩
  · obtain ⟨h1, ho, h2, vs, rfl, gl⟩ := s.mu p _ hm
    exact ⟨p, vs, g, h2, gl⟩
theorem rd_cat {x y : D} {a b : List D} (hx : LsAt M x a) (hy : LsAt M y b) (hl : a.length + b.length ≤ sizeLine) (q : k (.lst (a ++ b)) M) : RD K w rCat x y M k := fun H0 vx vy H F Q s gx gy f => by
  obtain ⟨p, us, e1, h1, g1⟩ := ls_at s hx gx
  obtain ⟨p2, ws, e2, h2, g2⟩ := ls_at s hy gy
  refine ⟨p, p2, us, ws, e1, e2, h1, h2, by rw [g1.len, g2.len]; exact hl, fun c hc => ?_⟩
  have e0 := Ex.new (o := .lst (us ++ ws)) (fresh_back s.ex hc)
  exact f _ M _ _ _ q e0 (s.new hc) ⟨c, _, rfl, upd_same, GxL.mono e0 _ _ (g1.append g2)⟩
theorem rd_catM {x y : D} {a b : List D} (hx : LsAt M x a) (hy : LsAt M y b) (hl : a.length + b.length ≤ sizeLine) (q : ∀ p, M p = none → k (.adr p) (M.set p (.lst (a ++ b)))) : RD K w rCat x y M k := fun H0 vx vy H F Q s gx gy f => by
  obtain ⟨p, us, e1, h1, g1⟩ := ls_at s hx gx
  obtain ⟨p2, ws, e2, h2, g2⟩ := ls_at s hy gy
  refine ⟨p, p2, us, ws, e1, e2, h1, h2, by rw [g1.len, g2.len]; exact hl, fun c hc => ?_⟩
  exact f _ _ _ H0 _ (q c (s.noM hc)) (Ex.refl H0) (s.newM hc ⟨_, rfl, g1.append g2⟩) rfl
theorem rd_catT {a b : List D} (hl : a.length + b.length ≤ sizeLine) (q : k (.tup (a ++ b)) M) : RD K w (rCatA K) (.tup a) (.tup b) M k := fun H0 vx vy H F Q s gx gy f => by
  obtain ⟨p, us, e1, h1, g1⟩ := id gx
  obtain ⟨p2, ws, e2, h2, g2⟩ := id gy
  refine ⟨p, p2, us, ws, e1, e2, SqT.of (s.ex _ _ h1), SqT.of (s.ex _ _ h2), by rw [g1.len, g2.len]; exact hl, fun ea => ?_, fun _ eb => ?_, fun _ _ c hc => ?_⟩
  · have z : a = [] := List.eq_nil_of_length_eq_zero (by rw [← g1.len, ea]; rfl)
    subst z
    rw [← e2]
    exact f _ M _ H0 H q (Ex.refl H0) s gy
  · have z : b = [] := List.eq_nil_of_length_eq_zero (by rw [← g2.len, eb]; rfl)
    subst z
    rw [List.append_nil] at q
    rw [← e1]
    exact f _ M _ H0 H q (Ex.refl H0) s gx
  · have e0 := Ex.new (o := .tup (us ++ ws)) (fresh_back s.ex hc)
    exact f _ M _ _ _ q e0 (s.new hc) ⟨c, _, rfl, upd_same, GxL.mono e0 _ _ (g1.append g2)⟩

/-! ### deep == -/
mutual
def D.py : D → PyData
  | .non => .none
  | .bl b => .bool b
  | .int i => .int i
  | .str x => .str x
  | .tup l => .tuple (pyL l)
  | .lst l => .list (pyL l)
  | .ty _ | .adr _ | .scr _ | .dk _ _ | .ins _ _ _ => .none
def pyL : List D → List PyData
  | [] => []
  | d :: l => d.py :: pyL l
end
mutual
def D.pyOk : D → Bool
  | .non | .bl _ | .int _ | .str _ => true
  | .tup l => pyOkL l
  | .lst l => pyOkL l
  | .ty _ | .adr _ | .scr _ | .dk _ _ | .ins _ _ _ => false
def pyOkL : List D → Bool
  | [] => true
  | d :: l => d.pyOk && pyOkL l
end
mutual
theorem dp_of {H : Hp} : ∀ (d : D) (v : V), d.pyOk = true → Gx K H d v → Dp K H v d.py
  | .non, v, _, g => by rw [show v = V.non from g]; exact .non
  | .bl b, v, _, g => by rw [show v = V.bl b from g]; exact .bl b
  | .int b, v, _, g => by rw [show v = V.int b from g]; exact .int b
  | .str b, v, _, g => by rw [show v = V.str b from g]; exact .str b
  | .tup l, v, h, g => by
    obtain ⟨a, us, rfl, h1, gl⟩ := g
    exact .tup (SqT.of h1) (dpl_of l us h gl)
  | .lst l, v, h, g => by
    obtain ⟨a, us, rfl, h1, gl⟩ := g
    exact .lst (SqL.of h1) (dpl_of l us h gl)
  | .ty _, _, h, _ => by cases h
  | .adr _, _, h, _ => by cases h
  | .scr _, _, h, _ => by cases h
  | .dk _ _, _, h, _ => by cases h
  | .ins _ _ _, _, h, _ => by cases h
theorem dpl_of {H : Hp} : ∀ (l : List D) (vs : List V), pyOkL l = true → GxL K H l vs → DpAll K H vs (pyL l)
  | [], vs, _, g => by rw [show vs = [] from g]; exact .nil
  | d :: l, _, h, ⟨v, r, e, g1, g2⟩ => by
    subst e
    have h' : d.pyOk = true ∧ pyOkL l = true := by simpa [pyOkL] using h
    exact .cons (dp_of d v h'.1 g1) (dpl_of l r h'.2 g2)
end
theorem rd_eqD {x y : D} (h1 : x.pyOk = true) (h2 : y.pyOk = true) (h3 : SeqAt.shaped x.py = true) (h4 : SeqAt.shaped y.py = true) (q : k (.bl (PyData.eqv x.py y.py)) M) : RD K w (rEqD K) x y M k := fun H0 vx vy H F Q s gx gy f =>
  ⟨x.py, y.py, dp_of x vx h1 (Gx.mono s.ex _ _ gx), dp_of y vy h2 (Gx.mono s.ex _ _ gy), h3, h4, f _ M _ H0 H q (Ex.refl H0) s rfl⟩
theorem rd_neD {x y : D} (h1 : x.pyOk = true) (h2 : y.pyOk = true) (h3 : SeqAt.shaped x.py = true) (h4 : SeqAt.shaped y.py = true) (q : k (.bl (!PyData.eqv x.py y.py)) M) : RD K w (rNeD K) x y M k := fun H0 vx vy H F Q s gx gy f =>
  ⟨x.py, y.py, dp_of x vx h1 (Gx.mono s.ex _ _ gx), dp_of y vy h2 (Gx.mono s.ex _ _ gy), h3, h4, f _ M _ H0 H q (Ex.refl H0) s rfl⟩

/-! ### sorted -/
theorem GxL.perm {H : Hp} : ∀ {us vs : List V}, us.Perm vs → ∀ {l : List D}, GxL K H l vs → ∃ l', l'.Perm l ∧ GxL K H l' us := by
  intro us vs p
  induction p with
  | nil => intro l g; exact ⟨l, List.Perm.refl l, g⟩
  | cons x p ih =>
    intro l g
    cases l with
    | nil => cases (show _ = [] from g)
    | cons d l =>
      obtain ⟨v, r, e, g1, g2⟩ := g
      injection e with e1 e2
      subst e1 e2
      obtain ⟨l', p', g'⟩ := ih g2
      exact ⟨d :: l', p'.cons d, _, _, rfl, g1, g'⟩
  | swap x y r =>
    intro l g
    cases l with
    | nil => cases (show _ = [] from g)
    | cons d l =>
      obtain ⟨v, r1, e, g1, g2⟩ := g
      injection e with e1 e2
      subst e1 e2
      cases l with
      | nil => cases (show _ = [] from g2)
      | cons d2 l =>
        obtain ⟨v, r1, e, g3, g4⟩ := g2
        injection e with e1 e2
        subst e1 e2
        exact ⟨d2 :: d :: l, List.Perm.swap d d2 l, _, _, rfl, g3, _, _, rfl, g1, g4⟩
  | trans p1 p2 ih1 ih2 =>
    intro l g
    obtain ⟨l2, q2, g2⟩ := ih2 g
    obtain ⟨l1, q1, g1⟩ := ih1 g2
    exact ⟨l1, q1.trans q2, g1⟩
theorem ra_sortI {x : D} {ns : List Int} (hx : LsAt M x (ns.map D.int)) (hl : ns.length < 64) (q : ∀ ns' : List Int, ns'.Perm ns → ns'.Pairwise (· ≤ ·) → k (.lst (ns'.map D.int)) M) : RA K w (rSorted K) [x] M k := fun H0 vs H F Q s g f => by
  obtain ⟨v, rfl, gv⟩ := gxl1 g
  obtain ⟨p, us, rfl, h1, gl⟩ := ls_at s hx gv
  have e := gl.ints
  subst e
  refine ⟨p, ns, rfl, SqL.of h1, hl, fun ns' c hp hw hc => ?_⟩
  have e0 := Ex.new (o := .lst (ns'.map V.int)) (fresh_back s.ex hc)
  exact f _ M _ _ _ (q ns' hp hw) e0 (s.new hc) ⟨c, _, rfl, upd_same, GxL.mono e0 _ _ (GxL.ofInts ns')⟩
/-- a row of ints as a tuple -/
def rowD (ns : List Int) : D := .tup (ns.map D.int)
theorem ra_sortT {d : Nat} {B : Int} {x : D} {rows : List (List Int)} (hx : LsAt M x (rows.map rowD)) (hl : rows.length < 64) (hr : ∀ r ∈ rows, r.length = d ∧ TS.Bd B r) (q : ∀ rows' : List (List Int), rows'.Perm rows → k (.lst (rows'.map rowD)) M) : RA K w (rSortU K d B) [x] M k := fun H0 vs H F Q s g f => by
  obtain ⟨v, rfl, gv⟩ := gxl1 g
  obtain ⟨p, us, rfl, h1, gl⟩ := ls_at s hx gv
  have hlen : us.length = rows.length := by rw [gl.len, List.length_map]
  refine ⟨p, us, rfl, SqL.of h1, by rw [hlen]; exact hl, fun y hy => ?_, fun ys c hp _ hc => ?_⟩
  · obtain ⟨i, hi, e⟩ := List.getElem_of_mem hy
    have hir : i < rows.length := by omega
    have hd : (rows.map rowD)[i]? = some (rowD rows[i]) := by rw [List.getElem?_map, List.getElem?_eq_getElem hir]; rfl
    obtain ⟨v, hv, a, ws, rfl, h2, g2⟩ := gl.get hd
    have ev : y = V.ref a := by
      rw [List.getElem?_eq_getElem hi, e] at hv
      exact Option.some.inj hv
    have ew := g2.ints
    subst ew
    obtain ⟨r1, r2⟩ := hr rows[i] (List.getElem_mem hir)
    exact ⟨rows[i], ⟨a, ev, SqT.of (s.ex _ _ h2)⟩, r1, r2⟩
  · obtain ⟨l', p', g'⟩ := gl.perm hp
    obtain ⟨rows', e1, e2⟩ : ∃ rows' : List (List Int), l' = rows'.map rowD ∧ rows'.Perm rows := by
      have : ∀ (l' l : List D), l'.Perm l → ∀ rows : List (List Int), l = rows.map rowD → ∃ rows' : List (List Int), l' = rows'.map rowD ∧ rows'.Perm rows := by
        intro l' l hp
        induction hp with
        | nil => intro rows e; exact ⟨rows, e, List.Perm.refl _⟩
        | cons a p ih =>
          intro rows e
          cases rows with
          | nil => cases e
          | cons r rows =>
            injection e with e1 e2
            obtain ⟨rs, h1, h2⟩ := ih rows e2
            exact ⟨r :: rs, by rw [h1, e1]; rfl, h2.cons r⟩
        | swap a b l =>
          intro rows e
          cases rows with
          | nil => cases e
          | cons r rows =>
            injection e with e1 e2
            cases rows with
            | nil => cases e2
            | cons r2 rows =>
              injection e2 with e3 e4
              exact ⟨r2 :: r :: rows, by rw [e1, e3, e4]; rfl, List.Perm.swap r r2 rows⟩
        | trans p1 p2 ih1 ih2 =>
          intro rows e
          obtain ⟨rs, h1, h2⟩ := ih2 rows e
          obtain ⟨rs', h3, h4⟩ := ih1 rs h1
          exact ⟨rs', h3, h4.trans h2⟩
      exact this l' _ p' rows rfl
    have e0 := Ex.new (o := .lst ys) (fresh_back s.ex hc)
    refine f _ M _ _ _ (q rows' e2) e0 (s.new hc) ⟨c, ys, rfl, upd_same, ?_⟩
    rw [← e1]
    exact GxL.mono e0 _ _ g'

/-! ### isinstance -/
def D.tyn : D → Option String
  | .non => some "NoneType"
  | .bl _ => some "bool"
  | .int _ => some "int"
  | .str _ => some "str"
  | .tup _ => some "tuple"
  | .lst _ => some "list"
  | _ => none
theorem tyx_of {H0 H F : Hp} {d : D} {v : V} {T : String} (s : S4 K w H0 M F H) (h : d.tyn = some T) (g : Gx K H0 d v) : TyX K H v (.type T) := by
  cases d with
  | non => cases h; rw [show v = V.non from g]; exact .base .non
  | bl b => cases h; rw [show v = V.bl b from g]; exact .base (.bl b)
  | int b => cases h; rw [show v = V.int b from g]; exact .base (.int b)
  | str b => cases h; rw [show v = V.str b from g]; exact .base (.str b)
  | tup l =>
    cases h
    obtain ⟨a, us, rfl, h1, gl⟩ := g
    exact .base (.tup (s.ex _ _ h1))
  | lst l =>
    cases h
    obtain ⟨a, us, rfl, h1, gl⟩ := g
    exact .base (.lst (s.ex _ _ h1))
  | _ => cases h
theorem ra_isi {x : D} {T n : String} {b : Bool} (h : x.tyn = some T) (hb : kitB T n = some b) (q : k (.bl b) M) : RA K w (rIsi K) [x, .ty n] M k := fun H0 vs H F Q s g f => by
  obtain ⟨v, r, rfl, gv, g2⟩ := g
  obtain ⟨u, rfl, gu⟩ := gxl1 g2
  have gu' : u = .ty n := gu
  subst gu'
  exact ⟨v, .ty n, .type T, .type n, b, rfl, .ty n, tyx_of s h gv, kit_ty hb, f _ M _ H0 H q (Ex.refl H0) s rfl⟩

/-! ### list(x), tuple(x) -/
def rListOf (K : PySem.W.Frag) : List V → Hp → VK → Prop := fun xs H Q => ∃ p ys, xs = [.ref p] ∧ (SqL K H p ys ∨ SqT K H p ys) ∧ ∀ l, H l = none → Q (.ref l) (upd H l (.lst ys))
def rTupOf (K : PySem.W.Frag) : List V → Hp → VK → Prop := fun xs H Q => ∃ p ys, xs = [.ref p] ∧ ((SqL K H p ys ∧ ∀ l, H l = none → Q (.ref l) (upd H l (.tup ys))) ∨ (SqT K H p ys ∧ Q (.ref p) H))
theorem cb_list {X : Cx} : CallR X (.type "list") (rListOf X.K) := call_list_of
theorem cb_tuple {X : Cx} : CallR X (.type "tuple") (rTupOf X.K) := call_tuple_of
/-- what list(x) copies -/
def SeqD (M : MH) (x : D) (l : List D) : Prop := LsAt M x l ∨ x = .tup l
theorem seq_at {H0 H F : Hp} {x : D} {l : List D} {v : V} (s : S4 K w H0 M F H) (h : SeqD M x l) (g : Gx K H0 x v) : ∃ p vs, v = .ref p ∧ (SqL K H p vs ∨ SqT K H p vs) ∧ GxL K H0 l vs := by
  rcases h with h | rfl
  · obtain ⟨p, vs, e, h1, gl⟩ := ls_at s h g
    exact ⟨p, vs, e, .inl (SqL.of h1), gl⟩
  · obtain ⟨p, vs, rfl, h1, gl⟩ := g
    exact ⟨p, vs, rfl, .inr (SqT.of (s.ex _ _ h1)), gl⟩
theorem ra_list {x : D} {l : List D} (hx : SeqD M x l) (q : k (.lst l) M) : RA K w (rListOf K) [x] M k := fun H0 vs H F Q s g f => by
  obtain ⟨v, rfl, gv⟩ := gxl1 g
  obtain ⟨p, us, rfl, h1, gl⟩ := seq_at s hx gv
  refine ⟨p, us, rfl, h1, fun c hc => ?_⟩
  have e0 := Ex.new (o := .lst us) (fresh_back s.ex hc)
  exact f _ M _ _ _ q e0 (s.new hc) ⟨c, us, rfl, upd_same, GxL.mono e0 _ _ gl⟩
theorem ra_listM {x : D} {l : List D} (hx : SeqD M x l) (q : ∀ p, M p = none → k (.adr p) (M.set p (.lst l))) : RA K w (rListOf K) [x] M k := fun H0 vs H F Q s g f => by
  obtain ⟨v, rfl, gv⟩ := gxl1 g
  obtain ⟨p, us, rfl, h1, gl⟩ := seq_at s hx gv
  exact ⟨p, us, rfl, h1, fun c hc => f _ _ _ H0 _ (q c (s.noM hc)) (Ex.refl H0) (s.newM hc ⟨us, rfl, gl⟩) rfl⟩
theorem ra_tuple {x : D} {l : List D} (hx : LsAt M x l) (q : k (.tup l) M) : RA K w (rTupOf K) [x] M k := fun H0 vs H F Q s g f => by
  obtain ⟨v, rfl, gv⟩ := gxl1 g
  obtain ⟨p, us, rfl, h1, gl⟩ := ls_at s hx gv
  refine ⟨p, us, rfl, .inl ⟨SqL.of h1, fun c hc => ?_⟩⟩
  have e0 := Ex.new (o := .tup us) (fresh_back s.ex hc)
  exact f _ M _ _ _ q e0 (s.new hc) ⟨c, us, rfl, upd_same, GxL.mono e0 _ _ gl⟩
/-- list(text) -/
theorem cb_listS {X : Cx} (hc : X.calm = true) : CallR X (.type "list") (fun xs H Q => ∃ z : Str, xs = [.str z] ∧ z.length ≤ sizeLine ∧ ∀ l, H l = none → Q (.ref l) (upd H l (.lst (z.cps.toList.map fun c => V.str ⟨#[c]⟩)))) := by
  intro pins s σ H xs us Q I r h
  obtain ⟨z, rfl, hz, q⟩ := h
  cases r with
  | cons r1 rr =>
    cases rr
    obtain ⟨t, rfl⟩ := r1
    refine PySem.call_list_str (I.ok.hd hc) z t (hn := hz) fun h' tk acc c hk hS hacc => ?_
    obtain ⟨hsz, hit⟩ := hacc
    have hv : Vals (z.cps.toList.map fun c => V.str ⟨#[c]⟩) acc.toList := by
      refine vals_get ?_ fun i x u h1 h2 => ?_
      · rw [List.length_map, Array.length_toList, Array.length_toList]; exact hsz.symm
      · obtain ⟨cc, t', e1, e2⟩ := hit i u (by simpa using h2)
        rw [List.getElem?_map, Array.getElem?_toList, e1] at h1
        cases h1
        exact ⟨t', e2⟩
    refine ⟨.ref s.heap.objs.size, _, I.laid (t' := tk) (o := .lst (z.cps.toList.map fun c => V.str ⟨#[c]⟩)) hk (Nat.le_refl _) ?_, rfl, q _ (I.hok.fresh (Nat.le_refl _))⟩
    refine ⟨by rw [List.length_map, Array.length_toList]; exact hz, acc.toList, c, hv, ?_⟩
    rw [hS, Array.toArray_toList]
theorem ra_listS {z : Str} (hl : z.length ≤ sizeLine) (q : k (.lst (signs z)) M) : RA K w (fun xs H Q => ∃ z : Str, xs = [.str z] ∧ z.length ≤ sizeLine ∧ ∀ l, H l = none → Q (.ref l) (upd H l (.lst (z.cps.toList.map fun c => V.str ⟨#[c]⟩)))) [.str z] M k := fun H0 vs H F Q s g f => by
  obtain ⟨v, rfl, gv⟩ := gxl1 g
  refine ⟨z, by rw [show v = V.str z from gv], hl, fun c hc => ?_⟩
  have e0 := Ex.new (o := .lst (z.cps.toList.map fun c => V.str ⟨#[c]⟩)) (fresh_back s.ex hc)
  refine f _ M _ _ _ q e0 (s.new hc) ⟨c, _, rfl, upd_same, ?_⟩
  have : ∀ (H : Hp) (l : List Nat), GxL K H (l.map fun c => D.str ⟨#[c]⟩) (l.map fun c => V.str ⟨#[c]⟩) := fun H l => by
    induction l with
    | nil => exact rfl
    | cons x l ih => exact ⟨_, _, rfl, rfl, ih⟩
  exact this _ _
/-! ### numbers -/
theorem ra_abs {i : Int} (q : k (.int (if i < 0 then -i else i)) M) : RA K w (fun xs H Q => ∃ i, xs = [V.int i] ∧ Q (.int (if i < 0 then -i else i)) H) [.int i] M k := fun H0 vs H F Q s g f => by
  obtain ⟨v, rfl, gv⟩ := gxl1 g
  exact ⟨i, by rw [show v = V.int i from gv], f _ M _ H0 H q (Ex.refl H0) s rfl⟩
theorem ra_int {i : Int} (q : k (.int i) M) : RA K w (fun xs H Q => (∃ i, xs = [V.int i] ∧ Q (.int i) H) ∨ ∃ k, xs = [V.bl k] ∧ Q (.int (if k then 1 else 0)) H) [.int i] M k := fun H0 vs H F Q s g f => by
  obtain ⟨v, rfl, gv⟩ := gxl1 g
  exact .inl ⟨i, by rw [show v = V.int i from gv], f _ M _ H0 H q (Ex.refl H0) s rfl⟩
theorem ra_intb {b : Bool} (q : k (.int (if b then 1 else 0)) M) : RA K w (fun xs H Q => (∃ i, xs = [V.int i] ∧ Q (.int i) H) ∨ ∃ k, xs = [V.bl k] ∧ Q (.int (if k then 1 else 0)) H) [.bl b] M k := fun H0 vs H F Q s g f => by
  obtain ⟨v, rfl, gv⟩ := gxl1 g
  exact .inr ⟨b, by rw [show v = V.bl b from gv], f _ M _ H0 H q (Ex.refl H0) s rfl⟩
theorem ra_sum {x : D} {ns : List Int} (hx : LsAt M x (ns.map D.int)) (q : k (.int ns.sum) M) : RA K w (rSum K) [x] M k := fun H0 vs H F Q s g f => by
  obtain ⟨v, rfl, gv⟩ := gxl1 g
  obtain ⟨p, us, rfl, h1, gl⟩ := ls_at s hx gv
  have e := gl.ints
  subst e
  exact ⟨p, ns, rfl, SqL.of h1, f _ M _ H0 H q (Ex.refl H0) s rfl⟩
theorem ra_min {x : D} {ns : List Int} (hx : LsAt M x (ns.map D.int)) (h0 : 0 < ns.length) (q : ∀ m, m ∈ ns → (∀ y, y ∈ ns → m ≤ y) → k (.int m) M) : RA K w (rMin K) [x] M k := fun H0 vs H F Q s g f => by
  obtain ⟨v, rfl, gv⟩ := gxl1 g
  obtain ⟨p, us, rfl, h1, gl⟩ := ls_at s hx gv
  have e := gl.ints
  subst e
  exact ⟨p, ns, rfl, SqL.of h1, h0, fun m h1 h2 => f _ M _ H0 H (q m h1 h2) (Ex.refl H0) s rfl⟩
theorem ra_max {x : D} {ns : List Int} (hx : LsAt M x (ns.map D.int)) (h0 : 0 < ns.length) (q : ∀ m, m ∈ ns → (∀ y, y ∈ ns → y ≤ m) → k (.int m) M) : RA K w (rMax K) [x] M k := fun H0 vs H F Q s g f => by
  obtain ⟨v, rfl, gv⟩ := gxl1 g
  obtain ⟨p, us, rfl, h1, gl⟩ := ls_at s hx gv
  have e := gl.ints
  subst e
  exact ⟨p, ns, rfl, SqL.of h1, h0, fun m h1 h2 => f _ M _ H0 H (q m h1 h2) (Ex.refl H0) s rfl⟩
theorem eqV_int (a b : Int) : eqV (.int a) (.int b) = (a == b) := rfl
theorem flat_ints (ns : List Int) : (ns.map V.int).all flatV = true := by
  rw [List.all_map]; exact List.all_eq_true.mpr fun _ _ => rfl
/-- xs.index(i) -/
theorem rm_index {x : D} {ns : List Int} {i : Int} {j : Nat} (hx : LsAt M x (ns.map D.int)) (hj : ns[j]? = some i) (hf : ∀ m, m < j → ns[m]? ≠ some i) (q : k (.int (j : Nat)) M) : RM K w (rIndex K) x [.int i] M k := fun H0 vx vs H F Q s gx g f => by
  obtain ⟨u, rfl, gu⟩ := gxl1 g
  have gu' : u = .int i := gu
  subst gu'
  obtain ⟨p, us, rfl, h1, gl⟩ := ls_at s hx gx
  have e := gl.ints
  subst e
  refine ⟨p, _, .int i, j, .int i, rfl, rfl, SqL.of h1, rfl, flat_ints ns, ?_, ?_, fun m z hm hz => ?_, f _ M _ H0 H q (Ex.refl H0) s rfl⟩
  · rw [List.getElem?_map, hj]; rfl
  · rw [eqV_int]; exact beq_self_eq_true i
  · rw [List.getElem?_map] at hz
    cases e : ns[m]? with
    | none => rw [e] at hz; cases hz
    | some a =>
      rw [e] at hz; cases hz
      rw [eqV_int]
      exact beq_eq_false_iff_ne.mpr fun z => hf m hm (by rw [e, z])

/-! ### texts -/
def rJoin (K : PySem.W.Frag) : V → List V → Hp → VK → Prop := fun x xs H Q => ∃ a p, ∃ ys : List Str, x = .str a ∧ xs = [.ref p] ∧ (SqL K H p (ys.map V.str) ∨ SqT K H p (ys.map V.str)) ∧ (ys.map (·.length)).sum + ys.length * a.length ≤ 16777216 ∧ Q (.str (Txt.join a ys)) H
theorem mt_joinA {X : Cx} : MtR X "str.join" (rJoin X.K) := mt_join
theorem rm_join {a : Str} {x : D} {ys : List Str} (hx : LsAt M x (ys.map D.str)) (hl : (ys.map (·.length)).sum + ys.length * a.length ≤ 16777216) (q : k (.str (Txt.join a ys)) M) : RM K w (rJoin K) (.str a) [x] M k := fun H0 vx vs H F Q s gx g f => by
  obtain ⟨u, rfl, gu⟩ := gxl1 g
  obtain ⟨p, us, rfl, h1, gl⟩ := ls_at s hx gu
  have e := gl.strs
  subst e
  exact ⟨a, p, ys, gx, rfl, .inl (SqL.of h1), hl, f _ M _ H0 H q (Ex.refl H0) s rfl⟩
def rSIndex : V → List V → Hp → VK → Prop := fun x xs H Q => ∃ a b i rest, x = .str a ∧ xs = [.str b] ∧ Builtin.Str.occurrences a b 0 a.length 1 = i :: rest ∧ Q (.int (i : Nat)) H
theorem mt_sindexA {X : Cx} : MtR X "str.index" rSIndex := mt_sindex
theorem rm_sindex {a b : Str} {i : Nat} {rest : List Nat} (h : Builtin.Str.occurrences a b 0 a.length 1 = i :: rest) (q : k (.int (i : Nat)) M) : RM K w rSIndex (.str a) [.str b] M k := fun H0 vx vs H F Q s gx g f => by
  obtain ⟨u, rfl, gu⟩ := gxl1 g
  exact ⟨a, b, i, rest, gx, by rw [show u = V.str b from gu], h, f _ M _ H0 H q (Ex.refl H0) s rfl⟩
/-- text * n -/
def repS (x : Str) (n : Int) : Str := ⟨(List.replicate n.toNat x.cps.toList).flatten.toArray⟩
def rMulS : R2 := fun x y H Q => ∃ z n, x = .str z ∧ y = .int n ∧ 0 ≤ n ∧ n ≤ 1000 ∧ z.length ≤ 1000 ∧ Q (.str (repS z n)) H
theorem fold_cps (l : List (Array Nat)) : ∀ acc : Array Nat, (l.foldl (· ++ ·) acc) = acc ++ (l.map Array.toList).flatten.toArray := by
  induction l with
  | nil => intro acc; simp
  | cons a l ih =>
    intro acc
    obtain ⟨a⟩ := a
    obtain ⟨acc⟩ := acc
    rw [List.foldl_cons, ih]
    simp
theorem op_mulS {X : Cx} : OpR X (binaryOp .Mult) rMulS := by
  intro pins s σ H x y v u Q I rx ry h
  obtain ⟨z, n, rfl, rfl, h0, h1, h2, q⟩ := h
  obtain ⟨t, rfl⟩ := rx
  obtain ⟨t', rfl⟩ := ry
  have fin : ∀ (t1 : Tok) (c : Nat), EP X pins σ Q (.str (repS z n) t1) { s with toks := c } := fun t1 c => ⟨.str _, H, I.tok c, ⟨t1, rfl⟩, q⟩
  have e3 : (⟨(List.replicate n.toNat z.cps).foldl (· ++ ·) #[]⟩ : Str) = repS z n := by
    rw [fold_cps]
    unfold repS
    simp
  refine P.mul_str ?_ (fun a b => ?_) (fun a b => ?_) ?_
  · have a1 : ¬ n < -(2 ^ 63 : Int) := by omega
    have a2 : ¬ n ≥ 2 ^ 63 := by omega
    rw [decide_eq_false a1, decide_eq_false a2]; rfl
  · have b1 : n ≠ 1 := fun e => by rw [e] at b; simp at b
    have a0 : 0 < n := by omega
    intro hgt
    have h3 : (2 ^ 63 - 1 : Int) / n ≥ 1000 := by
      refine Int.le_ediv_of_mul_le a0 ?_
      have : 1000 * n ≤ 1000 * 1000 := Int.mul_le_mul_of_nonneg_left h1 (by decide)
      omega
    omega
  · have h3 : z.length * n.toNat ≤ 1000 * 1000 := Nat.mul_le_mul h2 (by omega)
    unfold Builtin.Str.tooLong
    exact decide_eq_false (by rw [sizeLine_eq]; omega)
  · by_cases c1 : n < 1
    · have en : n = 0 := by omega
      subst en
      rw [if_pos c1]
      have e0 : repS z 0 = Str.empty := rfl
      exact ⟨by decide, by have := fin s.toks (s.toks + 1); rw [e0] at this; exact this⟩
    · rw [if_neg c1]
      by_cases c2 : (n == 1 || z.length == 0) = true
      · rw [if_pos c2]
        have e1 : repS z n = z := by
          rcases (Bool.or_eq_true _ _).mp c2 with z1 | z1
          · have : n = 1 := eq_of_beq z1
            subst this
            obtain ⟨⟨l⟩⟩ := z
            unfold repS
            simp
          · have hz : z.cps.toList = [] := by
              have : z.length = 0 := eq_of_beq z1
              have h4 : z.cps.toList.length = 0 := by rw [Array.length_toList]; exact this
              exact List.eq_nil_of_length_eq_zero h4
            obtain ⟨⟨l⟩⟩ := z
            have hl : l = [] := hz
            subst hl
            unfold repS
            simp
        have := fin t s.toks
        rw [e1] at this
        exact this
      · rw [if_neg c2]
        rw [e3]
        refine ⟨?_, fin s.toks (s.toks + 1)⟩
        have h3 : z.cps.toList.length * n.toNat ≤ 1000 * 1000 := Nat.mul_le_mul (by rw [Array.length_toList]; exact h2) (by omega)
        have h4 : (repS z n).length = n.toNat * z.cps.toList.length := by
          show (repS z n).cps.size = _
          unfold repS
          rw [List.size_toArray, List.length_flatten, List.map_replicate, List.sum_replicate_nat]
        rw [h4, Nat.mul_comm, sizeLine_eq]; omega
theorem rd_mulS {z : Str} {n : Int} (h0 : 0 ≤ n ∧ n ≤ 1000) (h2 : z.length ≤ 1000) (q : k (.str (repS z n)) M) : RD K w rMulS (.str z) (.int n) M k := fun H0 vx vy H F Q s gx gy f => ⟨z, n, gx, gy, h0.1, h0.2, h2, f _ M _ H0 H q (Ex.refl H0) s rfl⟩
end
end PL

set_option Elab.async false
set_option linter.all false
set_option maxRecDepth 100000
set_option maxHeartbeats 4000000
/-! PLj: a def's start, great numbers, displays, written dicts, == of dicts of one entry, a dict comprehension stored. -/
namespace PL
open PySem PySem.Spec PyProof.Rows L2 Evl

/-! ### a def's body from its promise -/
theorem En.start {K : PySem.W.Frag} {H : Hp} : ∀ {l : List D} {vs : List V} (r : List (Option V)), GxL K H l vs → En K H (l.map some ++ r.map fun _ => Option.none) (vs.map some ++ r)
  | [], vs, r, h => by
    have h' : vs = [] := h
    subst h'
    refine ⟨by simp, fun i d q => ?_⟩
    simp at q
  | d :: l, _, r, ⟨v, s, e, g1, g2⟩ => by
    subst e
    obtain ⟨i1, i2⟩ := En.start r g2
    refine ⟨by simpa using i1, fun i e q => ?_⟩
    cases i with
    | zero =>
      have q' : d = e := by simpa using q
      subst q'
      exact ⟨v, rfl, g1⟩
    | succ i => exact i2 i e (by simpa using q)
theorem go {K : PySem.W.Frag} {w : World} {f : Spec} {N : List Str} {t : TS} {vs : List V} {H : Hp} {Q : VK} {E : XK} (h : SpD K w f vs H Q E)
    (hs : ∀ l M k, f l M k → SW K w t (l.map some ++ List.replicate (N.length - l.length) none) M { nx := fun _ M' => k .non M', rt := k }) : t { nx := fun _ H' => Q .non H', rt := Q } (L2.start N vs) H := by
  obtain ⟨H0, l, M, F, k, s, g, p, q⟩ := h
  have e : l.map some ++ List.replicate (N.length - l.length) (none : Option D) = l.map some ++ (List.replicate (N.length - vs.length) (none : Option V)).map fun _ => Option.none := by
    rw [List.map_replicate, g.len]
  have := hs l M k p
  rw [e] at this
  refine this H0 _ H F _ s (En.start _ g) ⟨?_, ?_, ?_, ?_⟩
  · exact fun ds M' H0' σ H' p' e' s' _ => q .non M' .non H0' H' p' e' s' rfl
  · exact fun d M' v H0' H' p' e' s' g' => q d M' v H0' H' p' e' s' g'
  · exact fun ds M' H0' σ H' p' _ _ _ => p'.elim
  · exact fun ds M' H0' σ H' p' _ _ _ => p'.elim
theorem SpD.len {K : PySem.W.Frag} {w : World} {f : Spec} {n : Nat} (hf : ∀ l M k, f l M k → l.length = n) {vs : List V} {H : Hp} {Q : VK} {E : XK} (h : SpD K w f vs H Q E) : vs.length = n := by
  obtain ⟨H0, l, M, F, k, s, g, p, q⟩ := h
  rw [g.len, hf l M k p]

section
variable {K : PySem.W.Frag} {w : World} {ds : DS} {M : MH} {k : D → MH → Prop}
/-! ### written dicts with text keys, their values tuples of ints -/
structure KTab (K : PySem.W.Frag) (w : World) (p : Addr) (tab : Str → Option (List Int)) : Prop where
  yes : ∀ z ns, tab z = some ns → (∃ r, PySem.W.nsIn K p z = some (some r)) ∧ ∃ a, KDct K w p z (.ref a) ∧ ∀ H, SqT K H a (ns.map V.int)
  no : ∀ z, tab z = none → PySem.W.nsIn K p z = some none
def rInKD (K : PySem.W.Frag) (d : Addr) : R2 := fun x y H Q => ∃ (z : Str) (r : Option Value), x = .str z ∧ y = .ref d ∧ PySem.W.nsIn K d z = some r ∧ Q (.bl r.isSome) H
theorem rd_inKD {p : Addr} {tab : Str → Option (List Int)} {z : Str} (T : KTab K w p tab) (q : k (.bl (tab z).isSome) M) : RD K w (rInKD K p) (.str z) (.adr p) M k := fun H0 vx vy H F Q s gx gy f => by
  cases e : tab z with
  | none =>
    rw [e] at q
    exact ⟨z, none, gx, gy, T.no z e, f _ M _ H0 H q (Ex.refl H0) s rfl⟩
  | some ns =>
    rw [e] at q
    obtain ⟨⟨r, hr⟩, _⟩ := T.yes z ns e
    exact ⟨z, some r, gx, gy, hr, f _ M _ H0 H q (Ex.refl H0) s rfl⟩
theorem ev_kd2 {p : Addr} {tab : Str → Option (List Int)} {te ti : TE} (T : KTab K w p tab) (h : EV K w te ds M fun x M1 => ∃ z ns, x = .str z ∧ tab z = some ns ∧ EV K w ti ds M1 fun y M2 => ∃ i n, y = .int i ∧ atI ns i = some n ∧ k (.int n) M2) : EV K w (tOp (rIxT K) (tOp (rIxD K w) (tC (.ref p)) te) ti) ds M k := fun H0 σ H F Q s e f => by
  show te σ H fun y H1 => rIxD K w (.ref p) y H1 fun x2 H2 => ti σ H2 fun y2 H3 => rIxT K x2 y2 H3 Q
  refine h H0 σ H F _ s e fun x M1 vx H1 H2 q e1 s1 gx => ?_
  obtain ⟨z, ns, rfl, hn, q⟩ := q
  have hz : vx = .str z := gx
  subst hz
  obtain ⟨_, a, ha, hs⟩ := T.yes z ns hn
  refine ⟨p, z, .ref a, rfl, rfl, ha, ?_⟩
  refine q H1 σ H2 F _ s1 (e.mono e1) fun y M2 vy H3 H4 q2 e2 s2 gy => ?_
  obtain ⟨i, n, rfl, hi, q2⟩ := q2
  refine ⟨a, ns.map V.int, i, .int n, rfl, gy, hs H4, ?_, f _ M2 _ H3 H4 q2 (e1.trans e2) s2 rfl⟩
  unfold atI at hi ⊢
  rw [List.length_map]
  cases e : ixN ns.length i with
  | none => rw [e] at hi; cases hi
  | some j =>
    rw [e] at hi
    have hi' : ns[j]? = some n := hi
    show (ns.map V.int)[j]? = _
    rw [List.getElem?_map, hi']; rfl

/-! ### displays of dicts -/
def DP (K : PySem.W.Frag) (w : World) : List (TE × TE) → DS → MH → (List (D × D) → MH → Prop) → Prop
  | [], _, M, q => q [] M
  | (tk, tv) :: r, ds, M, q => EV K w tk ds M fun x M1 => EV K w tv ds M1 fun y M2 => DP K w r ds M2 fun ps M3 => q ((x, y) :: ps) M3
theorem dp_run : ∀ {trs : List (TE × TE)} {M : MH} {q : List (D × D) → MH → Prop}, DP K w trs ds M q → ∀ (H0 : Hp) (σ : L2.St) (H F : Hp) (Q : List (V × V) → Hp → Prop), S4 K w H0 M F H → En K H0 ds σ →
    (∀ ps M' us H0' H', q ps M' → Ex H0 H0' → S4 K w H0' M' F H' → GxL K H0' (ps.map (·.1)) (us.map (·.1)) → GxL K H0' (ps.map (·.2)) (us.map (·.2)) → Q us H') → tPairs trs σ H Q
  | [], M, q, h, H0, σ, H, F, Q, s, e, f => f [] M [] H0 H h (Ex.refl H0) s rfl rfl
  | (tk, tv) :: r, M, q, h, H0, σ, H, F, Q, s, e, f => by
    refine h H0 σ H F _ s e fun x M1 vx H1 H2 q1 e1 s1 gx => ?_
    refine q1 H1 σ H2 F _ s1 (e.mono e1) fun y M2 vy H3 H4 q2 e2 s2 gy => ?_
    refine dp_run q2 H3 σ H4 F _ s2 (e.mono (e1.trans e2)) fun ps M3 us H5 H6 q3 e3 s3 g1 g2 => ?_
    exact f _ M3 _ H5 H6 q3 ((e1.trans e2).trans e3) s3 ⟨vx, _, rfl, Gx.mono (e2.trans e3) _ _ gx, g1⟩ ⟨vy, _, rfl, Gx.mono e3 _ _ gy, g2⟩
theorem dp_mono : ∀ {trs : List (TE × TE)} {M : MH} {q q' : List (D × D) → MH → Prop}, DP K w trs ds M q → (∀ ps M', q ps M' → q' ps M') → DP K w trs ds M q'
  | [], M, q, q', h, f => f _ _ h
  | (tk, tv) :: r, M, q, q', h, f => EV.mono h fun x M1 h1 => EV.mono h1 fun y M2 h2 => dp_mono h2 fun ps M3 h3 => f _ _ h3
def mergeM {κ : Type} [DecidableEq κ] (acc : List (κ × D)) (kvs : List (κ × D)) : List (κ × D) := kvs.foldl (fun a x => putM a x.1 x.2) acc
theorem valM_none {κ : Type} [DecidableEq κ] {kvs : List (κ × D)} {k : κ} (h : k ∉ kvs.map (·.1)) : valM kvs k = none := by
  induction kvs with
  | nil => rfl
  | cons x r ih =>
    rw [List.map_cons, List.mem_cons, not_or] at h
    rw [valM_cons, if_neg fun e => h.1 e.symm, ih h.2]
theorem mergeM_app {κ : Type} [DecidableEq κ] : ∀ (kvs acc : List (κ × D)), ((acc ++ kvs).map (·.1)).Nodup → mergeM acc kvs = acc ++ kvs
  | [], acc, _ => by unfold mergeM; simp
  | x :: r, acc, h => by
    have h2 : ((acc ++ [x] ++ r).map (·.1)).Nodup := by simpa using h
    have hn : x.1 ∉ acc.map (·.1) := by
      rw [List.map_append, List.map_cons] at h
      have := (List.nodup_append.mp h).2.2
      exact fun z => this x.1 z x.1 List.mem_cons_self rfl
    have := mergeM_app r (acc ++ [x]) h2
    unfold mergeM at this ⊢
    rw [List.foldl_cons, putM_new (valM_none hn)]
    rw [List.append_assoc] at this
    exact this
theorem mergeM_nil {κ : Type} [DecidableEq κ] {kvs : List (κ × D)} (h : (kvs.map (·.1)).Nodup) : mergeM [] kvs = kvs := mergeM_app kvs [] h
theorem zip_merge {H : Hp} : ∀ {kvs acc : List (Key × D)} {us vs : List V}, GxL K H (acc.map (·.2)) us → GxL K H (kvs.map (·.2)) vs →
    ∃ ws, mergeK ((acc.map (·.1)).zip us) ((kvs.map (·.1)).zip vs) = ((mergeM acc kvs).map (·.1)).zip ws ∧ GxL K H ((mergeM acc kvs).map (·.2)) ws
  | [], acc, us, vs, g1, g2 => ⟨us, rfl, g1⟩
  | x :: r, acc, us, _, g1, ⟨v, vs, e, g2, g3⟩ => by
    subst e
    obtain ⟨us', h1, h2⟩ := zipV_put (k := x.1) g2 g1
    obtain ⟨ws, h3, h4⟩ := zip_merge (kvs := r) h2 g3
    refine ⟨ws, ?_, h4⟩
    rw [← h1] at h3
    exact h3
theorem pairs_of {H : Hp} : ∀ {kvs : List (Key × D)} {us : List (V × V)}, GxL K H (kvs.map fun x => kD x.1) (us.map (·.1)) → GxL K H (kvs.map (·.2)) (us.map (·.2)) →
    us = ((kvs.map (·.1)).zip (us.map (·.2))).map fun kv => (kV kv.1, kv.2)
  | [], us, h, _ => by
    have h' : us.map (·.1) = [] := h
    have : us = [] := by simpa using h'
    rw [this]; rfl
  | x :: r, [], ⟨v, s, e, _, _⟩, _ => by cases e
  | x :: r, u :: us, ⟨v, s, e, g1, g2⟩, ⟨v2, s2, e2, g3, g4⟩ => by
    rw [List.map_cons] at e e2
    injection e with e3 e4
    injection e2 with e5 e6
    subst e4 e6
    have ih := pairs_of (kvs := r) g2 g4
    obtain ⟨a, b⟩ := u
    have e3' : a = v := e3
    subst e3'
    show (a, b) :: us = (kV x.1, b) :: _
    rw [← g1.key]
    exact congrArg _ ih
theorem F_none {H0 H F : Hp} {p : Addr} (s : S4 K w H0 M F H) (hp : H p = none) : F p = none := by
  cases q : F p with
  | none => rfl
  | some o =>
    have z := (s.fr p o q).2.2
    rw [hp] at z; cases z
/-- {k: v, ..}, keys ints or texts: one that stays, one that may change -/
theorem ev_dispG {trs : List (TE × TE)} (h : DP K w trs ds M fun ps M1 => ∃ kvs : List (Key × D), ps = kvs.map (fun x => (kD x.1, x.2)) ∧ kvs.length ≤ 15 ∧ (kvs.map (·.1)).Nodup ∧ (k (.dk (kvs.map (·.1)) (kvs.map (·.2))) M1 ∨ ∀ p, M1 p = none → k (.adr p) (M1.set p (.dk kvs)))) : EV K w (tDisp trs) ds M k := fun H0 σ H F Q s e f => by
  intro p hp
  have hF := F_none s hp
  refine dp_run h H0 σ _ (Fs F p (.dK [])) _ (s.toF hp) e fun ps M1 us H1 H2 q e1 s1 g1 g2 => ?_
  obtain ⟨kvs, rfl, hl, nd, q⟩ := q
  rw [List.map_map] at g1 g2
  have g2' : GxL K H1 (kvs.map (·.2)) (us.map (·.2)) := g2
  have eu := pairs_of (kvs := kvs) g1 g2'
  obtain ⟨ws, z1, z2⟩ := zip_merge (acc := []) (us := []) (show GxL K H1 [] [] from rfl) g2'
  rw [mergeM_nil nd] at z1 z2
  refine ⟨s1.atF.2.2, (kvs.map (·.1)).zip (us.map (·.2)), eu, by rw [List.length_zip, List.length_map]; omega, ?_⟩
  have z1' : mergeK [] ((kvs.map (·.1)).zip (us.map (·.2))) = (kvs.map (·.1)).zip ws := z1
  rw [z1']
  have s2 : S4 K w H1 M1 (Fs F p (.dK ((kvs.map (·.1)).zip ws))) (upd H2 p (.dK ((kvs.map (·.1)).zip ws))) := s1.frU
  rcases q with q | q
  · have e0 : Ex H1 (upd H1 p (.dK ((kvs.map (·.1)).zip ws))) := Ex.new s2.atF.1
    exact f _ M1 _ _ _ q (e1.trans e0) (s2.offF hF) ⟨p, ws, rfl, upd_same, by rw [List.length_map, List.length_map], GxL.mono e0 _ _ z2⟩
  · exact f _ _ _ H1 _ (q p s2.atF.2.1) e1 (s2.offFM hF ⟨ws, rfl, z2⟩) rfl
theorem ev_disp {trs : List (TE × TE)} (h : DP K w trs ds M fun ps M1 => ∃ kvs : List (Key × D), ps = kvs.map (fun x => (kD x.1, x.2)) ∧ kvs.length ≤ 15 ∧ (kvs.map (·.1)).Nodup ∧ k (.dk (kvs.map (·.1)) (kvs.map (·.2))) M1) : EV K w (tDisp trs) ds M k :=
  ev_dispG (dp_mono h fun ps M1 ⟨kvs, a, b, c, d⟩ => ⟨kvs, a, b, c, .inl d⟩)
theorem ev_dispM {trs : List (TE × TE)} (h : DP K w trs ds M fun ps M1 => ∃ kvs : List (Key × D), ps = kvs.map (fun x => (kD x.1, x.2)) ∧ kvs.length ≤ 15 ∧ (kvs.map (·.1)).Nodup ∧ ∀ p, M1 p = none → k (.adr p) (M1.set p (.dk kvs))) : EV K w (tDisp trs) ds M k :=
  ev_dispG (dp_mono h fun ps M1 ⟨kvs, a, b, c, d⟩ => ⟨kvs, a, b, c, .inr d⟩)

/-! ### displays, the keys tuples -/
theorem zipN_merge {H : Hp} : ∀ {kvs acc : List (NestedKey × D)} {as bs : List Addr} {us vs : List V}, as.length = acc.length → GxL K H (acc.map (·.2)) us → GxL K H (keyDs (acc.map (·.1))) (as.map V.ref) →
    bs.length = kvs.length → GxL K H (kvs.map (·.2)) vs → GxL K H (keyDs (kvs.map (·.1))) (bs.map V.ref) →
    ∃ (cs : List Addr) (ws : List V), mergeN ((acc.map (·.1)).zip (as.zip us)) ((kvs.map (·.1)).zip (bs.zip vs)) = ((mergeM acc kvs).map (·.1)).zip (cs.zip ws) ∧ cs.length = (mergeM acc kvs).length ∧ GxL K H ((mergeM acc kvs).map (·.2)) ws ∧ GxL K H (keyDs ((mergeM acc kvs).map (·.1))) (cs.map V.ref)
  | [], acc, as, bs, us, vs, l1, g1, k1, _, _, _ => ⟨as, us, rfl, l1, g1, k1⟩
  | x :: r, acc, as, [], us, _, l1, g1, k1, l2, _, _ => by simp at l2
  | x :: r, acc, as, b :: bs, us, _, l1, g1, k1, l2, ⟨v, vs, e, g2, g3⟩, ⟨u, us2, e2, k2, k3⟩ => by
    subst e
    rw [List.map_cons] at e2
    injection e2 with e3 e4
    subst e4
    rw [← e3] at k2
    obtain ⟨cs, ws, h1, h2, h3, h4⟩ := zipN_put (k := x.1) (a := b) g2 l1 g1 k1 k2
    obtain ⟨ds, xs, h5, h6, h7, h8⟩ := zipN_merge (kvs := r) h2 h3 h4 (by simpa using l2) g3 k3
    refine ⟨ds, xs, ?_, h6, h7, h8⟩
    rw [← h1] at h5
    exact h5
theorem pairsN_of {H : Hp} : ∀ {kvs : List (NestedKey × D)} {us : List (V × V)}, GxL K H (kvs.map fun x => keyD x.1) (us.map (·.1)) → GxL K H (kvs.map (·.2)) (us.map (·.2)) → (∀ x ∈ kvs, ∃ ks, x.1 = .tup ks) →
    ∃ bs : List Addr, bs.length = kvs.length ∧ us.map (·.1) = bs.map V.ref ∧ us = ((kvs.map (·.1)).zip (bs.zip (us.map (·.2)))).map fun x => (V.ref x.2.1, x.2.2)
  | [], us, h, _, _ => by
    have h' : us.map (·.1) = [] := h
    have : us = [] := by simpa using h'
    rw [this]; exact ⟨[], rfl, rfl, rfl⟩
  | x :: r, [], ⟨v, s, e, _, _⟩, _, _ => by cases e
  | x :: r, u :: us, ⟨v, s, e, g1, g2⟩, ⟨v2, s2, e2, g3, g4⟩, ht => by
    rw [List.map_cons] at e e2
    injection e with e3 e4
    injection e2 with e5 e6
    subst e4 e6
    obtain ⟨bs, h1, h2, h3⟩ := pairsN_of (kvs := r) g2 g4 fun y hy => ht y (List.mem_cons_of_mem _ hy)
    obtain ⟨ks, hk⟩ := ht x List.mem_cons_self
    have g1 : Gx K H (keyD x.1) v := g1
    rw [hk] at g1
    obtain ⟨b, _, hb, _⟩ := g1
    obtain ⟨a, c⟩ := u
    have e3' : a = v := e3
    subst e3' hb
    refine ⟨b :: bs, by rw [List.length_cons, List.length_cons, h1], by rw [List.map_cons, h2]; rfl, ?_⟩
    show (V.ref b, c) :: us = (V.ref b, c) :: _
    exact congrArg _ h3
theorem ev_ndisp {trs : List (TE × TE)} (h : DP K w trs ds M fun ps M1 => ∃ kvs : List (NestedKey × D), ps = kvs.map (fun x => (keyD x.1, x.2)) ∧ kvs.length ≤ 15 ∧ (kvs.map (·.1)).Nodup ∧ (∀ x ∈ kvs, (∃ ks, x.1 = .tup ks) ∧ x.1.depth ≤ 8) ∧ ∀ p, M1 p = none → k (.adr p) (M1.set p (.dn kvs))) : EV K w (tNDisp K w trs) ds M k := fun H0 σ H F Q s e f => by
  intro p hp
  have hF := F_none s hp
  refine dp_run h H0 σ _ (Fs F p (DNo w p [])) _ (s.toF hp) e fun ps M1 us H1 H2 q e1 s1 g1 g2 => ?_
  obtain ⟨kvs, rfl, hl, nd, ht, q⟩ := q
  rw [List.map_map] at g1 g2
  have g2' : GxL K H1 (kvs.map (·.2)) (us.map (·.2)) := g2
  obtain ⟨bs, b1, b2, b3⟩ := pairsN_of (kvs := kvs) g1 g2' fun x hx => (ht x hx).1
  have g1' : GxL K H1 (keyDs (kvs.map (·.1))) (bs.map V.ref) := by
    rw [keyDs_map, List.map_map, ← b2]; exact g1
  obtain ⟨cs, ws, z1, z2, z3, z4⟩ := zipN_merge (acc := []) (as := []) (us := []) rfl (show GxL K H1 [] [] from rfl) (show GxL K H1 [] [] from rfl) b1 g2' g1'
  rw [mergeM_nil nd] at z1 z2 z3 z4
  have hz : ((kvs.map (·.1)).zip (bs.zip (us.map (·.2)))).length ≤ 15 := by rw [List.length_zip, List.length_map]; omega
  refine ⟨s1.atF.2.2, (kvs.map (·.1)).zip (bs.zip (us.map (·.2))), b3, ?_, hz, ?_⟩
  · exact ksok_of b1 (GxL.mono s1.ex _ _ g1') fun x hx => (ht x hx).2
  · have z1' : mergeN [] ((kvs.map (·.1)).zip (bs.zip (us.map (·.2)))) = (kvs.map (·.1)).zip (cs.zip ws) := z1
    rw [z1']
    have s2 : S4 K w H1 M1 (Fs F p (DNo w p ((kvs.map (·.1)).zip (cs.zip ws)))) (upd H2 p (DNo w p ((kvs.map (·.1)).zip (cs.zip ws)))) := s1.frU
    exact f _ _ _ H1 _ (q p s2.atF.2.1) e1 (s2.offFM hF ⟨cs, ws, rfl, z2, z3, z4, fun x hx => (ht x hx).2⟩) rfl

/-! ### == of dicts of one entry, True its value -/
def rEqD1 : R2 := fun x y H Q => ∃ a b k l, x = .ref a ∧ y = .ref b ∧ H a = some (.dK [(k, .bl true)]) ∧ H b = some (.dK [(l, .bl true)]) ∧ Q (.bl (decide (k = l))) H
theorem op_eqD1 {X : Cx} (hu : X.A.units < cLine) : OpR X (compareOp .Eq) rEqD1 := by
  intro pins s σ H x y v u Q I rx ry h
  obtain ⟨a, b, k, l, rfl, rfl, ea, eb, q⟩ := h
  by_cases hkl : k = l
  · subst hkl
    rw [decide_eq_true rfl] at q
    refine op_eq_dictA hu pins s σ H _ _ v u Q I rx ry ⟨a, b, _, _, rfl, rfl, ea, eb, rfl, fun p hp => ?_, q⟩
    have : p = (k, .bl true) := by simpa using hp
    subst this
    exact ⟨by simp [valV], rfl⟩
  · rw [decide_eq_false hkl] at q
    obtain rfl : v = Value.ref a := rx
    obtain rfl : u = Value.ref b := ry
    obtain ⟨_, ya, va, ra, da⟩ := (show ObjOk X.prog X.w H s.heap a (.dK [(k, .bl true)]) from I.hok a _ ea)
    obtain ⟨_, yb, vb, rb, db⟩ := (show ObjOk X.prog X.w H s.heap b (.dK [(l, .bl true)]) from I.hok b _ eb)
    refine PySem.W.keq_eq (knd := mixKind X.prog X.w) (r := false) ya yb da db hu (fun _ => ?_) (fin_bl I q (by simp))
    have hn : valueAt vb k = none := by
      have z := KV.val rb k
      have hlk : ¬ l = k := fun z => hkl z.symm
      have e : valV [(l, V.bl true)] k = none := by simp [valV, hlk]
      rw [e] at z
      cases hv : valueAt vb k with
      | none => rfl
      | some x => rw [hv] at z; exact z.elim
    cases ra with
    | @cons p q' ps qs h1 t =>
      cases t
      obtain ⟨k', v'⟩ := q'
      have h1' : k = k' := h1.1
      subst h1'
      exact .miss hn
theorem rd_eqD1 {x y : D} {a b : Key} (hx : DkAt M x [(a, .bl true)]) (hy : DkAt M y [(b, .bl true)]) (q : k (.bl (decide (a = b))) M) : RD K w rEqD1 x y M k := fun H0 vx vy H F Q s gx gy f => by
  obtain ⟨p, us, rfl, h1, v, r, e, gv, gr⟩ := dk_at s hx gx
  obtain ⟨p2, ws, rfl, h2, v2, r2, e2, gv2, gr2⟩ := dk_at s hy gy
  have hr : r = [] := gr
  have hr2 : r2 = [] := gr2
  have hv : v = .bl true := gv
  have hv2 : v2 = .bl true := gv2
  subst e e2 hr hr2 hv hv2
  exact ⟨p, p2, a, b, rfl, rfl, h1, h2, f _ M _ H0 H q (Ex.refl H0) s rfl⟩

/-! ### name = {k: v for ..} on one line -/
theorem ps_setDc {X : Cx} {i : Nat} {y : Str} {py : Pos} {kx vx tg iter : Expr} {ifs : List Expr} {scope : Scope} {own : List (Str × Nat)} {pos spos : Pos} {wi : TI} {g : TG} {tt : TT} {tk tv : TE} (hc : X.calm = true) (hN : X.N.Nodup) (hy : X.N[i]? = some y) (hyl : X.env.scope.names.lookup y = some .local)
    (hsw : swapsWith (.DictComp kx vx [⟨tg, iter, ifs, 0⟩] scope pos) (some (.Name y py)) spos.line X.env = pure true) (hi : PI X tg iter wi) (ok : BlkOk X.N X.env.scope scope own)
    (hg : ∀ (s : Shared) (H : Hp) (C : Addr) (cl : List (Str × Addr)) (fp : List Addr), PG (X.blk s H scope (compEnvC scope cl C X.env) fp) tg g) (ht : ∀ (s : Shared) (H : Hp) (C : Addr) (cl : List (Str × Addr)) (fp : List Addr), PTs (X.blk s H scope (compEnvC scope cl C X.env) fp) ifs tt)
    (hk : ∀ (s : Shared) (H : Hp) (C : Addr) (cl : List (Str × Addr)) (fp : List Addr), PE (X.blk s H scope (compEnvC scope cl C X.env) fp) kx tk)
    (he : ∀ (s : Shared) (H : Hp) (C : Addr) (cl : List (Str × Addr)) (fp : List Addr), PE (X.blk s H scope (compEnvC scope cl C X.env) fp) vx tv) (hs : ∀ x, foldedSetIterable iter X.env x = pure x := by intro _; rfl) :
    PS X (.Assign [.Name y py] (.DictComp kx vx [⟨tg, iter, ifs, 0⟩] scope pos) spos) (tAsg (tDc wi g tt tk tv (own.map (·.2))) (gName i)) := by
  refine ⟨fun pins s σ H D I h => ?_⟩
  rw [exec_Assign_Name_used _ _ _ _ hsw]
  refine wpAny_bind (wpAny_standAt (wpAny_bind ?_))
  show wpAny _ X.A (do let _ ← comprehension (.DictComp kx vx [⟨tg, iter, ifs, 0⟩] scope pos) scope X.env (firstIterPos [⟨tg, iter, ifs, 0⟩] pos) newDict false (eval iter X.env) (some (assign (.Name y py) X.env))) _ _ s
  have h : tDc wi g tt tk tv (own.map (·.2)) σ H (fun x H1 => gName i x σ H1 D.nx) := h
  refine wpAny_bind (thn (dc_core (Qf := fun _ s' => SP X pins D .next s') hc hN I hi ok hg ht hk he hs h fun L C s' m H' I' q hn f => ?_) fun _ s' hq => wpAny_pure (wpAny_pure hq))
  show wpAny _ _ (assign (.Name y py) X.env (.ref L)) _ _ _
  refine wpAny_assign_Name (store_ok2 (v := V.ref L) I' hN hy (.inl hyl) rfl (fun s2 I2 ⟨a, sb, ha⟩ => ?_) (.inr hyl))
  obtain ⟨f0, f1, f2, f3, f4, f5⟩ := f
  have haC : C ≠ a := by
    rcases ha with z | z
    · rw [z]; exact f1
    · exact fun e => f4 y a z e.symm
  refine ⟨m, hn.sameBut sb haC, fun h3 sb3 => ?_⟩
  exact ⟨_, H', I2.turned (t' := s2.toks) (fun b o hb e => (sb3.2 b hb).trans e) f0 f1 f3 f4 f5, q⟩
theorem sw_trueD {kx vx : Expr} {gs : List Comprehension} {scope : Scope} {pos py : Pos} {y : Str} {l : Nat} {env : Env} (hk : env.scope.kind = .function) (hy : env.scope.names.lookup y = some .local) (hl : (py.line == pos.line) = true)
    (ha : (scope.names.any fun (n, k) => n == y && (k == .local || k == .cell)) = false) : swapsWith (.DictComp kx vx gs scope pos) (some (.Name y py)) l env = pure true := by
  have ky : env.kindOf y = some .local := hy
  have hb : env.blockKind = .function := by unfold Env.blockKind; rw [hk]; rfl
  unfold swapsWith
  simp only [hb, ky, ha, Expr.pos, hl]
  rfl
end
end PL

set_option Elab.async false
set_option linter.all false
set_option maxRecDepth 100000
set_option maxHeartbeats 4000000
/-! PLk: calls of defs told by data, what the top leaves, further rules by data. -/
namespace PL
open PySem PySem.Spec PyProof.Rows L2 Evl

/-- a def of the module keeps the promise sp -/
structure Cal (P : Program) (w : World) (K : PySem.W.Frag) (mg : Str → Option Value) (base : Heap) (nm : Str) (lv : Nat) (ps : List Str) (sp : Spec) : Prop where
  ex : ∃ f fd, FnOk P w K mg base CX0 lv f fd ps (SpD K w sp) ∧ mg nm = some (.ref f) ∧ PySem.W.keepIn K (.ref f) = true ∧ Binds K fd ps []
/-- a method -/
structure CalM (P : Program) (w : World) (K : PySem.W.Frag) (mg : Str → Option Value) (base : Heap) (C : Addr) (nm : Str) (lv : Nat) (ps : List Str) (sp : Spec) : Prop where
  ex : ∃ f fd, FnOk P w K mg base CX0 lv f fd ps (SpD K w sp) ∧ Meth K C nm f ∧ Binds K fd ps []
/-- a class that is called: its __init__ -/
structure CalK (P : Program) (w : World) (K : PySem.W.Frag) (mg : Str → Option Value) (base : Heap) (C : Addr) (nm : Str) (lv : Nat) (ps : List Str) (sp : Spec) : Prop where
  ex : ∃ f fd, FnOk P w K mg base CX0 lv f fd ps (SpD K w sp) ∧ Mk K C f ∧ mg nm = some (.ref C) ∧ Binds K fd ps []
section
variable {X : Cx} {nm : Str} {lv : Nat} {ps : List Str} {sp : Spec} {e : Expr} {es : List Expr} {t : TA} {p pos apos : Pos} {C : Addr} {o : Expr} {ta : TE}
theorem pe_cal (c : Cal X.prog X.w X.K X.mg X.base nm lv ps sp) (hr : Room lv X.A) (hg : Gl X nm) (ha : PA X (e :: es) t) (hdb : (nm == ("__debug__" : Str)) = false := by decide) (he : starEach (e :: es) X.env = (false, eval e X.env) :: starEach es X.env := by rfl)
    (hpl : (backTo pos (starEach es X.env)).any (·.1) = false := by rfl) : PE X (.Call (.Name nm p) (e :: es) [] pos) (tCall (SpD X.K X.w sp) [] E0 t) := by
  obtain ⟨f, fd, F, hm, hk, hb⟩ := c.ex
  exact pe_call F hr hg hm hk hb .nil pass0 ha hdb he hpl
theorem pe_calM {pl : Sem Bool} (ho : PE X o ta) (c : Cls X.K C) (m : CalM X.prog X.w X.K X.mg X.base C nm lv ps sp) (hr : Room lv X.A) (ha : PA X (e :: es) t)
    (hst : starEach (e :: es) X.env = (false, eval e X.env) :: starEach es X.env := by rfl) (hpl : (backTo pos (starEach es X.env)).any (·.1) = false := by rfl)
    (ht : eval (.Call (.Attribute o nm apos) (e :: es) [] pos) X.env = (do
      let ov ← eval o X.env
      standAt apos.atName
      let (f, first) ← holding [ov] (getMethod ov nm pl)
      callWith pos f first (backTo pos (starEach (e :: es) X.env)) (backToKw pos (keywordEach [] X.env))) := by rfl) :
    PE X (.Call (.Attribute o nm apos) (e :: es) [] pos) (tMeth C nm (SpD X.K X.w sp) [] E0 ta t) := by
  obtain ⟨f, fd, F, hm, hb⟩ := m.ex
  exact pe_meth ho c hm F hr hb .nil pass0 ha hst hpl ht
theorem pe_mk (c : CalK X.prog X.w X.K X.mg X.base C nm lv ps sp) (hr : Room (lv + 1) X.A) (hg : Gl X nm) (ha : PA X (e :: es) t) (hdb : (nm == ("__debug__" : Str)) = false := by decide) (he : starEach (e :: es) X.env = (false, eval e X.env) :: starEach es X.env := by rfl)
    (hpl : (backTo pos (starEach es X.env)).any (·.1) = false := by rfl) : PE X (.Call (.Name nm p) (e :: es) [] pos) (tMake C (SpD X.K X.w sp) [] E0 t) := by
  obtain ⟨f, fd, F, M, hm, hb⟩ := c.ex
  exact pe_make M F hr hg hm hb .nil pass0 ha hdb he hpl
theorem op_inKD {d : Addr} (D : ∃ es n, KDict X.K X.w d es n) : OpR X (compareOp .In) (rInKD X.K d) := by
  obtain ⟨es, n, D⟩ := D
  exact op_in_kd D
end
/-! within a comprehension: the written part by its own name -/
section
variable {X : Cx} {K : PySem.W.Frag} {w : World}
theorem cb_lenK (h : X.K = K) : CallR X (.builtin "len") (rLen K) := by subst h; exact cb_len
theorem ix_listK (h : X.K = K) : IxR X (rIxL K) := by subst h; exact ix_list
theorem ix_tupK (h : X.K = K) : IxR X (rIxT K) := by subst h; exact ix_tup
theorem ix_seqK (h : X.K = K) : IxR X (rIx K) := by subst h; exact ix_seq
theorem pi_listK {tg l : Expr} {tl : TE} (h : X.K = K) (hl : PE X l tl) : PI X tg l (iList K tl) := by subst h; exact pi_list hl
theorem pi_tupK {tg l : Expr} {tl : TE} (h : X.K = K) (hl : PE X l tl) : PI X tg l (iTup K tl) := by subst h; exact pi_tup hl
theorem pe_ngetK {o i : Expr} {td ty : TE} {pos : Pos} (h : X.K = K) (h' : X.w = w) (hu : X.A.units + 16 < cLine) (ho : PE X o td) (hi : PE X i ty) (hs : NoSl i) : PE X (.Subscript o i pos) (tNGet K w td ty) := by subst h h'; exact pe_nget hu ho hi hs
theorem sl_listK (h : X.K = K) : SlR X (rSlL K) := by subst h; exact sl_list
end
/-! tests whose answer is told by a proposition -/
theorem ifd {P A B : Prop} [Decidable P] (h1 : P → A) (h2 : ¬ P → B) : if decide P = true then A else B := by
  by_cases h : P
  · rw [decide_eq_true h, if_pos rfl]; exact h1 h
  · rw [decide_eq_false h, if_neg Bool.false_ne_true]; exact h2 h
theorem ifn {P A B : Prop} [Decidable P] (h1 : ¬ P → A) (h2 : P → B) : if (!decide P) = true then A else B := by
  by_cases h : P
  · rw [decide_eq_true h, if_neg (by decide)]; exact h2 h
  · rw [decide_eq_false h, if_pos (by decide)]; exact h1 h
theorem ift {A B : Prop} {b : Bool} (h : b = true) (a : A) : if b = true then A else B := by rw [if_pos h]; exact a
theorem iff' {A B : Prop} {b : Bool} (h : b = false) (a : B) : if b = true then A else B := by rw [if_neg (by rw [h]; decide)]; exact a
theorem sl {n : Nat} (h : n ≤ 1000000) : n ≤ sizeLine := Nat.le_trans h (by decide)
theorem sl' {n : Nat} (h : n ≤ 1000000) : n < sizeLine := Nat.lt_of_le_of_lt h (by decide)
theorem l2 : 2 ≤ sizeLine := by decide
theorem l1 : 1 ≤ sizeLine := by decide
theorem l3 : 3 ≤ sizeLine := by decide
theorem at0 {α : Type} {x : α} {l : List α} : atI (x :: l) 0 = some x := atI_nat (j := 0) rfl
theorem at1 {α : Type} {x y : α} {l : List α} : atI (x :: y :: l) 1 = some y := atI_nat (j := 1) rfl
theorem at2 {α : Type} {x y z : α} {l : List α} : atI (x :: y :: z :: l) 2 = some z := atI_nat (j := 2) rfl
theorem atm {l : List D} {d : D} (h : l[l.length - 1]? = some d) (h0 : 0 < l.length) : atI l (-1) = some d := by
  unfold atI ixN
  rw [if_neg (by decide), if_pos (by omega)]
  show l[((-1 : Int) + l.length).toNat]? = _
  rw [show ((-1 : Int) + l.length).toNat = l.length - 1 by omega]
  exact h
theorem sqi {n j : Nat} (h : j < n) : seqIndex? (j : Int) n = some j := (ixN_seq (ixN_nat h)).1
theorem ix0 {n : Nat} (h : 0 < n) : ixN n 0 = some 0 := ixN_nat (j := 0) h
/-- built-in names that the top leaves alone -/
structure Bi (mg : Str → Option Value) : Prop where
  len : mg "len" = none
  range : mg "range" = none
  enumerate : mg "enumerate" = none
  int : mg "int" = none
  abs : mg "abs" = none
  list : mg "list" = none
  tuple : mg "tuple" = none
  sorted : mg "sorted" = none
  isinstance : mg "isinstance" = none
  min : mg "min" = none
  sum : mg "sum" = none
  bool : mg "bool" = none
  str : mg "str" = none

theorem SpD.ex {α : Type} {K : PySem.W.Frag} {w : World} {f : α → Spec} {vs : List V} {H : Hp} {Q : VK} {E : XK} (h : SpD K w (fun l M k => ∃ a, f a l M k) vs H Q E) : ∃ a, SpD K w (f a) vs H Q E := by
  obtain ⟨H0, l, M, F, k, s, g, ⟨a, p⟩, q⟩ := h
  exact ⟨a, H0, l, M, F, k, s, g, p, q⟩
theorem SpD.or {K : PySem.W.Frag} {w : World} {f g : Spec} {vs : List V} {H : Hp} {Q : VK} {E : XK} (h : SpD K w (fun l M k => f l M k ∨ g l M k) vs H Q E) : SpD K w f vs H Q E ∨ SpD K w g vs H Q E := by
  obtain ⟨H0, l, M, F, k, s, g, p | p, q⟩ := h
  · exact .inl ⟨H0, l, M, F, k, s, g, p, q⟩
  · exact .inr ⟨H0, l, M, F, k, s, g, p, q⟩
theorem cut_from {α : Type} (l : List α) (j : Nat) : cutD l (some (j : Int)) none = l.drop j := by
  unfold cutD
  rw [HT.sIx_nat, HT.sIx_none]
  by_cases h : j ≤ l.length
  · rw [Nat.min_eq_left h, ← List.length_drop, List.take_length]
  · rw [Nat.min_eq_right (by omega), List.drop_length, List.drop_eq_nil_of_le (by omega), List.take_nil]
theorem cut_to {α : Type} (l : List α) (j : Nat) : cutD l none (some (j : Int)) = l.take j := by
  unfold cutD
  rw [HT.sIx_nat, HT.sIx_none, List.drop_zero, Nat.sub_zero]
  by_cases h : j ≤ l.length
  · rw [Nat.min_eq_left h]
  · rw [Nat.min_eq_right (by omega), List.take_length, List.take_of_length_le (by omega)]
section
variable {K : PySem.W.Frag} {w : World} {ds : DS} {M : MH} {k : D → MH → Prop}
theorem rd_rep {x : D} {l : List D} {n : Int} (hx : LsAt M x l) (h : -(2 ^ 63) ≤ n ∧ n < 2 ^ 63) (hl : l.length * n.toNat ≤ sizeLine) (q : k (.lst (List.replicate n.toNat l).flatten) M) : RD K w rRep x (.int n) M k := fun H0 vx vy H F Q s gx gy f => by
  obtain ⟨p, us, e1, h1, g1⟩ := ls_at s hx gx
  refine ⟨p, n, us, e1, gy, h1, h.1, h.2, by rw [g1.len]; exact hl, fun c hc => ?_⟩
  have e0 := Ex.new (o := .lst (List.replicate n.toNat us).flatten) (fresh_back s.ex hc)
  refine f _ M _ _ _ q e0 (s.new hc) ⟨c, _, rfl, upd_same, GxL.mono e0 _ _ ?_⟩
  induction n.toNat with
  | zero => exact rfl
  | succ m ih => rw [List.replicate_succ, List.replicate_succ, List.flatten_cons, List.flatten_cons]; exact g1.append ih
theorem GV.mono {g : TG} {d : D} {q q' : DS → MH → Prop} (h : GV K w g d ds M q) (f : ∀ ds' M', q ds' M' → q' ds' M') : GV K w g d ds M q' := fun H0 v σ H F Q s e gd p => h H0 v σ H F Q s e gd fun ds' M' σ' H0' H' x => p ds' M' σ' H0' H' (f ds' M' x)
theorem LP.mapG {g : TG} {tt : TT} {te : TE} {vs : List Nat} {q : List D → MH → Prop} (f : Nat → D → D) : ∀ (l acc : List D) (o : Nat), (∀ j d, l[j]? = some d → GV K w g d (wipeD ds vs) M fun ds1 M1 => TV K w tt ds1 M1 fun b M2 => b = true ∧ EV K w te ds1 M2 fun x M3 => x = f (o + j) d ∧ M3 = M) →
    acc.length + l.length ≤ sizeLine → q (acc ++ l.mapIdx fun j d => f (o + j) d) M → LP K w g tt te ds vs q l acc M
  | [], acc, o, _, _, hq => by
    have hq' : q (acc ++ []) M := hq
    rw [List.append_nil] at hq'; exact hq'
  | d :: l, acc, o, hs, hl, hq => by
    refine (hs 0 d rfl).mono fun ds1 M1 h1 => h1.mono fun b M2 h2 => ?_
    obtain ⟨rfl, h2⟩ := h2
    rw [if_pos rfl]
    refine h2.mono fun x M3 h3 => ?_
    obtain ⟨e1, e2⟩ := h3
    rw [e1, e2]
    rw [List.length_cons] at hl
    refine ⟨by omega, LP.mapG f l _ (o + 1) (fun j d h => ?_) (by rw [List.length_append, List.length_singleton]; omega) ?_⟩
    · have := hs (j + 1) d (by simpa using h)
      rw [show o + 1 + j = o + (j + 1) by omega]; exact this
    · rw [List.mapIdx_cons] at hq
      have hq : q (acc ++ (f (o + 0) d :: List.mapIdx (fun j d => f (o + (j + 1)) d) l)) M := hq
      have e : (fun (j : Nat) (d : D) => f (o + (j + 1)) d) = fun (j : Nat) (d : D) => f (o + 1 + j) d := by funext j d; rw [show o + 1 + j = o + (j + 1) by omega]
      rw [e] at hq
      rw [List.append_assoc]
      exact hq
theorem LP.map {g : TG} {tt : TT} {te : TE} {vs : List Nat} {q : List D → MH → Prop} {l : List D} (f : Nat → D → D) (hl : l.length ≤ sizeLine) (hs : ∀ j d, l[j]? = some d → GV K w g d (wipeD ds vs) M fun ds1 M1 => TV K w tt ds1 M1 fun b M2 => b = true ∧ EV K w te ds1 M2 fun x M3 => x = f j d ∧ M3 = M) (hq : q (l.mapIdx f) M) : LP K w g tt te ds vs q l [] M := by
  refine LP.mapG f l [] 0 (fun j d h => ?_) (by simpa using hl) ?_
  · rw [Nat.zero_add]; exact hs j d h
  · have e : (fun (j : Nat) (d : D) => f (0 + j) d) = f := by funext j d; rw [Nat.zero_add]
    rw [e]; exact hq
theorem rgD_in {lo : Int} {n j : Nat} {d : D} (h : (rgD lo n)[j]? = some d) : j < n ∧ d = .int (lo + (j : Nat)) := by
  rw [rgD_get] at h
  split at h
  · exact ⟨by assumption, by simpa using h.symm⟩
  · cases h
theorem ev_adr {a : Addr} (q : k (.adr a) M) : EV K w (tC (.ref a)) ds M k := fun H0 σ H F Q s e f => f _ M _ H0 H q (Ex.refl H0) s rfl
theorem LPd.const {g : TG} {tt : TT} {tk tv : TE} {vs : List Nat} {q : List (L2.Key × D) → MH → Prop} {kk : L2.Key} {v : D} : ∀ (l : List D) (acc : List (L2.Key × D)), (acc = [] ∨ acc = [(kk, v)]) → (∀ d, d ∈ l → GV K w g d (wipeD ds vs) M fun ds1 M1 => TV K w tt ds1 M1 fun b M2 => b = true ∧ EV K w tk ds1 M2 fun x M3 => x = kD kk ∧ EV K w tv ds1 M3 fun y M4 => y = v ∧ M4 = M) →
    (l ≠ [] ∨ acc = [(kk, v)]) → q [(kk, v)] M → LPd K w g tt tk tv ds vs q l acc M
  | [], acc, _, _, h, hq => by
    rcases h with h | h
    · exact absurd rfl h
    · rw [h]; exact hq
  | d :: l, acc, ha, hs, _, hq => by
    refine (hs d List.mem_cons_self).mono fun ds1 M1 h1 => h1.mono fun b M2 h2 => ?_
    obtain ⟨rfl, h2⟩ := h2
    rw [if_pos rfl]
    refine h2.mono fun x M3 h3 => ?_
    obtain ⟨e1, h3⟩ := h3
    refine h3.mono fun y M4 h4 => ?_
    obtain ⟨e2, e3⟩ := h4
    rw [e2, e3]
    have ep : putM acc kk v = [(kk, v)] := by
      rcases ha with e | e
      · rw [e]; rfl
      · rw [e]; simp [putM, valM]
    refine ⟨kk, e1, by rcases ha with e | e <;> rw [e] <;> exact Nat.lt_of_le_of_lt (show _ ≤ 1 by simp) (by decide), ?_⟩
    rw [ep]
    exact LPd.const l _ (.inr rfl) (fun d hd => hs d (List.mem_cons_of_mem _ hd)) (.inr rfl) hq
theorem rd_mul {i j : Int} (c : CMul i j) (q : k (.int (i * j)) M) : RD K w (rI CMul fun i j => .int (i * j)) (.int i) (.int j) M k := rd_intC c q
theorem rd_mulW {i j : Int} (c : CMulW i j) (q : k (.int (i * j)) M) : RD K w (rI CMulW fun i j => .int (i * j)) (.int i) (.int j) M k := rd_intC c q
theorem rd_mod {i j : Int} (c : 0 < j) (q : k (.int (i % j)) M) : RD K w (rI (fun _ j => 0 < j) fun i j => .int (i % j)) (.int i) (.int j) M k := rd_intC c q
theorem rd_fdiv {i j : Int} (c : 0 < j ∧ j < 1073741824) (q : k (.int (i / j)) M) : RD K w (rI CDiv fun i j => .int (i / j)) (.int i) (.int j) M k := rd_intC c q
theorem rd_pow {i j : Int} (c : CPow i j) (q : k (.int (i ^ j.toNat)) M) : RD K w (rI CPow fun i j => .int (i ^ j.toNat)) (.int i) (.int j) M k := rd_intC c q
theorem ra_sortDI {x : D} {kvs : List (Key × D)} {ns : List Int} (hx : DkAt M x kvs) (hk : kvs.map (·.1) = ns.map Sum.inl) (hl : ns.length < 64) (q : ∀ ns' : List Int, ns'.Perm ns → ns'.Pairwise (· ≤ ·) → k (.lst (ns'.map D.int)) M) :
    RA K w (fun xs H Q => ∃ (a : Addr) (kvs : List (Key × V)) (ks : List Int), xs = [.ref a] ∧ Rd H a (.dK kvs) ∧ kvs.map (·.1) = ks.map Sum.inl ∧ ks.length < 64 ∧ ∀ (ys : List Int) (p : Addr), ys.Perm ks → ys.Pairwise (· ≤ ·) → H p = none → Q (.ref p) (upd H p (.lst (ys.map V.int)))) [x] M k := fun H0 vs H F Q s g f => by
  obtain ⟨v, rfl, gv⟩ := gxl1 g
  obtain ⟨p, us, rfl, h3, gl⟩ := dk_at s hx gv
  have hz : (kvs.map (·.1)).length = us.length := by rw [gl.len, List.length_map, List.length_map]
  refine ⟨p, _, ns, rfl, .of h3, by rw [List.map_fst_zip (Nat.le_of_eq hz), hk], hl, fun ys c hp hw hc => ?_⟩
  have e0 := Ex.new (o := .lst (ys.map V.int)) (fresh_back s.ex hc)
  exact f _ M _ _ _ (q ys hp hw) e0 (s.new hc) ⟨c, _, rfl, upd_same, GxL.mono e0 _ _ (GxL.ofInts ys)⟩
end
end PL

set_option Elab.async false
set_option linter.all false
set_option maxRecDepth 100000
set_option maxHeartbeats 4000000
/-! PLl: enumerate of a text. -/
namespace PL
open PySem PySem.Spec PyProof.Rows L2 Evl
def IteS (x : Str) : It :=
  ⟨fun i H => i < x.cps.size, fun i H v H' => ∃ T c, v = .ref T ∧ H T = none ∧ H' = upd H T (.tup [.int (i : Nat), .str ⟨#[c]⟩]) ∧ x.cps[i]? = some c, fun i H => x.cps.size ≤ i⟩
theorem draws_str {prog : Program} {w : World} {A : Around} (hh : A.handled = none) (it : Addr) (x : Str) (t : Tok) :
    Draws prog w A it [it] x.cps.size (fun i v => ∃ c u, x.cps[i]? = some c ∧ v = .str ⟨#[c]⟩ u) (fun i h => h.IsStrIter it (strIterType x) x t i) := by
  unfold strIterType
  split
  · exact Draws.strAscii hh it x t
  · exact Draws.strWide hh it x t
theorem nx_str_end {prog : Program} {w : World} {A : Around} {E : Value → Shared → Prop} {s : Shared} {it : Addr} {x : Str} {t : Tok} {i : Nat} {Q : Value → Shared → Prop} (hh : A.handled = none)
    (hit : s.heap.IsStrIter it (strIterType x) x t i) (hx : x.cps[i]? = none)
    (hE : ∀ h' e, Heap.ExtBut it s.heap h' → (∃ o, h'.get? e = some o ∧ o.cls = .type "StopIteration") → E (.ref e) { s with heap := h' }) :
    wpAny (model prog w) A (Builtin.SmallTypes.nextOf (.ref it)) Q E s := by
  unfold strIterType at hit
  split at hit
  · exact wpAny_nextOf_ascii_end hh hit hx hE
  · exact wpAny_nextOf_wide_end hh hit hx hE
theorem turn_enumS {P : Program} {w : World} {K : PySem.W.Frag} {elts : List Expr} {kk : Nat} {tpos : Pos} (x : Str) (t : Tok) (e it : Addr) :
    Turn P w K (.Tuple elts kk tpos) (IteS x) [e, it] e (fun i h => (∃ old, IsEnum h e it ((i : Nat) : Int) old) ∧ h.IsStrIter it (strIterType x) x t i ∧ e ≠ it) where
  mem := by simp
  obj := fun i h st b hb => by
    obtain ⟨⟨old, he⟩, ⟨o, ho, hc, hd⟩, _⟩ := st
    have q : b = e ∨ b = it := by simpa using hb
    rcases q with rfl | rfl
    · exact ⟨_, he, fun v q => nomatch q⟩
    · exact ⟨o, ho, fun v q => by rw [hd] at q; cases q⟩
  keep := fun i h h' st k => by
    obtain ⟨⟨old, he⟩, ⟨o, ho, r⟩, hne⟩ := st
    exact ⟨⟨old, k e (by simp) _ he⟩, ⟨o, k it (by simp) _ ho, r⟩, hne⟩
  item := by
    intro X hP hw hK hc i pins s σ H E I hf st hg
    subst hP hw hK
    obtain ⟨⟨old, he⟩, hit, hne⟩ := st
    have hel : e < s.heap.objs.size := Heap.lt_size he
    have hil : it < s.heap.objs.size := by obtain ⟨_, q, _⟩ := hit; exact Heap.lt_size q
    refine wpAny_pyNext_enum_itemD (draws_str (prog := X.prog) (w := X.w) (A := X.A.in1) (I.ok.hd hc) it x t) he hit hg hne (by simp [hne]) fun y h' tk hy ho hst' hT hsz hk => ?_
    obtain ⟨c, u, hcx, rfl⟩ := hy
    refine ⟨_, rfl, wpAny_letOwnedTupleGo_enum (s := { s with heap := h', toks := tk + 1 }) ho fun h'' he' sb => ?_⟩
    have hT2 : h''.get? s.heap.objs.size = some { cls := .type "tuple", data := .seq #[.int i tk, .str ⟨#[c]⟩ u] } := (sb.2 _ (Nat.ne_of_gt hel)).trans hT
    have new : ObjOk X.prog X.w (upd H s.heap.objs.size (.tup [.int (i : Nat), .str ⟨#[c]⟩])) h'' s.heap.objs.size (.tup [.int (i : Nat), .str ⟨#[c]⟩]) :=
      ⟨by show 2 ≤ sizeLine; decide, [.int i tk, .str ⟨#[c]⟩ u], .cons ⟨_, rfl⟩ (.cons ⟨_, rfl⟩ .nil), ⟨_, hT2, rfl, _, rfl⟩⟩
    have I1 : Inv X pins σ (upd H s.heap.objs.size (.tup [.int (i : Nat), .str ⟨#[c]⟩])) { s with heap := h'', toks := tk + 1 } :=
      I.turnedNew (ch := [e, it]) (fun b ob hb q => by
        have b1 : b ≠ e := fun z => hb (by simp [z])
        have b2 : b ≠ it := fun z => hb (by simp [z])
        exact (sb.2 b b1).trans (hk b ob b1 b2 q)) hf (Nat.le_refl _) new
    refine ⟨.ref s.heap.objs.size, _, I1, rfl, ⟨_, c, rfl, I.hok.fresh (Nat.le_refl _), rfl, hcx⟩, ⟨⟨.str ⟨#[c]⟩ u, ?_⟩, ?_, hne⟩, fun b hb => ?_⟩
    · have e1 : ((i + 1 : Nat) : Int) = (i : Int) + 1 := by omega
      rw [e1]; exact he'
    · obtain ⟨o, q, r⟩ := hst'
      exact ⟨o, (sb.2 it (Ne.symm hne)).trans q, r⟩
    · have hb' : b < s.heap.objs.size := by
        have q : b = e ∨ b = it := by simpa using hb
        rcases q with z | z <;> (rw [z]; assumption)
      rw [upd_ne (Nat.ne_of_lt hb')]
      exact (hf b hb).1
  done := by
    intro X hP hw hK hc i pins s σ H E I hf st hg
    subst hP hw hK
    obtain ⟨⟨old, he⟩, hit, hne⟩ := st
    obtain ⟨f0, f1, f2, f3, f4, f5⟩ := hf it (by simp)
    have hT : s.TypeIs (.ref e) "enumerate" := ⟨_, he, rfl⟩
    unfold pyNext
    refine wpAny_bind (wpAny_attempt (wpAny_callSpecial?_slot (name := Str.ofString "__next__") hT F.slot_enumerate_next (wpAny_call_entry F.slot_enumerate_next hT F.entry_enumerate_next ?_ (F.args_enumerate_next_1 _))))
    show wpAny _ _ (field (.ref e) 2 >>= _) _ _ _
    refine wpAny_bind (wpAny_field he rfl (x := .ref it) rfl ?_)
    refine wpAny_bind (nx_str_end (I.ok.hd hc) hit (Array.getElem?_eq_none hg) fun h' x' eb hx' => ?_)
    obtain ⟨o, ho, hc'⟩ := hx'
    refine wpAny_bind (wpAny_isInstance (T := "StopIteration") (b := true) ⟨o, ho, hc'⟩ isSubtype_stop ?_)
    exact wpAny_pure ⟨rfl, I.turned (t' := s.toks) (fun b o hb q => eb b o hb q) f0 f1 f3 f4 f5⟩
  self := fun A i s Q E st h => let ⟨⟨_, he⟩, _⟩ := st; wpAny_pyIter_enum he h
def iEnumS (ta : TA) : TI := fun σ H R => ta σ H fun vs H1 => ∃ x : Str, vs = [.str x] ∧ R (IteS x) H1
theorem pi_enumS {X : Cx} {e : Expr} {ta : TA} {p pos tpos : Pos} {elts : List Expr} {kk : Nat} (hg : Gl X "enumerate") (hm : X.mg "enumerate" = none) (ha : PA X [e] ta) (hs : starEach [e] X.env = [(false, eval e X.env)] := by rfl) :
    PI X (.Tuple elts kk tpos) (.Call (.Name "enumerate" p) [e] [] pos) (iEnumS ta) := by
  refine ⟨fun pins s σ H R I h => ?_⟩
  refine Call_ (ld_blt I hg hm boot_enumerate (PyProof.Rows.callWith_type1 (thn (ha.run pos pins s σ H _ I h) fun us s1 ⟨vs, H1, I1, r1, q1⟩ => ?_) hs rfl))
  obtain ⟨x, ex, q⟩ := q1
  subst ex
  cases r1 with
  | cons r rr =>
    cases rr
    obtain ⟨t, rfl⟩ := r
    have fp : ∀ b ∈ [s1.heap.objs.size + 1, s1.heap.objs.size], s1.heap.objs.size ≤ b := fun b hb => by
      have z : b = s1.heap.objs.size + 1 ∨ b = s1.heap.objs.size := by simpa using hb
      omega
    refine call_enumerate_str fun h' he hit hsz hk => wpAny_pyIter_enum he ?_
    exact ⟨s1.heap.objs.size + 1, [s1.heap.objs.size + 1, s1.heap.objs.size], _, _, H1, rfl, I1.kept (t' := s1.toks) hk, turn_enumS x t (s1.heap.objs.size + 1) s1.heap.objs.size, ⟨⟨.none, he⟩, hit, Nat.succ_ne_self _⟩, fun b hb => I1.fpOk (fp b hb) (I1.hok.fresh (fp b hb)), q⟩
section
variable {K : PySem.W.Frag} {w : World} {ds : DS} {M : MH} {kl : List D → MH → Prop}
theorem jok_enumS {H0 : Hp} {x : Str} : JOk K (IteS x) H0 (enumD (PL.signs x)) := fun H1 H i e1 e2 => by
  have gt : (enumD (PL.signs x))[i]? = (x.cps[i]?).map fun c => D.tup [.int (i : Nat), .str ⟨#[c]⟩] := by
    unfold enumD PL.signs
    rw [List.getElem?_mapIdx, List.getElem?_map, Array.getElem?_toList]
    cases x.cps[i]? <;> rfl
  rw [gt]
  refine ⟨fun hn => Array.getElem?_eq_none_iff.mp (Option.map_eq_none_iff.mp hn), fun d hd => ?_⟩
  obtain ⟨c, hc, rfl⟩ := Option.map_eq_some_iff.mp hd
  refine ⟨(Array.getElem?_eq_some_iff.mp hc).1, fun v H' hy => ?_⟩
  obtain ⟨T, c', rfl, hT, rfl, hc'⟩ := hy
  rw [hc] at hc'
  cases hc'
  have h1 : H1 T = none := fresh_back e2 hT
  refine ⟨Ex.new hT, upd H1 T (.tup [.int (i : Nat), .str ⟨#[c]⟩]), Ex.new h1, fun b o hb => ?_, fun b o hb => ?_, T, _, rfl, upd_same, _, _, rfl, rfl, _, _, rfl, rfl, rfl⟩
  · by_cases hbt : b = T
    · subst hbt; rw [upd_same] at hb ⊢; exact hb
    · rw [upd_ne hbt] at hb ⊢; exact e2 b o hb
  · by_cases hbt : b = T
    · subst hbt; exact .inr hT
    · rw [upd_ne hbt] at hb; exact .inl hb
theorem iv_enumS {t1 : TA} (h : AV K w t1 ds M fun l M1 => ∃ x, l = [.str x] ∧ kl (enumD (PL.signs x)) M1) : IV K w (iEnumS t1) ds M kl := fun H0 σ H F R s e f => by
  refine h H0 σ H F _ s e fun l M1 vs H1 H2 q e1 s1 g => ?_
  obtain ⟨x, rfl, q⟩ := q
  obtain ⟨v, rfl, gv⟩ := gxl1 g
  exact ⟨x, by rw [show v = V.str x from gv], f _ M1 _ H1 H2 q e1 s1 jok_enumS⟩
end
end PL

set_option Elab.async false
set_option linter.all false
set_option maxRecDepth 100000
set_option maxHeartbeats 4000000
namespace WK
open PySem PySem.Spec PyProof.Rows L2 Evl PL
def top (i : Nat) : Stmt := PySem.Challenge.pw_rolledtrue_k64_whole_floor_runs.main.body.getD i (.Pass ⟨0, 0, 0, 0⟩)
theorem hu16_of {A : Around} {k : Nat} (hr : Room k A) : A.units + 16 < cLine := by have := hr.un; omega
/-! the deck: two mutable objects, p the dict, q its list -/
abbrev dkv (q : Addr) (s : Int) : List (L2.Key × D) := [(.inr "heaps", .adr q), (.inr "seed", .int s)]
theorem kHS : ¬ ((Sum.inr ("heaps" : Str) : L2.Key) = Sum.inr ("seed" : Str)) := by decide +kernel
structure DkOk (p q : Addr) (M : MH) : Prop where
  ne : p ≠ q
  d : ∃ s, 0 ≤ s ∧ s < 2147483648 ∧ M p = some (.dk (dkv q s))
  l : ∃ hs : List Int, M q = some (.lst (hs.map D.int))
def Fr (p q : Addr) (M M' : MH) : Prop := ∀ b o, M b = some o → b ≠ p → b ≠ q → M' b = some o
def Keep (M M' : MH) : Prop := ∀ b o, M b = some o → M' b = some o
theorem Keep.refl (M : MH) : Keep M M := fun b o h => h
theorem Keep.trans {M M1 M2 : MH} (h : Keep M M1) (g : Keep M1 M2) : Keep M M2 := fun b o e => g b o (h b o e)
theorem Keep.set {M M1 : MH} {a : Addr} {o : MO} (h : Keep M M1) (g : M a = none) : Keep M (M1.set a o) := fun b u e => by
  have hb : b ≠ a := fun z => by subst z; rw [g] at e; cases e
  rw [MH.set_ne hb]; exact h b u e
theorem Keep.del {M M1 : MH} {a : Addr} (h : Keep M M1) (g : M a = none) : Keep M (M1.del a) := fun b u e => by
  have hb : b ≠ a := fun z => by subst z; rw [g] at e; cases e
  rw [MH.del_ne hb]; exact h b u e
theorem Keep.none {M M1 : MH} {a : Addr} (h : Keep M M1) (g : M1 a = none) : M a = none := by
  cases e : M a with
  | none => rfl
  | some o => rw [h a o e] at g; cases g
theorem Keep.fr {M M1 : MH} {p q : Addr} (h : Keep M M1) : Fr p q M M1 := fun b o e _ _ => h b o e
theorem Fr.refl {p q : Addr} (M : MH) : Fr p q M M := fun b o h _ _ => h
theorem Fr.trans {M M1 M2 : MH} {p q : Addr} (h : Fr p q M M1) (g : Fr p q M1 M2) : Fr p q M M2 := fun b o e h1 h2 => g b o (h b o e h1 h2) h1 h2
theorem Fr.set {M M1 : MH} {p q a : Addr} {o : MO} (h : Fr p q M M1) (g : M a = none) : Fr p q M (M1.set a o) := fun b u e h1 h2 => by
  have hb : b ≠ a := fun z => by subst z; rw [g] at e; cases e
  rw [MH.set_ne hb]; exact h b u e h1 h2
theorem Fr.del {M M1 : MH} {p q a : Addr} (h : Fr p q M M1) (g : M a = none) : Fr p q M (M1.del a) := fun b u e h1 h2 => by
  have hb : b ≠ a := fun z => by subst z; rw [g] at e; cases e
  rw [MH.del_ne hb]; exact h b u e h1 h2
theorem DkOk.keep {M M1 : MH} {p q : Addr} (d : DkOk p q M) (h : Keep M M1) : DkOk p q M1 := by
  obtain ⟨n, ⟨s, s0, s1, hp⟩, hs, hq⟩ := d
  exact ⟨n, ⟨s, s0, s1, h _ _ hp⟩, hs, h _ _ hq⟩
theorem DkOk.np {M : MH} {p q a : Addr} (d : DkOk p q M) (h : M a = none) : a ≠ p := fun z => by
  obtain ⟨n, ⟨s, s0, s1, hp⟩, hs, hq⟩ := d
  subst z; rw [h] at hp; cases hp
theorem DkOk.nq {M : MH} {p q a : Addr} (d : DkOk p q M) (h : M a = none) : a ≠ q := fun z => by
  obtain ⟨n, ⟨s, s0, s1, hp⟩, hs, hq⟩ := d
  subst z; rw [h] at hq; cases hq
theorem DkOk.set {M : MH} {p q a : Addr} {o : MO} (d : DkOk p q M) (h1 : a ≠ p) (h2 : a ≠ q) : DkOk p q (M.set a o) := by
  obtain ⟨n, ⟨s, s0, s1, hp⟩, hs, hq⟩ := d
  exact ⟨n, ⟨s, s0, s1, by rw [MH.set_ne h1.symm]; exact hp⟩, hs, by rw [MH.set_ne h2.symm]; exact hq⟩
theorem DkOk.del {M : MH} {p q a : Addr} (d : DkOk p q M) (h1 : a ≠ p) (h2 : a ≠ q) : DkOk p q (M.del a) := by
  obtain ⟨n, ⟨s, s0, s1, hp⟩, hs, hq⟩ := d
  exact ⟨n, ⟨s, s0, s1, by rw [MH.del_ne h1.symm]; exact hp⟩, hs, by rw [MH.del_ne h2.symm]; exact hq⟩
def spDeal : PL.Spec := fun l M k => ∃ p q many, l = [.adr p, .int many] ∧ 0 < many ∧ many < 1073741824 ∧ DkOk p q M ∧ ∀ r M', 0 ≤ r → r < many → DkOk p q M' → Fr p q M M' → k (.int r) M'
theorem spDeal_len : ∀ l M k, spDeal l M k → l.length = 2 := fun l M k ⟨p, q, many, h, _⟩ => by rw [h]; rfl
theorem erase_perm {α : Type} : ∀ {l : List α} {j : Nat} (h : j < l.length), (l[j] :: l.eraseIdx j).Perm l
  | x :: l, 0, _ => List.Perm.refl _
  | x :: l, j + 1, h => by
    rw [List.getElem_cons_succ, List.eraseIdx_cons_succ]
    exact (List.Perm.swap x _ _).trans ((erase_perm (l := l) (by simpa using h)).cons x)
def spShuf : PL.Spec := fun l M k => ∃ p q x xs, l = [.adr p, x] ∧ SeqD M x xs ∧ xs.length < 1000000 ∧ DkOk p q M ∧ ∀ ys M', ys.Perm xs → DkOk p q M' → Fr p q M M' → k (.lst ys) M'
theorem spShuf_len : ∀ l M k, spShuf l M k → l.length = 2 := fun l M k ⟨p, q, x, xs, h, _⟩ => by rw [h]; rfl
mutual
def plain : D → Bool
  | .non | .bl _ | .int _ | .str _ => true
  | .tup l => plainL l
  | .lst _ | .ty _ | .adr _ | .scr _ | .dk _ _ | .ins _ _ _ => false
def plainL : List D → Bool
  | [] => true
  | d :: l => plain d && plainL l
end
mutual
def sz : D → Nat
  | .tup l => szL l + 1
  | .non | .bl _ | .int _ | .str _ | .lst _ | .ty _ | .adr _ | .scr _ | .dk _ _ | .ins _ _ _ => 1
def szL : List D → Nat
  | [] => 0
  | d :: l => sz d + szL l
end
theorem szL_app : ∀ l m : List D, szL (l ++ m) = szL l + szL m
  | [], m => by simp [szL]
  | d :: l, m => by rw [List.cons_append, szL, szL, szL_app l m]; omega
theorem sz_pos : ∀ d : D, 0 < sz d
  | .tup l => by simp [sz]
  | .non | .bl _ | .int _ | .str _ | .lst _ | .ty _ | .adr _ | .scr _ | .dk _ _ | .ins _ _ _ => by simp [sz]
theorem szL_len : ∀ l : List D, plainL l = true → l.length ≤ szL l
  | [], _ => by simp [szL]
  | d :: l, h => by
    have := szL_len l (by simp [plainL] at h; exact h.2)
    have := sz_pos d
    rw [List.length_cons, szL]; omega
theorem plainL_app : ∀ l m : List D, plainL (l ++ m) = (plainL l && plainL m)
  | [], m => by simp [plainL]
  | d :: l, m => by rw [List.cons_append, plainL, plainL, plainL_app l m, Bool.and_assoc]
def spSame : PL.Spec := fun l M k => ∃ x, l = [x, x] ∧ plain x = true ∧ sz x < 1000 ∧ ∀ M', Keep M M' → k (.bl true) M'
theorem spSame_len : ∀ l M k, spSame l M k → l.length = 2 := fun l M k ⟨x, h, _⟩ => by rw [h]; rfl
abbrev s_law_deal : Stmt := top 20
abbrev N_law_deal : List Str := ["deck", "many", "heaps", "size"]
theorem sc_law_deal : FnScope N_law_deal ["deck", "many"] (defScope s_law_deal) := ⟨rfl, rfl, rfl, by decide +kernel, rfl, by decide +kernel, by decide +kernel⟩
abbrev s_law_shuffled : Stmt := top 21
abbrev N_law_shuffled : List Str := ["deck", "things", "left", "found"]
theorem sc_law_shuffled : FnScope N_law_shuffled ["deck", "things"] (defScope s_law_shuffled) := ⟨rfl, rfl, rfl, by decide +kernel, rfl, by decide +kernel, by decide +kernel⟩
abbrev s_law_same : Stmt := top 22
abbrev N_law_same : List Str := ["told", "due", "todo", "one", "other", "k"]
theorem sc_law_same : FnScope N_law_same ["told", "due"] (defScope s_law_same) := ⟨rfl, rfl, rfl, by decide +kernel, rfl, by decide +kernel, by decide +kernel⟩
section
variable {P : Program} {w : World} {K : PySem.W.Frag} {mg : Str → Option Value} {base : Heap}
theorem ok_law_deal {f C mv : Addr} {fd : FuncData} {tk1 tk2 : Tok} (F : Fun K "_law_deal" "_law_deal" s_law_deal f fd) (T : Bi mg)  : FnOk P w K mg base CX0 1 f fd ["deck", "many"] (SpD K w spDeal) := by
  refine F.ok sc_law_deal (fun vs H Q E h => SpD.len (n := 2) (spDeal_len) h) (fun cdv A outer s H vs Q E hr h => ?_)
  have hu := hu_of hr
  have hu16 := hu16_of hr
  refine ⟨_, (pss_cons (ps_set (i := 2) sc_law_deal.nd rfl (Or.inl rfl) (pe_dget hu (pv 0) pe_str (fun _ _ => rfl)))
(pss_cons (ps_while PassesOwn.never (PW.pt (pw_and (pt_cmpR op_gt (pe_callB cb_len (by rfl) T.len (by decide +kernel) (pa_cons (pv 2) pa_nil)) pe_int (nomark _)) (pw_and1 (pt_cmpR op_eq (pe_ix ix_list (pv 2) pe_int (fun _ _ => rfl)) pe_int (nomark _)))))
(pss_one (ps_expr (pe_bm PySem.F.plainAttrs_list PySem.F.slot_list_pop PySem.F.type_list_pop mt_popAt (pv 2) (pa_cons pe_int pa_nil)))))
(pss_cons (ps_if (pt_cmpR op_gt (pe_callB cb_len (by rfl) T.len (by decide +kernel) (pa_cons (pv 2) pa_nil)) pe_int (nomark _))
(pss_cons (ps_set (i := 3) sc_law_deal.nd rfl (Or.inl rfl) (pe_ix ix_list (pv 2) pe_int (fun _ _ => rfl)))
(pss_cons (ps_asg (pe_op op_fdiv (pv 3) (pv 1)) (pg_sub (pv 2) pe_int set_list))
(pss_one (ps_ret (pe_op op_mod (pe_callTy call_int1 (by rfl) T.int (by decide +kernel) (pa_cons (pv 3) pa_nil)) (pv 1))))))
pss_nil)
(pss_cons (ps_asg (pe_op op_mod (pe_callTy call_int1 (by rfl) T.int (by decide +kernel) (pa_cons (pe_op op_add (pe_op op_mul (pe_dget hu (pv 0) pe_str (fun _ _ => rfl)) pe_int) pe_int) pa_nil)) pe_int) (pg_sub (pv 0) pe_str (set_dict hu)))
(pss_one (ps_ret (pe_op op_mod (pe_callTy call_int1 (by rfl) T.int (by decide +kernel) (pa_cons (pe_op op_fdiv (pe_dget hu (pv 0) pe_str (fun _ _ => rfl)) pe_int) pa_nil)) (pv 1)))))))), go h ?_⟩
  clear hu hu16 hr h
  rintro l M k ⟨p, q, many, rfl, h0, h1, dk, hk⟩
  obtain ⟨hpq, ⟨s, s0, s1, hp⟩, hs, hq⟩ := dk
  refine sw_seq (sw_asg (ev_dget (ev_var rfl (ev_str ⟨_, .inr "heaps", .adr q, .m hp, rfl, ?_, gv_name ?_⟩))))
  · rw [valM_cons, if_pos rfl]
  refine sw_seq (sw_while (fun m ds M' => ∃ hs' : List Int, m = hs'.length ∧ ds = [some (.adr p), some (.int many), some (.adr q), none] ∧ M' p = some (.dk (dkv q s)) ∧ M' q = some (.lst (hs'.map D.int)) ∧ Fr p q M M') hs.length ⟨hs, rfl, rfl, hp, hq, fun b o h _ _ => h⟩ ?_)
  rintro m ds M' ⟨hs', rfl, rfl, hp', hq', fr⟩
  refine tv_and <| tv_test <| ev_op <| ev_cb <| av_cons <| ev_var rfl <| av_nil <| ra_lenM hq' <| ev_int <| rd_intb ⟨_, rfl, ifd (fun hc => ?_) (fun hc => iteF ?_)⟩
  · rw [List.length_map] at hc
    cases hs' with
    | nil => simp at hc
    | cons x hs' =>
    have hq2 : M' q = some (.lst (.int x :: hs'.map D.int)) := hq'
    refine tv_test <| ev_op <| ev_op <| ev_var rfl <| ev_int <| rd_ixLM hq2 at0 <| ev_int <| rd_eqI ⟨_, rfl, ifd (fun hx => ?_) (fun hx => ?_)⟩
    · refine sw_seq <| sw_drop <| ev_bm <| ev_var rfl ⟨tyd_adr hq2, av_cons <| ev_int <| av_nil <| rm_popAt hq2 (by decide) (j := 0) (sqi (by simp)) (d := .int x) rfl <| sw_next ?_⟩
      refine ⟨hs'.length, Nat.lt_succ_self _, hs', rfl, rfl, ?_, ?_, ?_⟩
      · rw [MH.set_ne hpq]; exact hp'
      · rw [MH.set_same]; rfl
      · exact fun b o h e1 e2 => by rw [MH.set_ne e2]; exact fr b o h e1 e2
    · refine sw_seq <| sw_if <| tv_test <| ev_op <| ev_cb <| av_cons <| ev_var rfl <| av_nil <| ra_lenM hq2 <| ev_int <| rd_intb ⟨_, rfl, ifd (fun hc => ?_) (fun hc2 => ?_)⟩
      · refine sw_seq <| sw_asg <| ev_op <| ev_var rfl <| ev_int <| rd_ixLM hq2 at0 <| gv_name ?_
        refine sw_seq <| sw_asg <| ev_op <| ev_var rfl <| ev_var rfl <| rd_fdiv ⟨h0, h1⟩ <| gv_sub <| ev_var rfl <| ev_int <| rs_list hq2 (j := 0) (ix0 (by simp)) ?_
        refine sw_seq <| sw_ret <| ev_op <| ev_cb <| av_cons <| ev_var rfl <| av_nil <| ra_int <| ev_var rfl <| rd_mod h0 ?_
        refine hk _ _ (Int.emod_nonneg _ (by omega)) (Int.emod_lt_of_pos _ h0) ⟨hpq, ⟨s, s0, s1, ?_⟩, (x / many) :: hs', ?_⟩ ?_
        · rw [MH.set_ne hpq]; exact hp'
        · rw [MH.set_same]; rfl
        · exact fun b o h e1 e2 => by rw [MH.set_ne e2]; exact fr b o h e1 e2
      · simp at hc2
  · have e0 : hs' = [] := by
      cases hs' with
      | nil => rfl
      | cons a l => simp at hc
    subst e0
    refine sw_seq <| sw_if <| tv_test <| ev_op <| ev_cb <| av_cons <| ev_var rfl <| av_nil <| ra_lenM hq' <| ev_int <| rd_intb ⟨_, rfl, ifd (fun hc => ?_) (fun hc2 => ?_)⟩
    · simp at hc
    refine sw_next ?_
    have hv : valM (dkv q s) (Sum.inr "seed") = some (.int s) := by rw [valM_cons, if_neg kHS, valM_cons, if_pos rfl]
    have n0 := Int.emod_nonneg (s * 42013 + 12345) (show (2147483497 : Int) ≠ 0 by decide)
    have n1 := Int.emod_lt_of_pos (s * 42013 + 12345) (show (0 : Int) < 2147483497 by decide)
    refine sw_seq <| sw_asg <| ev_op <| ev_cb <| av_cons <| ev_op <| ev_op <| ev_dget <| ev_var rfl <| ev_str ⟨_, .inr "seed", _, .m hp', rfl, hv, ev_int <| rd_mul (.inl (by omega)) <| ev_int <| rd_int <| av_nil <| ra_int <| ev_int <| rd_mod (by decide) <| gv_sub <| ev_var rfl <| ev_str <| rs_dk (kk := .inr "seed") rfl hp' (show 2 < sizeLine by decide) ?_⟩
    generalize (s * 42013 + 12345) % 2147483497 = s' at n0 n1 ⊢
    have e1 : putM (dkv q s) (Sum.inr "seed") (.int s') = dkv q s' := by
      unfold putM
      rw [hv, if_pos (show (some (D.int s)).isSome = true from rfl)]
      show [if (Sum.inr ("heaps" : Str) : L2.Key) = Sum.inr ("seed" : Str) then _ else _, if (Sum.inr ("seed" : Str) : L2.Key) = Sum.inr ("seed" : Str) then _ else _] = _
      rw [if_neg kHS, if_pos rfl]
    rw [e1]
    have hv' : valM (dkv q s') (Sum.inr "seed") = some (.int s') := by rw [valM_cons, if_neg kHS, valM_cons, if_pos rfl]
    refine sw_seq <| sw_ret <| ev_op <| ev_cb <| av_cons <| ev_op <| ev_dget <| ev_var rfl <| ev_str ⟨_, .inr "seed", _, .m MH.set_same, rfl, hv', ev_int <| rd_fdiv (by decide) <| av_nil <| ra_int <| ev_var rfl <| rd_mod h0 ?_⟩
    refine hk _ _ (Int.emod_nonneg _ (by omega)) (Int.emod_lt_of_pos _ h0) ⟨hpq, ⟨s', n0, by omega, MH.set_same⟩, [], ?_⟩ ?_
    · rw [MH.set_ne hpq.symm]; exact hq'
    · exact fun b o h e1 e2 => by rw [MH.set_ne e1]; exact fr b o h e1 e2
theorem ok_law_shuffled {f C mv : Addr} {fd : FuncData} {tk1 tk2 : Tok} (F : Fun K "_law_shuffled" "_law_shuffled" s_law_shuffled f fd) (T : Bi mg) (c_law_deal : Cal P w K mg base "_law_deal" 1 ["deck", "many"] spDeal) : FnOk P w K mg base CX0 2 f fd ["deck", "things"] (SpD K w spShuf) := by
  refine F.ok sc_law_shuffled (fun vs H Q E h => SpD.len (n := 2) (spShuf_len) h) (fun cdv A outer s H vs Q E hr h => ?_)
  have hu := hu_of hr
  have hu16 := hu16_of hr
  refine ⟨_, (pss_cons (ps_set (i := 2) sc_law_shuffled.nd rfl (Or.inl rfl) (pe_callTy cb_list (by rfl) T.list (by decide +kernel) (pa_cons (pv 1) pa_nil)))
(pss_cons (ps_set (i := 3) sc_law_shuffled.nd rfl (Or.inl rfl) (pe_lst pa_nil))
(pss_cons (ps_while PassesOwn.never (pt_cmpR op_gt (pe_callB cb_len (by rfl) T.len (by decide +kernel) (pa_cons (pv 2) pa_nil)) pe_int (nomark _))
(pss_one (ps_expr (pe_bm PySem.F.plainAttrs_list PySem.F.slot_list_append PySem.F.type_list_append mt_append (pv 3) (pa_cons (pe_bm PySem.F.plainAttrs_list PySem.F.slot_list_pop PySem.F.type_list_pop mt_popAt (pv 2) (pa_cons (pe_cal c_law_deal (hr.mono (by decide)) (by rfl) (pa_cons (pv 0) (pa_cons (pe_callB cb_len (by rfl) T.len (by decide +kernel) (pa_cons (pv 2) pa_nil)) pa_nil))) pa_nil)) pa_nil)))))
(pss_one (ps_ret (pv 3)))))), go h ?_⟩
  clear hu hu16 hr h
  rintro l M k ⟨p, q, x, xs, rfl, hx, hl, dk, hk⟩
  refine sw_seq <| sw_asg <| ev_cb <| av_cons <| ev_var rfl <| av_nil <| ra_listM hx fun a ha => gv_name ?_
  refine sw_seq <| sw_asg <| ev_lstM <| av_nil ⟨Nat.zero_le _, fun c hc => gv_name ?_⟩
  have hca : c ≠ a := fun z => by subst z; rw [MH.set_same] at hc; cases hc
  have hc0 : M c = none := by rw [MH.set_ne hca] at hc; exact hc
  refine sw_seq <| sw_while (fun m ds M' => ∃ ls fs, m = ls.length ∧ ds = [some (.adr p), some x, some (.adr a), some (.adr c)] ∧ M' a = some (.lst ls) ∧ M' c = some (.lst fs) ∧ (fs ++ ls).Perm xs ∧ DkOk p q M' ∧ Fr p q M M') xs.length ⟨xs, [], rfl, rfl, ?_, MH.set_same, List.Perm.refl _, (dk.set (dk.np ha) (dk.nq ha)).set (dk.np hc0) (dk.nq hc0), ((Fr.refl M).set ha).set hc0⟩ ?_
  · rw [MH.set_ne hca.symm, MH.set_same]
  rintro m ds M1 ⟨ls, fs, rfl, rfl, h1, h2, hp, dk1, fr⟩
  have hll : fs.length + ls.length = xs.length := by have := hp.length_eq; rw [List.length_append] at this; exact this
  refine tv_test <| ev_op <| ev_cb <| av_cons <| ev_var rfl <| av_nil <| ra_lenM h1 <| ev_int <| rd_intb ⟨_, rfl, ifd (fun hc => ?_) (fun hc => ?_)⟩
  · refine sw_seq <| sw_drop <| ev_bm <| ev_var rfl ⟨tyd_adr h2, av_cons <| ev_bm <| ev_var rfl ⟨tyd_adr h1, av_cons <| ev_call <| av_cons (ev_var rfl <| av_cons <| ev_cb <| av_cons <| ev_var rfl <| av_nil <| ra_lenM h1 <| av_nil ⟨p, q, _, rfl, by omega, by omega, dk1, fun r M2 r0 r1 dk2 fr2 => ?_⟩)⟩⟩
    obtain ⟨j, rfl⟩ : ∃ j : Nat, r = j := ⟨r.toNat, by omega⟩
    have hj : j < ls.length := by omega
    have na : a ≠ p ∧ a ≠ q := ⟨dk.np ha, dk.nq ha⟩
    have nc : c ≠ p ∧ c ≠ q := ⟨dk.np hc0, dk.nq hc0⟩
    have h1' := fr2 a _ h1 na.1 na.2
    have h2' := fr2 c _ h2 nc.1 nc.2
    refine av_nil <| rm_popAt h1' (by omega) (sqi hj) (List.getElem?_eq_getElem hj) <| av_nil <| rm_append (by rw [MH.set_ne hca]; exact h2') (Nat.lt_of_le_of_lt (show fs.length ≤ 1000000 by omega) (by decide)) <| sw_next ?_
    refine ⟨(ls.eraseIdx j).length, by rw [List.length_eraseIdx_of_lt hj]; omega, ls.eraseIdx j, fs ++ [ls[j]], rfl, rfl, ?_, MH.set_same, ?_, (dk2.set na.1 na.2).set nc.1 nc.2, ((fr.trans fr2).set ha).set hc0⟩
    · rw [MH.set_ne hca.symm, MH.set_same]
    · refine List.Perm.trans ?_ hp
      rw [List.append_assoc]
      refine List.Perm.append_left fs ?_
      exact erase_perm hj
  · have e0 : ls = [] := by
      cases ls with
      | nil => rfl
      | cons a l => simp at hc
    subst e0
    rw [List.append_nil] at hp
    refine sw_seq <| sw_ret <| ev_frzL <| ev_var rfl ⟨c, fs, rfl, h2, ?_⟩
    exact hk _ _ hp (dk1.del (dk.np hc0) (dk.nq hc0)) (fr.del hc0)
theorem ok_law_same {f C mv : Addr} {fd : FuncData} {tk1 tk2 : Tok} (F : Fun K "_law_same" "_law_same" s_law_same f fd) (T : Bi mg)  : FnOk P w K mg base CX0 1 f fd ["told", "due"] (SpD K w spSame) := by
  refine F.ok sc_law_same (fun vs H Q E h => SpD.len (n := 2) (spSame_len) h) (fun cdv A outer s H vs Q E hr h => ?_)
  have hu := hu_of hr
  have hu16 := hu16_of hr
  refine ⟨_, (pss_cons (ps_set (i := 2) sc_law_same.nd rfl (Or.inl rfl) (pe_lst (pa_cons (pe_tup (pa_cons (pv 0) (pa_cons (pv 1) pa_nil))) pa_nil)))
(pss_cons (ps_while PassesOwn.never (pt_cmpR op_gt (pe_callB cb_len (by rfl) T.len (by decide +kernel) (pa_cons (pv 2) pa_nil)) pe_int (nomark _))
(pss_cons (ps_asg (pe_bm0 PySem.F.plainAttrs_list PySem.F.slot_list_pop PySem.F.type_list_pop mt_pop (pv 2)) (pg_tup (by rfl) (pgs_cons (pg_name (i := 3) sc_law_same.nd rfl (Or.inr rfl)) (pgs_cons (pg_name (i := 4) sc_law_same.nd rfl (Or.inr rfl)) pgs_nil))))
(pss_one (ps_if (pt_val (pe_callB call_isi (by rfl) T.isinstance (by decide +kernel) (pa_cons (pv 4) (pa_cons (pe_bltn (v := .ty "tuple") (by rfl) T.tuple (by decide +kernel) rfl) pa_nil))))
(pss_cons (ps_if (PW.pt (pw_or (pt_not (pt_val (pe_callB call_isi (by rfl) T.isinstance (by decide +kernel) (pa_cons (pv 3) (pa_cons (pe_bltn (v := .ty "tuple") (by rfl) T.tuple (by decide +kernel) rfl) pa_nil))))) (pw_or1 (pt_cmpR op_ne (pe_callB cb_len (by rfl) T.len (by decide +kernel) (pa_cons (pv 3) pa_nil)) (pe_callB cb_len (by rfl) T.len (by decide +kernel) (pa_cons (pv 4) pa_nil)) (nomark _)))))
(pss_one (ps_ret pe_bl))
pss_nil)
(pss_one (ps_set (i := 2) sc_law_same.nd rfl (Or.inl rfl) (pe_op op_cat (pv 2) (pe_lc (own := [("k", 5)]) (g := gName 5) (by rfl) sc_law_same.nd (pi_range1 (by rfl) T.range (pa_cons (pe_callB cb_len (by rfl) T.len (by decide +kernel) (pa_cons (pv 4) pa_nil)) pa_nil)) (blkOk_by (own := [("k", 5)]) (N := N_law_same) (sc := defScope s_law_same) (by decide +kernel)) (fun _ _ _ _ _ => (pg_name (i := 5) sc_law_same.nd rfl (Or.inl rfl))) (fun _ _ _ _ _ => pts_nil) (fun _ _ _ _ _ => (pe_tup (pa_cons (pe_ix (ix_tupK rfl) (pv 3) (pv 5) (fun _ _ => rfl)) (pa_cons (pe_ix (ix_tupK rfl) (pv 4) (pv 5) (fun _ _ => rfl)) pa_nil)))))))))
(pss_one (ps_if (pt_cmpR op_isN (pv 4) pe_non (nomark _))
(pss_one (ps_if (pt_cmpR op_notN (pv 3) pe_non (nomark _))
(pss_one (ps_ret pe_bl))
pss_nil))
(pss_one (ps_if (PW.pt (pw_or (pt_val (pe_callB call_isi (by rfl) T.isinstance (by decide +kernel) (pa_cons (pv 4) (pa_cons (pe_bltn (v := .ty "bool") (by rfl) T.bool (by decide +kernel) rfl) pa_nil)))) (pw_or1 (pt_val (pe_callB call_isi (by rfl) T.isinstance (by decide +kernel) (pa_cons (pv 3) (pa_cons (pe_bltn (v := .ty "bool") (by rfl) T.bool (by decide +kernel) rfl) pa_nil)))))))
(pss_one (ps_if (PW.pt (pw_or (pt_not (pt_val (pe_callB call_isi (by rfl) T.isinstance (by decide +kernel) (pa_cons (pv 3) (pa_cons (pe_bltn (v := .ty "bool") (by rfl) T.bool (by decide +kernel) rfl) pa_nil))))) (pw_or (pt_not (pt_val (pe_callB call_isi (by rfl) T.isinstance (by decide +kernel) (pa_cons (pv 4) (pa_cons (pe_bltn (v := .ty "bool") (by rfl) T.bool (by decide +kernel) rfl) pa_nil))))) (pw_or1 (pt_cmpR op_ne (pv 3) (pv 4) (nomark _))))))
(pss_one (ps_ret pe_bl))
pss_nil))
(pss_one (ps_if (pt_val (pe_callB call_isi (by rfl) T.isinstance (by decide +kernel) (pa_cons (pv 4) (pa_cons (pe_bltn (v := .ty "str") (by rfl) T.str (by decide +kernel) rfl) pa_nil))))
(pss_one (ps_if (PW.pt (pw_or (pt_not (pt_val (pe_callB call_isi (by rfl) T.isinstance (by decide +kernel) (pa_cons (pv 3) (pa_cons (pe_bltn (v := .ty "str") (by rfl) T.str (by decide +kernel) rfl) pa_nil))))) (pw_or1 (pt_cmpR op_ne (pv 3) (pv 4) (nomark _)))))
(pss_one (ps_ret pe_bl))
pss_nil))
(pss_one (ps_if (PW.pt (pw_or (pt_not (pt_val (pe_callB call_isi (by rfl) T.isinstance (by decide +kernel) (pa_cons (pv 3) (pa_cons (pe_bltn (v := .ty "int") (by rfl) T.int (by decide +kernel) rfl) pa_nil))))) (pw_or1 (pt_cmpR op_ne (pv 3) (pv 4) (nomark _)))))
(pss_one (ps_ret pe_bl))
pss_nil))))))))))))
(pss_one (ps_ret pe_bl)))), go h ?_⟩
  clear hu hu16 hr h
  rintro l M k ⟨x, rfl, hx, hs, hk⟩
  refine sw_seq <| sw_asg <| ev_lstM <| av_cons <| ev_tup <| av_cons <| ev_var rfl <| av_cons <| ev_var rfl <| av_nil ⟨l2, av_nil ⟨l1, fun a ha => gv_name ?_⟩⟩
  refine sw_seq <| sw_while (fun m ds M' => ∃ a xs o1 o2 o3, m = szL xs ∧ ds = [some x, some x, some (.adr a), o1, o2, o3] ∧ M a = none ∧ M' a = some (.lst (xs.map fun y => .tup [y, y])) ∧ plainL xs = true ∧ szL xs < 1000 ∧ Keep M M') (szL [x]) ⟨a, [x], none, none, none, rfl, rfl, ha, MH.set_same, by simp [plainL, hx], by simp [szL]; omega, (Keep.refl M).set ha⟩ ?_
  rintro m ds M1 ⟨a, xs, o1, o2, o9, rfl, rfl, ha, h1, hp, hz, kp⟩
  refine tv_test <| ev_op <| ev_cb <| av_cons <| ev_var rfl <| av_nil <| ra_lenM h1 <| ev_int <| rd_intb ⟨_, rfl, ifd (fun hc => ?_) (fun hc => ?_)⟩
  · obtain ⟨zs, y, rfl⟩ : ∃ zs y, xs = zs ++ [y] := by
      rcases List.eq_nil_or_concat xs with e | ⟨zs, y, e⟩
      · subst e; simp at hc
      · exact ⟨zs, y, by rw [e]; simp⟩
    have hsz : szL (zs ++ [y]) = szL zs + sz y := szL_app zs [y] |>.trans (by simp [szL])
    have hpz : plainL zs = true ∧ plain y = true := by
      have := plainL_app zs [y]
      rw [hp] at this
      simpa [plainL] using this.symm
    have e1 : (zs ++ [y]).map (fun y => D.tup [y, y]) = zs.map (fun y => D.tup [y, y]) ++ [.tup [y, y]] := by simp
    rw [e1] at h1
    refine sw_seq <| sw_asg <| ev_bm0 <| ev_var rfl ⟨tyd_adr h1, rm_pop h1 (d := .tup [y, y]) (by simp) <| gv_tup rfl <| gvs_cons <| gv_name <| gvs_cons <| gv_name <| gvs_nil ?_⟩
    rw [List.dropLast_concat]
    have hy0 := sz_pos y
    cases y with
    | tup ys =>
      refine sw_seq <| sw_if <| tv_B <| ev_cb <| av_cons <| ev_var rfl <| av_cons <| ev_ty <| av_nil <| ra_isi (T := "tuple") (b := true) rfl (by decide +kernel) ⟨_, rfl, ift rfl ?_⟩
      refine sw_seq <| sw_if <| tv_or <| tv_not <| tv_B <| ev_cb <| av_cons <| ev_var rfl <| av_cons <| ev_ty <| av_nil <| ra_isi (T := "tuple") (b := true) rfl (by decide +kernel) ⟨_, rfl, iff' rfl ?_⟩
      refine tv_test <| ev_op <| ev_cb <| av_cons <| ev_var rfl <| av_nil <| ra_lenT <| ev_cb <| av_cons <| ev_var rfl <| av_nil <| ra_lenT <| rd_neI ⟨_, rfl, ifn (fun h => absurd rfl h) (fun _ => ?_)⟩
      refine sw_next ?_
      have hys : szL ys < 1000 := by simp only [sz] at hsz; omega
      have hly : ys.length ≤ szL ys := szL_len ys (by simpa [plain] using hpz.2)
      have hlz : zs.length ≤ szL zs := szL_len zs hpz.1
      refine sw_seq <| sw_asg <| ev_op <| ev_var rfl <| ev_lc gw_name <| iv_range1 <| av_cons <| ev_cb <| av_cons <| ev_var rfl <| av_nil <| ra_lenT <| av_nil ⟨_, rfl, by omega, by omega, ?_⟩
      refine LP.map (fun j _ => .tup [ys.getD j .non, ys.getD j .non]) (by rw [rgD_len]; exact sl (by omega)) (fun j d h => ?_) ?_
      · obtain ⟨hj, rfl⟩ := rgD_in h
        have hj' : j < ys.length := by omega
        have hg : atI ys ((0 : Int) + (j : Nat)) = some (ys.getD j .non) := by
          rw [Int.zero_add]
          exact atI_nat (by rw [List.getD_eq_getElem?_getD, List.getElem?_eq_getElem hj']; rfl)
        exact gv_name <| tv_yes ⟨rfl, ev_tup <| av_cons <| ev_op <| ev_var rfl <| ev_var rfl <| rd_ixT hg <| av_cons <| ev_op <| ev_var rfl <| ev_var rfl <| rd_ixT hg <| av_nil ⟨l2, rfl, rfl⟩⟩
      · have e2 : (rgD 0 ((ys.length : Int)).toNat).mapIdx (fun j _ => D.tup [ys.getD j .non, ys.getD j .non]) = ys.map fun y => .tup [y, y] := by
          apply List.ext_getElem?
          intro j
          rw [List.getElem?_mapIdx, rgD_get, List.getElem?_map, Int.toNat_natCast]
          by_cases hj : j < ys.length
          · rw [if_pos hj, List.getElem?_eq_getElem hj, List.getD_eq_getElem?_getD, List.getElem?_eq_getElem hj]; rfl
          · rw [if_neg hj, List.getElem?_eq_none (by omega)]; rfl
        rw [e2]
        refine rd_catM (.m MH.set_same) .f (by rw [List.length_map, List.length_map]; exact sl (by omega)) fun c hc => gv_name <| sw_next <| sw_next ?_
        have hc0 : M c = none := (kp.set ha).none hc
        refine ⟨szL zs + szL ys, by rw [hsz, sz]; omega, c, zs ++ ys, _, _, _, by rw [szL_app], rfl, hc0, by rw [MH.set_same, List.map_append], by rw [plainL_app, hpz.1]; simpa [plain] using hpz.2, by rw [szL_app]; simp only [sz] at hsz; omega, (kp.set ha).set hc0⟩
    | non =>
      refine sw_seq <| sw_if <| tv_B <| ev_cb <| av_cons <| ev_var rfl <| av_cons <| ev_ty <| av_nil <| ra_isi (T := "NoneType") (b := false) rfl (by decide +kernel) ⟨_, rfl, iff' rfl ?_⟩
      refine sw_seq <| sw_if <| tv_test <| ev_op <| ev_var rfl <| ev_non <| rd_isN ⟨_, rfl, ift rfl ?_⟩
      refine sw_seq <| sw_if <| tv_test <| ev_op <| ev_var rfl <| ev_non <| rd_notN ⟨_, rfl, iff' rfl ?_⟩
      refine sw_next <| sw_next <| sw_next <| sw_next <| ?_
      refine ⟨szL zs, by omega, a, zs, _, _, _, rfl, rfl, ha, MH.set_same, hpz.1, by omega, kp.set ha⟩
    | bl b =>
      refine sw_seq <| sw_if <| tv_B <| ev_cb <| av_cons <| ev_var rfl <| av_cons <| ev_ty <| av_nil <| ra_isi (T := "bool") (b := false) rfl (by decide +kernel) ⟨_, rfl, iff' rfl ?_⟩
      refine sw_seq <| sw_if <| tv_test <| ev_op <| ev_var rfl <| ev_non <| rd_isN ⟨_, rfl, iff' rfl ?_⟩
      refine sw_seq <| sw_if <| tv_or <| tv_B <| ev_cb <| av_cons <| ev_var rfl <| av_cons <| ev_ty <| av_nil <| ra_isi (T := "bool") (b := true) rfl (by decide +kernel) ⟨_, rfl, ift rfl ?_⟩
      refine ift rfl ?_
      refine sw_seq <| sw_if <| tv_or <| tv_not <| tv_B <| ev_cb <| av_cons <| ev_var rfl <| av_cons <| ev_ty <| av_nil <| ra_isi (T := "bool") (b := true) rfl (by decide +kernel) ⟨_, rfl, iff' rfl ?_⟩
      refine tv_or <| tv_not <| tv_B <| ev_cb <| av_cons <| ev_var rfl <| av_cons <| ev_ty <| av_nil <| ra_isi (T := "bool") (b := true) rfl (by decide +kernel) ⟨_, rfl, iff' rfl ?_⟩
      refine tv_test <| ev_op <| ev_var rfl <| ev_var rfl <| rd_neB ⟨_, rfl, ifn (fun h => absurd rfl h) (fun _ => ?_)⟩
      refine sw_next <| sw_next <| sw_next <| sw_next <| sw_next <| ?_
      refine ⟨szL zs, by omega, a, zs, _, _, _, rfl, rfl, ha, MH.set_same, hpz.1, by omega, kp.set ha⟩
    | int i =>
      refine sw_seq <| sw_if <| tv_B <| ev_cb <| av_cons <| ev_var rfl <| av_cons <| ev_ty <| av_nil <| ra_isi (T := "int") (b := false) rfl (by decide +kernel) ⟨_, rfl, iff' rfl ?_⟩
      refine sw_seq <| sw_if <| tv_test <| ev_op <| ev_var rfl <| ev_non <| rd_isN ⟨_, rfl, iff' rfl ?_⟩
      refine sw_seq <| sw_if <| tv_or <| tv_B <| ev_cb <| av_cons <| ev_var rfl <| av_cons <| ev_ty <| av_nil <| ra_isi (T := "int") (b := false) rfl (by decide +kernel) ⟨_, rfl, iff' rfl ?_⟩
      refine tv_B <| ev_cb <| av_cons <| ev_var rfl <| av_cons <| ev_ty <| av_nil <| ra_isi (T := "int") (b := false) rfl (by decide +kernel) ⟨_, rfl, iff' rfl ?_⟩
      refine sw_seq <| sw_if <| tv_B <| ev_cb <| av_cons <| ev_var rfl <| av_cons <| ev_ty <| av_nil <| ra_isi (T := "int") (b := false) rfl (by decide +kernel) ⟨_, rfl, iff' rfl ?_⟩
      refine sw_seq <| sw_if <| tv_or <| tv_not <| tv_B <| ev_cb <| av_cons <| ev_var rfl <| av_cons <| ev_ty <| av_nil <| ra_isi (T := "int") (b := true) rfl (by decide +kernel) ⟨_, rfl, iff' rfl ?_⟩
      refine tv_test <| ev_op <| ev_var rfl <| ev_var rfl <| rd_neI ⟨_, rfl, ifn (fun h => absurd rfl h) (fun _ => ?_)⟩
      refine sw_next <| sw_next <| sw_next <| sw_next <| sw_next <| sw_next <| ?_
      refine ⟨szL zs, by omega, a, zs, _, _, _, rfl, rfl, ha, MH.set_same, hpz.1, by omega, kp.set ha⟩
    | str z =>
      refine sw_seq <| sw_if <| tv_B <| ev_cb <| av_cons <| ev_var rfl <| av_cons <| ev_ty <| av_nil <| ra_isi (T := "str") (b := false) rfl (by decide +kernel) ⟨_, rfl, iff' rfl ?_⟩
      refine sw_seq <| sw_if <| tv_test <| ev_op <| ev_var rfl <| ev_non <| rd_isN ⟨_, rfl, iff' rfl ?_⟩
      refine sw_seq <| sw_if <| tv_or <| tv_B <| ev_cb <| av_cons <| ev_var rfl <| av_cons <| ev_ty <| av_nil <| ra_isi (T := "str") (b := false) rfl (by decide +kernel) ⟨_, rfl, iff' rfl ?_⟩
      refine tv_B <| ev_cb <| av_cons <| ev_var rfl <| av_cons <| ev_ty <| av_nil <| ra_isi (T := "str") (b := false) rfl (by decide +kernel) ⟨_, rfl, iff' rfl ?_⟩
      refine sw_seq <| sw_if <| tv_B <| ev_cb <| av_cons <| ev_var rfl <| av_cons <| ev_ty <| av_nil <| ra_isi (T := "str") (b := true) rfl (by decide +kernel) ⟨_, rfl, ift rfl ?_⟩
      refine sw_seq <| sw_if <| tv_or <| tv_not <| tv_B <| ev_cb <| av_cons <| ev_var rfl <| av_cons <| ev_ty <| av_nil <| ra_isi (T := "str") (b := true) rfl (by decide +kernel) ⟨_, rfl, iff' rfl ?_⟩
      refine tv_test <| ev_op <| ev_var rfl <| ev_var rfl <| rd_neS ⟨_, rfl, ifn (fun h => absurd rfl h) (fun _ => ?_)⟩
      refine sw_next <| sw_next <| sw_next <| sw_next <| sw_next <| sw_next <| ?_
      refine ⟨szL zs, by omega, a, zs, _, _, _, rfl, rfl, ha, MH.set_same, hpz.1, by omega, kp.set ha⟩
    | lst _ => exact absurd hpz.2 (by simp [plain])
    | ty _ => exact absurd hpz.2 (by simp [plain])
    | adr _ => exact absurd hpz.2 (by simp [plain])
    | scr _ => exact absurd hpz.2 (by simp [plain])
    | dk _ _ => exact absurd hpz.2 (by simp [plain])
    | ins _ _ _ => exact absurd hpz.2 (by simp [plain])
  · exact sw_seq <| sw_ret <| ev_bl <| hk _ kp
end
end WK

set_option Elab.async false
set_option linter.all false
set_option maxRecDepth 100000
set_option maxHeartbeats 4000000
namespace WK
open PySem PySem.Spec PyProof.Rows L2 Evl PL
/-! ### solids as data -/
abbrev nD (s : Nat) : D := .int (s : Nat)
def solidD (F : List (List Nat)) : D := .tup (F.map fun f => .tup (f.map nD))
/-- faces of m sides each, the sides 0 .. n - 1 once each, n even -/
structure Sol (F : List (List Nat)) (m n : Nat) : Prop where
  m34 : m = 3 ∨ m = 4
  sz : ∀ f ∈ F, f.length = m
  perm : F.flatten.Perm (List.range n)
  ev : n % 2 = 0
  n0 : 0 < n
  n64 : n < 64
theorem first_at {α : Type} [DecidableEq α] {x : α} : ∀ {l : List α}, x ∈ l → ∃ j, j < l.length ∧ l[j]? = some x ∧ ∀ i, i < j → l[i]? ≠ some x
  | [], h => by cases h
  | y :: l, h => by
    by_cases e : y = x
    · exact ⟨0, by simp, by simp [e], fun i hi => absurd hi (Nat.not_lt_zero i)⟩
    · have h' : x ∈ l := by
        rcases List.mem_cons.mp h with z | z
        · exact absurd z.symm e
        · exact z
      obtain ⟨j, h1, h2, h3⟩ := first_at h'
      refine ⟨j + 1, by simp; omega, by simpa using h2, fun i hi => ?_⟩
      cases i with
      | zero => simpa using e
      | succ i => simpa using h3 i (by omega)
theorem map_nat (f : List Nat) : f.map nD = (f.map fun s : Nat => (s : Int)).map D.int := by rw [List.map_map]; rfl
theorem back_nat {l : List (List Int)} {G : List (List Nat)} (h : l.Perm (G.map fun f => f.map fun s : Nat => (s : Int))) : ∃ F : List (List Nat), F.Perm G ∧ l = F.map fun f => f.map fun s : Nat => (s : Int) := by
  refine ⟨l.map fun f => f.map Int.toNat, ?_, ?_⟩
  · have := h.map fun f => f.map Int.toNat
    rw [List.map_map] at this
    refine this.trans ?_
    have e : (fun f : List Int => f.map Int.toNat) ∘ (fun f : List Nat => f.map fun s : Nat => (s : Int)) = id := by
      funext f
      show (f.map fun s : Nat => (s : Int)).map Int.toNat = f
      rw [List.map_map]
      have : (Int.toNat ∘ fun s : Nat => (s : Int)) = id := by funext s; exact Int.toNat_natCast s
      rw [this, List.map_id]
    rw [e, List.map_id]
  · rw [List.map_map]
    refine (List.map_id l).symm.trans (List.map_congr_left fun f hf => ?_)
    have := h.mem_iff.mp hf
    obtain ⟨g, _, rfl⟩ := List.mem_map.mp this
    show (g.map fun s : Nat => (s : Int)) = ((g.map fun s : Nat => (s : Int)).map Int.toNat).map fun s : Nat => (s : Int)
    rw [List.map_map, List.map_map]
    refine List.map_congr_left fun s _ => ?_
    show (s : Int) = (((s : Int)).toNat : Int)
    rw [Int.toNat_natCast]
def spOrdM (m : Nat) : PL.Spec := fun l M k => ∃ F : List (List Nat), l = [.lst (F.map fun f => .lst (f.map nD))] ∧ (∀ f ∈ F, f.length = m) ∧ (∀ f ∈ F, ∀ s ∈ f, s < 1000) ∧ m < 1000 ∧ F.length < 64 ∧
  ∀ F' M', (∀ f ∈ F', f.length = m) → F'.flatten.Perm F.flatten → Keep M M' → k (solidD F') M'
def spOrd : PL.Spec := fun l M k => ∃ m : {m : Nat // 1 ≤ m}, spOrdM m.1 l M k
theorem spOrd_len : ∀ l M k, spOrd l M k → l.length = 1 := fun l M k ⟨m, F, h, _⟩ => by rw [h]; rfl
theorem perm_map_inv {α β : Type} {f : α → β} : ∀ {l m : List β}, l.Perm m → ∀ (z : List α), m = z.map f → ∃ y : List α, y.Perm z ∧ l = y.map f := by
  intro l m hp
  induction hp with
  | nil => intro z e; exact ⟨[], by rw [List.map_eq_nil_iff.mp e.symm], rfl⟩
  | cons a p ih =>
    intro z e
    cases z with
    | nil => cases e
    | cons r z =>
      injection e with e1 e2
      obtain ⟨rs, h1, h2⟩ := ih z e2
      exact ⟨r :: rs, h1.cons r, by rw [h2, e1]; rfl⟩
  | swap a b l =>
    intro z e
    cases z with
    | nil => cases e
    | cons r z =>
      injection e with e1 e2
      cases z with
      | nil => cases e2
      | cons r2 z =>
        injection e2 with e3 e4
        exact ⟨r2 :: r :: z, List.Perm.swap r r2 z, by rw [e1, e3, e4]; rfl⟩
  | trans p1 p2 ih1 ih2 =>
    intro z e
    obtain ⟨y, h1, h2⟩ := ih2 z e
    obtain ⟨x, h3, h4⟩ := ih1 y h2
    exact ⟨x, h3.trans h1, h4⟩
/-! spots and their pairs -/
def flatP {κ : Type} (ps : List (κ × κ)) : List κ := ps.flatMap fun p => [p.1, p.2]
theorem flatP_perm {κ : Type} {ps qs : List (κ × κ)} (h : ps.Perm qs) : (flatP ps).Perm (flatP qs) := h.flatMap_right _
def nuf {κ : Type} [DecidableEq κ] (nu : List (κ × Nat)) (s : κ) : Nat := ((nu.find? fun x => decide (x.1 = s)).map (·.2)).getD 0
theorem nuf_cons {κ : Type} [DecidableEq κ] (x : κ × Nat) (r : List (κ × Nat)) (s : κ) : nuf (x :: r) s = if x.1 = s then x.2 else nuf r s := by
  unfold nuf
  rw [List.find?_cons]
  by_cases e : x.1 = s
  · rw [decide_eq_true e, if_pos e]; rfl
  · rw [decide_eq_false e, if_neg e]
theorem nuf_map {κ : Type} [DecidableEq κ] : ∀ (nu : List (κ × Nat)), (nu.map (·.1)).Nodup → (nu.map (·.1)).map (nuf nu) = nu.map (·.2)
  | [], _ => rfl
  | x :: r, h => by
    rw [List.map_cons, List.nodup_cons] at h
    rw [List.map_cons, List.map_cons, List.map_cons, nuf_cons, if_pos rfl, ← nuf_map r h.2]
    congr 1
    refine List.map_congr_left fun s hs => ?_
    rw [nuf_cons, if_neg fun e => h.1 (by rw [e]; exact hs)]
theorem nuf_val {κ : Type} [DecidableEq κ] : ∀ (nu : List (κ × Nat)) (s : κ), s ∈ nu.map (·.1) → valM (nu.map fun x => (x.1, nD x.2)) s = some (nD (nuf nu s))
  | x :: r, s, h => by
    rw [List.map_cons, valM_cons, nuf_cons]
    by_cases e : x.1 = s
    · rw [if_pos e, if_pos e]
    · rw [if_neg e, if_neg e]
      refine nuf_val r s ?_
      rcases List.mem_cons.mp h with z | z
      · exact absurd z.symm e
      · exact z
theorem put_new {κ : Type} [DecidableEq κ] {nu : List (κ × Nat)} {s : κ} {n : Nat} (h : s ∉ nu.map (·.1)) : putM (nu.map fun x => (x.1, nD x.2)) s (nD n) = (nu ++ [(s, n)]).map fun x => (x.1, nD x.2) := by
  rw [putM_new (valM_none (by rw [List.map_map]; exact h)), List.map_append]; rfl
def spNumN : PL.Spec := fun l M k => ∃ (p q : Addr) (faces : List (List NestedKey)) (pairs : List (NestedKey × NestedKey)) (m : Nat), l = [.adr p, .lst (faces.map fun f => .lst (f.map keyD)), .lst (pairs.map fun r => .tup [keyD r.1, keyD r.2])] ∧ (flatP pairs).Nodup ∧ faces.flatten.Perm (flatP pairs) ∧
  (∀ f ∈ faces, f.length = m) ∧ 1 ≤ m ∧ m < 1000 ∧ faces.length < 64 ∧ pairs.length ≤ 400 ∧ (∀ s ∈ flatP pairs, ∃ ks, s = .tup ks ∧ (NestedKey.tup ks).depth ≤ 8) ∧ DkOk p q M ∧ ∀ F' M', (∀ f ∈ F', f.length = m) → F'.flatten.Perm (List.range (2 * pairs.length)) → DkOk p q M' → Fr p q M M' → k (solidD F') M'

def spNumI : PL.Spec := fun l M k => ∃ (p q : Addr) (faces : List (List L2.Key)) (pairs : List (L2.Key × L2.Key)) (m : Nat), l = [.adr p, .lst (faces.map fun f => .lst (f.map kD)), .lst (pairs.map fun r => .tup [kD r.1, kD r.2])] ∧ (flatP pairs).Nodup ∧ faces.flatten.Perm (flatP pairs) ∧
  (∀ f ∈ faces, f.length = m) ∧ 1 ≤ m ∧ m < 1000 ∧ faces.length < 64 ∧ pairs.length ≤ 400 ∧ DkOk p q M ∧ ∀ F' M', (∀ f ∈ F', f.length = m) → F'.flatten.Perm (List.range (2 * pairs.length)) → DkOk p q M' → Fr p q M M' → k (solidD F') M'

def spNum : PL.Spec := fun l M k => spNumN l M k ∨ spNumI l M k
theorem spNum_len : ∀ l M k, spNum l M k → l.length = 3 := fun l M k h => by
  rcases h with ⟨_, _, _, _, _, h, _⟩ | ⟨_, _, _, _, _, h, _⟩ <;> rw [h] <;> rfl
abbrev s_law_ordered : Stmt := top 23
abbrev N_law_ordered : List Str := ["faces", "found", "face", "at"]
theorem sc_law_ordered : FnScope N_law_ordered ["faces"] (defScope s_law_ordered) := ⟨rfl, rfl, rfl, by decide +kernel, rfl, by decide +kernel, by decide +kernel⟩
abbrev s_law_numbered : Stmt := top 24
abbrev N_law_numbered : List Str := ["deck", "faces", "pairs", "names", "at", "pair", "turned", "face", "spot"]
theorem sc_law_numbered : FnScope N_law_numbered ["deck", "faces", "pairs"] (defScope s_law_numbered) := ⟨rfl, rfl, rfl, by decide +kernel, rfl, by decide +kernel, by decide +kernel⟩
section
variable {P : Program} {w : World} {K : PySem.W.Frag} {mg : Str → Option Value} {base : Heap}
theorem ok_law_ordered {f C mv : Addr} {fd : FuncData} {tk1 tk2 : Tok} (F : Fun K "_law_ordered" "_law_ordered" s_law_ordered f fd) (T : Bi mg)  : FnOk P w K mg base CX0 1 f fd ["faces"] (SpD K w spOrd) := by
  refine F.ok sc_law_ordered (fun vs H Q E h => SpD.len (n := 1) (spOrd_len) h) (fun cdv A outer s H vs Q E hr h => ?_)
  have hu := hu_of hr
  have hu16 := hu16_of hr
  obtain ⟨⟨m, hm1⟩, h⟩ := SpD.ex h
  refine ⟨_, (pss_cons (ps_set (i := 1) sc_law_ordered.nd rfl (Or.inl rfl) (pe_lst pa_nil))
(pss_cons (ps_for PassesOwn.never rfl (pi_list (pv 0)) (pg_name (i := 2) sc_law_ordered.nd rfl (Or.inl rfl))
(pss_cons (ps_set (i := 3) sc_law_ordered.nd rfl (Or.inl rfl) (pe_bm PySem.F.plainAttrs_list PySem.F.slot_list_index PySem.F.type_list_index mt_index (pv 2) (pa_cons (pe_callB (cr_min rfl) (by rfl) T.min (by decide +kernel) (pa_cons (pv 2) pa_nil)) pa_nil)))
(pss_one (ps_expr (pe_bm PySem.F.plainAttrs_list PySem.F.slot_list_append PySem.F.type_list_append mt_append (pv 1) (pa_cons (pe_callTy cb_tuple (by rfl) T.tuple (by decide +kernel) (pa_cons (pe_op op_cat (pe_slice sl_list (pv 2) (po_some (pv 3)) po_none) (pe_slice sl_list (pv 2) po_none (po_some (pv 3)))) pa_nil)) pa_nil))))))
(pss_one (ps_ret (pe_callTy cb_tuple (by rfl) T.tuple (by decide +kernel) (pa_cons (pe_callB (cr_sortT (d := m) (B := 1000) hm1) (by rfl) T.sorted (by decide +kernel) (pa_cons (pv 1) pa_nil)) pa_nil)))))), go h ?_⟩
  clear hu hu16 hr h
  rintro l M k ⟨F, rfl, hsz, hlt, hm, hF, hk⟩
  refine sw_seq <| sw_asg <| ev_lstM <| av_nil ⟨Nat.zero_le _, fun c hc => gv_name ?_⟩
  refine sw_seq <| sw_for <| iv_list <| ev_var rfl ⟨_, .inl rfl, FP.start (fun i ds M' => ∃ (G : List (List Nat)) (x o1 o2 : Option D), ds = [x, some (.adr c), o1, o2] ∧ M' c = some (.lst ((G.map fun f => f.map fun s : Nat => (s : Int)).map rowD)) ∧ (∀ f ∈ G, f.length = m) ∧ G.flatten.Perm (F.take i).flatten ∧ G.length = i ∧ Keep M M') ⟨[], _, none, none, rfl, MH.set_same, fun f hf => (by cases hf), List.Perm.refl _, rfl, (Keep.refl M).set hc⟩ ?_ ?_⟩
  · rintro j d ds M1 hj ⟨G, x, o1, o2, rfl, h1, hg, hp, hl, kp⟩
    rw [List.getElem?_map] at hj
    obtain ⟨f, hf, rfl⟩ := Option.map_eq_some_iff.mp hj
    have hfF : f ∈ F := List.mem_of_getElem? hf
    have hfl : f.length = m := hsz f hfF
    have hm : m < 1000 := hm
    have hjl : j < F.length := (List.getElem?_eq_some_iff.mp hf).1
    refine gv_name ?_
    have hx : ([x, some (D.adr c), o1, o2].set 2 (some (.lst (f.map nD))))[2]? = some (some (.lst ((f.map fun s : Nat => (s : Int)).map D.int))) := by rw [← map_nat]; rfl
    refine sw_seq <| sw_asg <| ev_bm <| ev_var hx ⟨tyd_lst, av_cons <| ev_cb <| av_cons <| ev_var hx <| av_nil <| ra_min .f (by rw [List.length_map]; omega) fun mn hmn _ => ?_⟩
    obtain ⟨i, i1, i2, i3⟩ := first_at hmn
    rw [List.length_map] at i1
    refine av_nil <| rm_index .f i2 i3 <| gv_name ?_
    refine sw_seq <| sw_drop <| ev_bm <| ev_var rfl ⟨tyd_adr h1, av_cons <| ev_cb <| av_cons <| ev_op <| ev_sl <| ev_var rfl <| ov_some <| ev_var rfl ⟨_, rfl, ov_none <| rsl_list <| ev_sl <| ev_var rfl <| ov_none <| ov_some <| ev_var rfl ⟨_, rfl, rsl_list <| rd_cat .f .f ?_ <| av_nil <| ra_tuple .f <| av_nil <| rm_append h1 ?_ <| sw_next ?_⟩⟩⟩
    · rw [cut_from, cut_to, List.length_drop, List.length_take, List.length_map]; exact sl (by omega)
    · rw [List.length_map, List.length_map]; exact sl' (by omega)
    · refine ⟨G ++ [f.drop i ++ f.take i], x, _, _, rfl, ?_, ?_, ?_, by rw [List.length_append, hl]; rfl, kp.set hc⟩
      · rw [MH.set_same, cut_from, cut_to, List.map_append, List.map_append]
        have e : rowD ((f.drop i ++ f.take i).map fun s : Nat => (s : Int)) = .tup ((f.map nD).drop i ++ (f.map nD).take i) := by
          unfold rowD
          rw [← map_nat, List.map_append, List.map_drop, List.map_take]
        show _ = some (MO.lst (_ ++ [rowD ((f.drop i ++ f.take i).map fun s : Nat => (s : Int))]))
        rw [e]
      · intro g hgm
        rcases List.mem_append.mp hgm with z | z
        · exact hg g z
        · have : g = f.drop i ++ f.take i := by simpa using z
          rw [this, List.length_append, List.length_drop, List.length_take]; omega
      · rw [List.flatten_append, List.take_succ, hf]
        simp only [Option.toList_some, List.flatten_append, List.flatten_cons, List.flatten_nil, List.append_nil]
        refine List.Perm.append hp ?_
        exact List.perm_append_comm.trans (by rw [List.take_append_drop])
  · rintro ds M1 ⟨G, x, o1, o2, rfl, h1, hg, hp, hl, kp⟩
    rw [List.length_map, List.take_length] at hp
    rw [List.length_map] at hl
    refine sw_seq <| sw_ret <| ev_cb <| av_cons <| ev_cb <| av_cons <| ev_var rfl <| av_nil <| ra_sortT (.m h1) (by rw [List.length_map]; omega) ?_ fun rows' hr => av_nil <| ra_tuple .f ?_
    · intro r hr
      obtain ⟨g, hgm, rfl⟩ := List.mem_map.mp hr
      refine ⟨by rw [List.length_map]; exact hg g hgm, fun n hn => ?_⟩
      obtain ⟨s, hs, rfl⟩ := List.mem_map.mp hn
      have : s ∈ F.flatten := hp.mem_iff.mp (List.mem_flatten.mpr ⟨g, hgm, hs⟩)
      obtain ⟨f, hf, hsf⟩ := List.mem_flatten.mp this
      have := hlt f hf s hsf
      omega
    · obtain ⟨F', h2, rfl⟩ := back_nat hr
      have e : (F'.map fun f => f.map fun s : Nat => (s : Int)).map rowD = F'.map fun f => .tup (f.map nD) := by
        rw [List.map_map]
        refine List.map_congr_left fun f _ => ?_
        show D.tup _ = D.tup _
        rw [map_nat]
      rw [e]
      exact hk F' M1 (fun f hf => hg f (h2.mem_iff.mp hf)) (h2.flatten.trans hp) kp
theorem ok_law_numbered {f C mv : Addr} {fd : FuncData} {tk1 tk2 : Tok} (F : Fun K "_law_numbered" "_law_numbered" s_law_numbered f fd) (T : Bi mg) (c_law_ordered : Cal P w K mg base "_law_ordered" 1 ["faces"] spOrd) (c_law_shuffled : Cal P w K mg base "_law_shuffled" 2 ["deck", "things"] spShuf) (c_law_deal : Cal P w K mg base "_law_deal" 1 ["deck", "many"] spDeal) : FnOk P w K mg base CX0 3 f fd ["deck", "faces", "pairs"] (SpD K w spNum) := by
  refine F.ok sc_law_numbered (fun vs H Q E h => SpD.len (n := 3) (spNum_len) h) (fun cdv A outer s H vs Q E hr h => ?_)
  have hu := hu_of hr
  have hu16 := hu16_of hr
  rcases SpD.or h with h | h
  · refine ⟨_, (pss_cons (ps_set (i := 3) sc_law_numbered.nd rfl (Or.inr rfl) pe_nnew)
(pss_cons (ps_for PassesOwn.never rfl (pi_enumA (by rfl) T.enumerate (pa_cons (pe_cal c_law_shuffled (hr.mono (by decide)) (by rfl) (pa_cons (pv 0) (pa_cons (pv 2) pa_nil))) pa_nil)) (pg_tup (by rfl) (pgs_cons (pg_name (i := 4) sc_law_numbered.nd rfl (Or.inl rfl)) (pgs_cons (pg_name (i := 5) sc_law_numbered.nd rfl (Or.inl rfl)) pgs_nil)))
(pss_cons (ps_set (i := 6) sc_law_numbered.nd rfl (Or.inl rfl) (pe_cal c_law_deal (hr.mono (by decide)) (by rfl) (pa_cons (pv 0) (pa_cons pe_int pa_nil))))
(pss_cons (ps_asg (pe_op op_add (pe_op op_mul pe_int (pv 4)) (pv 6)) (pg_sub (pv 3) (pe_ix ix_tup (pv 5) pe_int (fun _ _ => rfl)) (set_nd hu16)))
(pss_one (ps_asg (pe_op op_sub (pe_op op_add (pe_op op_mul pe_int (pv 4)) pe_int) (pv 6)) (pg_sub (pv 3) (pe_ix ix_tup (pv 5) pe_int (fun _ _ => rfl)) (set_nd hu16)))))))
(pss_one (ps_ret (pe_cal c_law_ordered (hr.mono (by decide)) (by rfl) (pa_cons (pe_lc (own := [("face", 7)]) (g := gName 7) (by rfl) sc_law_numbered.nd (pi_list (pv 1)) (blkOk_by (own := [("face", 7)]) (N := N_law_numbered) (sc := defScope s_law_numbered) (by decide +kernel)) (fun _ _ _ _ _ => (pg_name (i := 7) sc_law_numbered.nd rfl (Or.inl rfl))) (fun _ _ _ _ _ => pts_nil) (fun _ _ _ _ _ => (pe_lc (own := [("spot", 8)]) (g := gName 8) (by rfl) sc_law_numbered.nd (pi_listK rfl (pv 7)) (blkOk_by (own := [("spot", 8)]) (N := N_law_numbered) (sc := ({ kind := .function, names := [(".0", .local), ("face", .local), ("names", .cell)], isGenerator := false, isCoroutine := false, more := [] } : Scope)) (by decide +kernel)) (fun _ _ _ _ _ => (pg_name (i := 8) sc_law_numbered.nd rfl (Or.inl rfl))) (fun _ _ _ _ _ => pts_nil) (fun _ _ _ _ _ => (pe_ngetK rfl rfl hu16 (pv 3) (pv 8) (fun _ _ => rfl)))))) pa_nil)))))), go h ?_⟩
    clear hu hu16 hr h
    rintro l M k ⟨p, q, faces, pairs, m, rfl, nd, hfp, hsz, hm1, hm, hF, hP, hks, dk, hk⟩
    refine sw_seq <| sw_asg <| ev_nnew fun c hc => gv_name ?_
    have nc : c ≠ p ∧ c ≠ q := ⟨dk.np hc, dk.nq hc⟩
    refine sw_seq <| sw_for <| iv_enum <| av_cons <| ev_call <| av_cons <| ev_var rfl <| av_cons <| ev_var rfl <| av_nil ⟨p, q, _, _, rfl, .inl .f, by rw [List.length_map]; omega, dk.set nc.1 nc.2, fun ys M1 hys dk1 fr1 => av_nil ⟨_, .inl rfl, ?_⟩⟩
    obtain ⟨zs, hz, rfl⟩ := perm_map_inv hys pairs rfl
    have h1 := fr1 c _ MH.set_same nc.1 nc.2
    have fr1' : Fr p q M M1 := fun b o e e1 e2 => fr1 b o (((Fr.refl M).set hc) b o e e1 e2) e1 e2
    have ndz : (flatP zs).Nodup := (flatP_perm hz).nodup_iff.mpr nd
    have hzl : zs.length = pairs.length := hz.length_eq
    refine FP.start (fun i ds M' => ∃ (nu : List (NestedKey × Nat)) (o1 o2 o3 o4 : Option D), ds = [some (.adr p), some (.lst (faces.map fun f => .lst (f.map keyD))), o1, some (.adr c), o2, o3, o4, none, none] ∧ M' c = some (.dn (nu.map fun x => (x.1, nD x.2))) ∧ nu.map (·.1) = flatP (zs.take i) ∧ (nu.map (·.2)).Perm (List.range (2 * i)) ∧ DkOk p q M' ∧ Fr p q M M') ⟨[], _, none, none, none, rfl, h1, rfl, List.Perm.refl _, dk1, fr1'⟩ ?_ ?_
    · rintro i d ds M2 hi ⟨nu, o1, o2, o3, o4, rfl, h2, hk1, hk2, dk2, fr2⟩
      have hil : i < zs.length := by
        have := (List.getElem?_eq_some_iff.mp hi).1
        unfold enumD at this
        rw [List.length_mapIdx, List.length_map] at this; exact this
      obtain ⟨a, b, hab⟩ : ∃ a b, zs[i]? = some (a, b) := ⟨zs[i].1, zs[i].2, List.getElem?_eq_getElem hil⟩
      have hd : d = .tup [.int (i : Nat), .tup [keyD a, keyD b]] := by
        unfold enumD at hi
        rw [List.getElem?_mapIdx, List.getElem?_map, hab] at hi
        exact (Option.some.inj hi).symm
      subst hd
      have etk : zs.take (i + 1) = zs.take i ++ [(a, b)] := by rw [List.take_succ, hab]; rfl
      have esp : flatP (zs.take (i + 1)) = flatP (zs.take i) ++ [a, b] := by rw [etk]; unfold flatP; rw [List.flatMap_append]; rfl
      have ndi : (flatP (zs.take (i + 1))).Nodup := by
        refine List.Nodup.sublist ?_ ndz
        have h : zs = zs.take (i + 1) ++ zs.drop (i + 1) := (List.take_append_drop _ _).symm
        have h2 : flatP zs = flatP (zs.take (i + 1)) ++ flatP (zs.drop (i + 1)) := by
          conv => lhs; rw [h]
          unfold flatP; rw [List.flatMap_append]
        rw [h2]; exact List.sublist_append_left _ _
      rw [esp] at ndi
      have ha1 : a ∉ nu.map (·.1) := by
        rw [hk1]
        exact fun z => (List.nodup_append.mp ndi).2.2 a z a (by simp) rfl
      have hb1 : b ∉ nu.map (·.1) := by
        rw [hk1]
        exact fun z => (List.nodup_append.mp ndi).2.2 b z b (by simp) rfl
      have hab1 : a ≠ b := by
        have := (List.nodup_append.mp ndi).2.1
        simpa using this
      have hnl : nu.length = 2 * i := by
        have := hk2.length_eq
        rw [List.length_map, List.length_range] at this; exact this
      refine gv_tup rfl <| gvs_cons <| gv_name <| gvs_cons <| gv_name <| gvs_nil ?_
      refine sw_seq <| sw_asg <| ev_call <| av_cons <| ev_var rfl <| av_cons <| ev_int <| av_nil ⟨p, q, _, rfl, by decide, by decide, dk2, fun t M3 t0 t1 dk3 fr3 => gv_name ?_⟩
      have h3 := fr3 c _ h2 nc.1 nc.2
      obtain ⟨u, hu2, hu⟩ : ∃ u : Nat, u < 2 ∧ t = (u : Int) := ⟨t.toNat, by omega, by omega⟩
      subst hu
      have e1 : (2 : Int) * (i : Nat) + (u : Nat) = ((2 * i + u : Nat) : Int) := by omega
      have e2 : (2 : Int) * (i : Nat) + 1 - (u : Nat) = ((2 * i + 1 - u : Nat) : Int) := by omega
      have hma : a ∈ flatP pairs := by rw [← (flatP_perm hz).mem_iff]; exact List.mem_flatMap.mpr ⟨(a, b), List.mem_of_getElem? hab, by simp⟩
      have hmb : b ∈ flatP pairs := by rw [← (flatP_perm hz).mem_iff]; exact List.mem_flatMap.mpr ⟨(a, b), List.mem_of_getElem? hab, by simp⟩
      obtain ⟨ka, rfl, hda⟩ := hks a hma
      obtain ⟨kb, rfl, hdb⟩ := hks b hmb
      refine sw_seq <| sw_asg <| ev_op <| ev_op <| ev_int <| ev_var rfl <| rd_mul (.inl (by decide)) <| ev_var rfl <| rd_int <| gv_sub <| ev_var rfl <| ev_op <| ev_var rfl <| ev_int <| rd_ixT at0 <| rs_dn (kk := ka) rfl h3 hda (by rw [List.length_map, hnl]; exact sl (by omega)) ?_
      rw [e1, put_new ha1]
      refine sw_seq <| sw_asg <| ev_op <| ev_op <| ev_op <| ev_int <| ev_var rfl <| rd_mul (.inl (by decide)) <| ev_int <| rd_int <| ev_var rfl <| rd_int <| gv_sub <| ev_var rfl <| ev_op <| ev_var rfl <| ev_int <| rd_ixT at1 <| rs_dn (kk := kb) rfl MH.set_same hdb (by rw [List.length_map, List.length_append, hnl]; exact sl (by simp; omega)) ?_
      have hb2 : (NestedKey.tup kb) ∉ (nu ++ [(NestedKey.tup ka, 2 * i + u)]).map (·.1) := by
        rw [List.map_append, List.mem_append, not_or]
        exact ⟨hb1, by simpa using hab1.symm⟩
      rw [e2, put_new hb2, MH.set_set]
      refine sw_next ?_
      refine ⟨_, _, _, _, _, rfl, MH.set_same, ?_, ?_, dk3.set nc.1 nc.2, (fr2.trans fr3).set hc⟩
      · rw [List.map_append, List.map_append, hk1, esp, List.append_assoc]; rfl
      · rw [List.map_append, List.map_append, List.append_assoc]
        show ((nu.map (·.2)) ++ [2 * i + u, 2 * i + 1 - u]).Perm (List.range (2 * (i + 1)))
        rw [show 2 * (i + 1) = 2 * i + 1 + 1 by omega, List.range_succ, List.range_succ, List.append_assoc]
        refine List.Perm.append hk2 ?_
        rcases (show u = 0 ∨ u = 1 by omega) with z | z
        · subst z; exact List.Perm.refl _
        · subst z; exact List.Perm.swap _ _ _
    · rintro ds M2 ⟨nu, o1, o2, o3, o4, rfl, h2, hk1, hk2, dk2, fr2⟩
      have hel : (enumD (zs.map fun r => D.tup [keyD r.1, keyD r.2])).length = pairs.length := by
        unfold enumD
        rw [List.length_mapIdx, List.length_map, hzl]
      rw [hel] at hk1 hk2
      rw [← hzl, List.take_length] at hk1
      have hmem : ∀ s, s ∈ faces.flatten → s ∈ nu.map (·.1) := fun s hs => by
        rw [hk1, (flatP_perm hz).mem_iff]; exact hfp.mem_iff.mp hs
      refine sw_seq <| sw_ret <| ev_call <| av_cons <| ev_lc gw_name <| iv_list <| ev_var rfl ⟨_, .inl rfl, ?_⟩
      refine LP.map (fun j _ => .lst (((faces.getD j []).map (nuf nu)).map nD)) (by rw [List.length_map]; exact sl (by omega)) (fun j d hj => ?_) ?_
      · rw [List.getElem?_map] at hj
        obtain ⟨f, hf, rfl⟩ := Option.map_eq_some_iff.mp hj
        have hfm : f ∈ faces := List.mem_of_getElem? hf
        refine gv_name <| tv_yes ⟨rfl, ev_lc gw_name <| iv_list <| ev_var rfl ⟨_, .inl rfl, ?_⟩⟩
        refine LP.map (fun j _ => nD (nuf nu (f.getD j .none))) (by rw [List.length_map, hsz f hfm]; exact sl (by omega)) (fun i d hi => ?_) ?_
        · rw [List.getElem?_map] at hi
          obtain ⟨s, hs, rfl⟩ := Option.map_eq_some_iff.mp hi
          have hsm : s ∈ faces.flatten := List.mem_flatten.mpr ⟨f, hfm, List.mem_of_getElem? hs⟩
          have hgd : f.getD i .none = s := by rw [List.getD_eq_getElem?_getD, hs]; rfl
          have hv := nuf_val nu s (hmem s hsm)
          obtain ⟨ks, rfl, hdk⟩ := hks s (hfp.mem_iff.mp hsm)
          exact gv_name <| tv_yes ⟨rfl, ev_nget <| ev_var rfl <| ev_var rfl ⟨c, _, ks, _, rfl, h2, rfl, hdk, hv, by rw [hgd], rfl⟩⟩
        · refine ⟨?_, rfl⟩
          have e : faces.getD j [] = f := by rw [List.getD_eq_getElem?_getD, hf]; rfl
          rw [e]
          congr 1
          apply List.ext_getElem?
          intro i
          rw [List.getElem?_mapIdx, List.getElem?_map, List.getElem?_map, List.getElem?_map]
          cases hi : f[i]? with
          | none => rfl
          | some s => rw [List.getD_eq_getElem?_getD, hi]; rfl
      · have e : (faces.map fun f => D.lst (f.map keyD)).mapIdx (fun j _ => D.lst (((faces.getD j []).map (nuf nu)).map nD)) = (faces.map fun f => f.map (nuf nu)).map fun f => .lst (f.map nD) := by
          apply List.ext_getElem?
          intro i
          rw [List.getElem?_mapIdx, List.getElem?_map, List.getElem?_map, List.getElem?_map]
          cases hi : faces[i]? with
          | none => rfl
          | some s => rw [List.getD_eq_getElem?_getD, hi]; rfl
        rw [e]
        have hpm : (faces.map fun f => f.map (nuf nu)).flatten.Perm (List.range (2 * pairs.length)) := by
          rw [← List.map_flatten]
          have h1 : (faces.flatten.map (nuf nu)).Perm ((nu.map (·.1)).map (nuf nu)) := by
            refine List.Perm.map _ (hfp.trans ?_)
            rw [hk1]; exact (flatP_perm hz).symm
          rw [nuf_map nu (by rw [hk1]; exact ndz)] at h1
          exact h1.trans hk2
        refine av_nil ⟨⟨m, hm1⟩, faces.map fun f => f.map (nuf nu), rfl, ?_, ?_, hm, by rw [List.length_map]; exact hF, fun F' M' hF1 hF2 kp => ?_⟩
        · intro f hf
          obtain ⟨g, hg, rfl⟩ := List.mem_map.mp hf
          rw [List.length_map]; exact hsz g hg
        · intro f hf s hs
          have : s ∈ (faces.map fun f => f.map (nuf nu)).flatten := List.mem_flatten.mpr ⟨f, hf, hs⟩
          have := List.mem_range.mp (hpm.mem_iff.mp this)
          omega
        · exact hk F' M' hF1 (hF2.trans hpm) (dk2.keep kp) (fr2.trans kp.fr)

  · refine ⟨_, (pss_cons (ps_set (i := 3) sc_law_numbered.nd rfl (Or.inr rfl) pe_dnewK)
(pss_cons (ps_for PassesOwn.never rfl (pi_enumA (by rfl) T.enumerate (pa_cons (pe_cal c_law_shuffled (hr.mono (by decide)) (by rfl) (pa_cons (pv 0) (pa_cons (pv 2) pa_nil))) pa_nil)) (pg_tup (by rfl) (pgs_cons (pg_name (i := 4) sc_law_numbered.nd rfl (Or.inl rfl)) (pgs_cons (pg_name (i := 5) sc_law_numbered.nd rfl (Or.inl rfl)) pgs_nil)))
(pss_cons (ps_set (i := 6) sc_law_numbered.nd rfl (Or.inl rfl) (pe_cal c_law_deal (hr.mono (by decide)) (by rfl) (pa_cons (pv 0) (pa_cons pe_int pa_nil))))
(pss_cons (ps_asg (pe_op op_add (pe_op op_mul pe_int (pv 4)) (pv 6)) (pg_sub (pv 3) (pe_ix ix_tup (pv 5) pe_int (fun _ _ => rfl)) (set_dict hu)))
(pss_one (ps_asg (pe_op op_sub (pe_op op_add (pe_op op_mul pe_int (pv 4)) pe_int) (pv 6)) (pg_sub (pv 3) (pe_ix ix_tup (pv 5) pe_int (fun _ _ => rfl)) (set_dict hu)))))))
(pss_one (ps_ret (pe_cal c_law_ordered (hr.mono (by decide)) (by rfl) (pa_cons (pe_lc (own := [("face", 7)]) (g := gName 7) (by rfl) sc_law_numbered.nd (pi_list (pv 1)) (blkOk_by (own := [("face", 7)]) (N := N_law_numbered) (sc := defScope s_law_numbered) (by decide +kernel)) (fun _ _ _ _ _ => (pg_name (i := 7) sc_law_numbered.nd rfl (Or.inl rfl))) (fun _ _ _ _ _ => pts_nil) (fun _ _ _ _ _ => (pe_lc (own := [("spot", 8)]) (g := gName 8) (by rfl) sc_law_numbered.nd (pi_listK rfl (pv 7)) (blkOk_by (own := [("spot", 8)]) (N := N_law_numbered) (sc := ({ kind := .function, names := [(".0", .local), ("face", .local), ("names", .cell)], isGenerator := false, isCoroutine := false, more := [] } : Scope)) (by decide +kernel)) (fun _ _ _ _ _ => (pg_name (i := 8) sc_law_numbered.nd rfl (Or.inl rfl))) (fun _ _ _ _ _ => pts_nil) (fun _ _ _ _ _ => (pe_dget hu (pv 3) (pv 8) (fun _ _ => rfl)))))) pa_nil)))))), go h ?_⟩
    clear hu hu16 hr h
    rintro l M k ⟨p, q, faces, pairs, m, rfl, nd, hfp, hsz, hm1, hm, hF, hP, dk, hk⟩
    refine sw_seq <| sw_asg <| ev_dnewK fun c hc => gv_name ?_
    have nc : c ≠ p ∧ c ≠ q := ⟨dk.np hc, dk.nq hc⟩
    refine sw_seq <| sw_for <| iv_enum <| av_cons <| ev_call <| av_cons <| ev_var rfl <| av_cons <| ev_var rfl <| av_nil ⟨p, q, _, _, rfl, .inl .f, by rw [List.length_map]; omega, dk.set nc.1 nc.2, fun ys M1 hys dk1 fr1 => av_nil ⟨_, .inl rfl, ?_⟩⟩
    obtain ⟨zs, hz, rfl⟩ := perm_map_inv hys pairs rfl
    have h1 := fr1 c _ MH.set_same nc.1 nc.2
    have fr1' : Fr p q M M1 := fun b o e e1 e2 => fr1 b o (((Fr.refl M).set hc) b o e e1 e2) e1 e2
    have ndz : (flatP zs).Nodup := (flatP_perm hz).nodup_iff.mpr nd
    have hzl : zs.length = pairs.length := hz.length_eq
    refine FP.start (fun i ds M' => ∃ (nu : List (L2.Key × Nat)) (o1 o2 o3 o4 : Option D), ds = [some (.adr p), some (.lst (faces.map fun f => .lst (f.map kD))), o1, some (.adr c), o2, o3, o4, none, none] ∧ M' c = some (.dk (nu.map fun x => (x.1, nD x.2))) ∧ nu.map (·.1) = flatP (zs.take i) ∧ (nu.map (·.2)).Perm (List.range (2 * i)) ∧ DkOk p q M' ∧ Fr p q M M') ⟨[], _, none, none, none, rfl, h1, rfl, List.Perm.refl _, dk1, fr1'⟩ ?_ ?_
    · rintro i d ds M2 hi ⟨nu, o1, o2, o3, o4, rfl, h2, hk1, hk2, dk2, fr2⟩
      have hil : i < zs.length := by
        have := (List.getElem?_eq_some_iff.mp hi).1
        unfold enumD at this
        rw [List.length_mapIdx, List.length_map] at this; exact this
      obtain ⟨a, b, hab⟩ : ∃ a b, zs[i]? = some (a, b) := ⟨zs[i].1, zs[i].2, List.getElem?_eq_getElem hil⟩
      have hd : d = .tup [.int (i : Nat), .tup [kD a, kD b]] := by
        unfold enumD at hi
        rw [List.getElem?_mapIdx, List.getElem?_map, hab] at hi
        exact (Option.some.inj hi).symm
      subst hd
      have etk : zs.take (i + 1) = zs.take i ++ [(a, b)] := by rw [List.take_succ, hab]; rfl
      have esp : flatP (zs.take (i + 1)) = flatP (zs.take i) ++ [a, b] := by rw [etk]; unfold flatP; rw [List.flatMap_append]; rfl
      have ndi : (flatP (zs.take (i + 1))).Nodup := by
        refine List.Nodup.sublist ?_ ndz
        have h : zs = zs.take (i + 1) ++ zs.drop (i + 1) := (List.take_append_drop _ _).symm
        have h2 : flatP zs = flatP (zs.take (i + 1)) ++ flatP (zs.drop (i + 1)) := by
          conv => lhs; rw [h]
          unfold flatP; rw [List.flatMap_append]
        rw [h2]; exact List.sublist_append_left _ _
      rw [esp] at ndi
      have ha1 : a ∉ nu.map (·.1) := by
        rw [hk1]
        exact fun z => (List.nodup_append.mp ndi).2.2 a z a (by simp) rfl
      have hb1 : b ∉ nu.map (·.1) := by
        rw [hk1]
        exact fun z => (List.nodup_append.mp ndi).2.2 b z b (by simp) rfl
      have hab1 : a ≠ b := by
        have := (List.nodup_append.mp ndi).2.1
        simpa using this
      have hnl : nu.length = 2 * i := by
        have := hk2.length_eq
        rw [List.length_map, List.length_range] at this; exact this
      refine gv_tup rfl <| gvs_cons <| gv_name <| gvs_cons <| gv_name <| gvs_nil ?_
      refine sw_seq <| sw_asg <| ev_call <| av_cons <| ev_var rfl <| av_cons <| ev_int <| av_nil ⟨p, q, _, rfl, by decide, by decide, dk2, fun t M3 t0 t1 dk3 fr3 => gv_name ?_⟩
      have h3 := fr3 c _ h2 nc.1 nc.2
      obtain ⟨u, hu2, hu⟩ : ∃ u : Nat, u < 2 ∧ t = (u : Int) := ⟨t.toNat, by omega, by omega⟩
      subst hu
      have e1 : (2 : Int) * (i : Nat) + (u : Nat) = ((2 * i + u : Nat) : Int) := by omega
      have e2 : (2 : Int) * (i : Nat) + 1 - (u : Nat) = ((2 * i + 1 - u : Nat) : Int) := by omega
      refine sw_seq <| sw_asg <| ev_op <| ev_op <| ev_int <| ev_var rfl <| rd_mul (.inl (by decide)) <| ev_var rfl <| rd_int <| gv_sub <| ev_var rfl <| ev_op <| ev_var rfl <| ev_int <| rd_ixT at0 <| rs_dk (kk := a) rfl h3 (by rw [List.length_map, hnl]; exact sl' (by omega)) ?_
      rw [e1, put_new ha1]
      refine sw_seq <| sw_asg <| ev_op <| ev_op <| ev_op <| ev_int <| ev_var rfl <| rd_mul (.inl (by decide)) <| ev_int <| rd_int <| ev_var rfl <| rd_int <| gv_sub <| ev_var rfl <| ev_op <| ev_var rfl <| ev_int <| rd_ixT at1 <| rs_dk (kk := b) rfl MH.set_same (by rw [List.length_map, List.length_append, hnl]; exact sl' (by simp; omega)) ?_
      have hb2 : b ∉ (nu ++ [(a, 2 * i + u)]).map (·.1) := by
        rw [List.map_append, List.mem_append, not_or]
        exact ⟨hb1, by simpa using hab1.symm⟩
      rw [e2, put_new hb2, MH.set_set]
      refine sw_next ?_
      refine ⟨_, _, _, _, _, rfl, MH.set_same, ?_, ?_, dk3.set nc.1 nc.2, (fr2.trans fr3).set hc⟩
      · rw [List.map_append, List.map_append, hk1, esp, List.append_assoc]; rfl
      · rw [List.map_append, List.map_append, List.append_assoc]
        show ((nu.map (·.2)) ++ [2 * i + u, 2 * i + 1 - u]).Perm (List.range (2 * (i + 1)))
        rw [show 2 * (i + 1) = 2 * i + 1 + 1 by omega, List.range_succ, List.range_succ, List.append_assoc]
        refine List.Perm.append hk2 ?_
        rcases (show u = 0 ∨ u = 1 by omega) with z | z
        · subst z; exact List.Perm.refl _
        · subst z; exact List.Perm.swap _ _ _
    · rintro ds M2 ⟨nu, o1, o2, o3, o4, rfl, h2, hk1, hk2, dk2, fr2⟩
      have hel : (enumD (zs.map fun r => D.tup [kD r.1, kD r.2])).length = pairs.length := by
        unfold enumD
        rw [List.length_mapIdx, List.length_map, hzl]
      rw [hel] at hk1 hk2
      rw [← hzl, List.take_length] at hk1
      have hmem : ∀ s, s ∈ faces.flatten → s ∈ nu.map (·.1) := fun s hs => by
        rw [hk1, (flatP_perm hz).mem_iff]; exact hfp.mem_iff.mp hs
      refine sw_seq <| sw_ret <| ev_call <| av_cons <| ev_lc gw_name <| iv_list <| ev_var rfl ⟨_, .inl rfl, ?_⟩
      refine LP.map (fun j _ => .lst (((faces.getD j []).map (nuf nu)).map nD)) (by rw [List.length_map]; exact sl (by omega)) (fun j d hj => ?_) ?_
      · rw [List.getElem?_map] at hj
        obtain ⟨f, hf, rfl⟩ := Option.map_eq_some_iff.mp hj
        have hfm : f ∈ faces := List.mem_of_getElem? hf
        refine gv_name <| tv_yes ⟨rfl, ev_lc gw_name <| iv_list <| ev_var rfl ⟨_, .inl rfl, ?_⟩⟩
        refine LP.map (fun j _ => nD (nuf nu (f.getD j (.inl 0)))) (by rw [List.length_map, hsz f hfm]; exact sl (by omega)) (fun i d hi => ?_) ?_
        · rw [List.getElem?_map] at hi
          obtain ⟨s, hs, rfl⟩ := Option.map_eq_some_iff.mp hi
          have hsm : s ∈ faces.flatten := List.mem_flatten.mpr ⟨f, hfm, List.mem_of_getElem? hs⟩
          have hgd : f.getD i (.inl 0) = s := by rw [List.getD_eq_getElem?_getD, hs]; rfl
          have hv := nuf_val nu s (hmem s hsm)
          exact gv_name <| tv_yes ⟨rfl, ev_dget <| ev_var rfl <| ev_var rfl ⟨_, s, _, .m h2, rfl, hv, by rw [hgd], rfl⟩⟩
        · refine ⟨?_, rfl⟩
          have e : faces.getD j [] = f := by rw [List.getD_eq_getElem?_getD, hf]; rfl
          rw [e]
          congr 1
          apply List.ext_getElem?
          intro i
          rw [List.getElem?_mapIdx, List.getElem?_map, List.getElem?_map, List.getElem?_map]
          cases hi : f[i]? with
          | none => rfl
          | some s => rw [List.getD_eq_getElem?_getD, hi]; rfl
      · have e : (faces.map fun f => D.lst (f.map kD)).mapIdx (fun j _ => D.lst (((faces.getD j []).map (nuf nu)).map nD)) = (faces.map fun f => f.map (nuf nu)).map fun f => .lst (f.map nD) := by
          apply List.ext_getElem?
          intro i
          rw [List.getElem?_mapIdx, List.getElem?_map, List.getElem?_map, List.getElem?_map]
          cases hi : faces[i]? with
          | none => rfl
          | some s => rw [List.getD_eq_getElem?_getD, hi]; rfl
        rw [e]
        have hpm : (faces.map fun f => f.map (nuf nu)).flatten.Perm (List.range (2 * pairs.length)) := by
          rw [← List.map_flatten]
          have h1 : (faces.flatten.map (nuf nu)).Perm ((nu.map (·.1)).map (nuf nu)) := by
            refine List.Perm.map _ (hfp.trans ?_)
            rw [hk1]; exact (flatP_perm hz).symm
          rw [nuf_map nu (by rw [hk1]; exact ndz)] at h1
          exact h1.trans hk2
        refine av_nil ⟨⟨m, hm1⟩, faces.map fun f => f.map (nuf nu), rfl, ?_, ?_, hm, by rw [List.length_map]; exact hF, fun F' M' hF1 hF2 kp => ?_⟩
        · intro f hf
          obtain ⟨g, hg, rfl⟩ := List.mem_map.mp hf
          rw [List.length_map]; exact hsz g hg
        · intro f hf s hs
          have : s ∈ (faces.map fun f => f.map (nuf nu)).flatten := List.mem_flatten.mpr ⟨f, hf, hs⟩
          have := List.mem_range.mp (hpm.mem_iff.mp this)
          omega
        · exact hk F' M' hF1 (hF2.trans hpm) (dk2.keep kp) (fr2.trans kp.fr)

end
end WK

set_option Elab.async false
set_option linter.all false
set_option maxRecDepth 100000
set_option maxHeartbeats 4000000
namespace WK
open PySem PySem.Spec PyProof.Rows L2 Evl PL
def spGlued : PL.Spec := fun l M k => ∃ (p q : Addr) (c m : Nat), l = [.adr p, .lst (List.replicate c (nD m))] ∧ (m = 3 ∨ m = 4) ∧ 1 ≤ c ∧ (c * m) % 2 = 0 ∧ c * m < 64 ∧ DkOk p q M ∧ ∀ F M', Sol F m (c * m) → DkOk p q M' → Fr p q M M' → k (solidD F) M'
theorem spGlued_len : ∀ l M k, spGlued l M k → l.length = 2 := fun l M k ⟨_, _, _, _, h, _⟩ => by rw [h]; rfl
abbrev sp (j i : Nat) : NestedKey := .tup [.num (j : Nat), .num (i : Nat)]
def faceK (m j : Nat) : List NestedKey := (List.range m).map (sp j)
def prs {κ : Type} : List κ → List (κ × κ)
  | a :: b :: r => (a, b) :: prs r
  | _ => []
theorem prs_flat {κ : Type} : ∀ l : List κ, l.length % 2 = 0 → flatP (prs l) = l
  | [], _ => rfl
  | [a], h => by simp at h
  | a :: b :: r, h => by
    have := prs_flat r (by simp at h; omega)
    show a :: b :: flatP (prs r) = _
    rw [this]
theorem prs_get {κ : Type} : ∀ (l : List κ) (t : Nat), 2 * t + 1 < l.length → ∃ a b, l[2 * t]? = some a ∧ l[2 * t + 1]? = some b ∧ (prs l)[t]? = some (a, b)
  | [], t, h => by simp at h
  | [a], t, h => by simp at h
  | a :: b :: r, 0, h => ⟨a, b, rfl, rfl, rfl⟩
  | a :: b :: r, t + 1, h => by
    obtain ⟨x, y, h1, h2, h3⟩ := prs_get r t (by simp at h; omega)
    exact ⟨x, y, by rw [show 2 * (t + 1) = 2 * t + 1 + 1 by omega]; simpa using h1, by rw [show 2 * (t + 1) + 1 = 2 * t + 1 + 1 + 1 by omega]; simpa using h2, by simpa [prs] using h3⟩
theorem prs_len {κ : Type} : ∀ l : List κ, (prs l).length = l.length / 2
  | [] => by simp [prs]
  | [a] => by simp [prs]
  | a :: b :: r => by
    have := prs_len r
    show (prs r).length + 1 = (r.length + 1 + 1) / 2
    omega
theorem flatP_len {κ : Type} (ps : List (κ × κ)) : (flatP ps).length = 2 * ps.length := by
  induction ps with
  | nil => rfl
  | cons a r ih =>
    show (flatP r).length + 1 + 1 = 2 * (r.length + 1)
    omega
theorem fl {i : Int} (h1 : -9223372036854775808 ≤ i) (h2 : i < 9223372036854775808) : Builtin.Range.rangeFitsLong i = true := by
  unfold Builtin.Range.rangeFitsLong
  rw [Bool.and_eq_true]
  exact ⟨decide_eq_true (by omega), decide_eq_true (by omega)⟩
theorem rgc2 {h : Nat} (h0 : h < 1000) : RgC 0 ((2 * h : Nat) : Int) 2 h := by
  have hs : Builtin.Range.rangeSize 0 ((2 * h : Nat) : Int) 2 = (h : Nat) := by
    unfold Builtin.Range.rangeSize
    rw [if_pos (by decide)]
    by_cases e : h = 0
    · subst e; rfl
    · rw [if_pos (by omega)]; omega
  refine ⟨by decide, by decide, ?_, hs⟩
  have e : Builtin.Range.small 0 ((2 * h : Nat) : Int) 2 = true := by
    unfold Builtin.Range.small
    rw [hs, fl (by omega) (by omega), fl (by omega) (by omega), fl (by omega) (by omega), fl (by omega) (by omega), if_pos (by decide), fl (by omega) (by omega)]
    simp
  exact e
theorem sp_inj {a b c d : Nat} (h : sp a b = sp c d) : a = c ∧ b = d := by
  injection h with h
  injection h with h1 h2
  injection h2 with h2 _
  injection h1 with h1
  injection h2 with h2
  omega
theorem faces_nodup (m c : Nat) : (((List.range c).map (faceK m)).flatten).Nodup := by
  induction c with
  | zero => simp
  | succ c ih =>
    rw [List.range_succ, List.map_append, List.flatten_append]
    refine List.nodup_append.mpr ⟨ih, ?_, ?_⟩
    · simp only [List.map_cons, List.map_nil, List.flatten_cons, List.flatten_nil, List.append_nil]
      unfold faceK
      exact List.pairwise_map.mpr (List.nodup_range.imp fun h e => h (sp_inj e).2)
    · intro x hx y hy e
      subst e
      simp only [List.map_cons, List.map_nil, List.flatten_cons, List.flatten_nil, List.append_nil] at hy
      obtain ⟨f, hf, hxf⟩ := List.mem_flatten.mp hx
      obtain ⟨j, hj, rfl⟩ := List.mem_map.mp hf
      obtain ⟨a, _, rfl⟩ := List.mem_map.mp hxf
      obtain ⟨b, _, e⟩ := List.mem_map.mp hy
      have := (sp_inj e).1
      have := List.mem_range.mp hj
      omega
theorem faceK_len (m j : Nat) : (faceK m j).length = m := by unfold faceK; simp
theorem faces_len (m c : Nat) : (((List.range c).map (faceK m)).flatten).length = c * m := by
  induction c with
  | zero => simp
  | succ c ih =>
    rw [List.range_succ, List.map_append, List.flatten_append, List.length_append, ih]
    simp only [List.map_cons, List.map_nil, List.flatten_cons, List.flatten_nil, List.append_nil]
    rw [faceK_len, Nat.succ_mul]
theorem set_none {M : MH} {a b : Addr} {o : MO} (h : (M.set a o) b = none) : b ≠ a ∧ M b = none := by
  have hb : b ≠ a := fun z => by subst z; rw [MH.set_same] at h; cases h
  rw [MH.set_ne hb] at h; exact ⟨hb, h⟩
theorem Fr.none {p q b : Addr} {M M1 : MH} (f : Fr p q M M1) (d : DkOk p q M1) (h : M1 b = none) : M b = none := by
  cases e : M b with
  | none => rfl
  | some o => rw [f b o e (d.np h) (d.nq h)] at h; cases h
theorem map_erase {α β : Type} (f : α → β) : ∀ (l : List α) (j : Nat), (l.map f).eraseIdx j = (l.eraseIdx j).map f
  | [], _ => by simp
  | x :: l, 0 => rfl
  | x :: l, j + 1 => by
    rw [List.map_cons, List.eraseIdx_cons_succ, List.eraseIdx_cons_succ, List.map_cons, map_erase f l j]
theorem glue_perm {κ : Type} [DecidableEq κ] {f g : List κ} {ps : List (κ × κ)} {j1 j2 : Nat} (h1 : j1 < f.length) (h2 : j2 < g.length) {X : List κ} (h : (f ++ flatP ps).Perm X) :
    ((f.eraseIdx j1 ++ g.eraseIdx j2) ++ flatP (ps ++ [(f[j1], g[j2])])).Perm (X ++ g) := by
  have p1 := erase_perm h1
  have p2 := erase_perm h2
  have e : flatP (ps ++ [(f[j1], g[j2])]) = flatP ps ++ [f[j1], g[j2]] := by unfold flatP; rw [List.flatMap_append]; rfl
  rw [e]
  refine List.Perm.trans ?_ (List.Perm.append h p2)
  refine List.Perm.trans ?_ (List.Perm.append (List.Perm.append p1 (List.Perm.refl (flatP ps))) (List.Perm.refl _))
  rw [List.perm_iff_count]
  intro z
  simp only [List.count_append, List.count_cons, List.count_nil]
  omega
abbrev s_law_glued : Stmt := top 25
abbrev N_law_glued : List Str := ["deck", "sizes", "faces", "free", "pairs", "number", "size", "face", "rest", "spot", "k"]
theorem sc_law_glued : FnScope N_law_glued ["deck", "sizes"] (defScope s_law_glued) := ⟨rfl, rfl, rfl, by decide +kernel, rfl, by decide +kernel, by decide +kernel⟩
section
variable {P : Program} {w : World} {K : PySem.W.Frag} {mg : Str → Option Value} {base : Heap}
theorem ok_law_glued {f C mv : Addr} {fd : FuncData} {tk1 tk2 : Tok} (F : Fun K "_law_glued" "_law_glued" s_law_glued f fd) (T : Bi mg) (c_law_shuffled : Cal P w K mg base "_law_shuffled" 2 ["deck", "things"] spShuf) (c_law_numbered : Cal P w K mg base "_law_numbered" 3 ["deck", "faces", "pairs"] spNum) (c_law_deal : Cal P w K mg base "_law_deal" 1 ["deck", "many"] spDeal) : FnOk P w K mg base CX0 4 f fd ["deck", "sizes"] (SpD K w spGlued) := by
  refine F.ok sc_law_glued (fun vs H Q E h => SpD.len (n := 2) (spGlued_len) h) (fun cdv A outer s H vs Q E hr h => ?_)
  have hu := hu_of hr
  have hu16 := hu16_of hr
  refine ⟨_, (pss_cons (ps_set (i := 2) sc_law_glued.nd rfl (Or.inl rfl) (pe_lst pa_nil))
(pss_cons (ps_set (i := 3) sc_law_glued.nd rfl (Or.inr rfl) (pe_lst pa_nil))
(pss_cons (ps_set (i := 4) sc_law_glued.nd rfl (Or.inl rfl) (pe_lst pa_nil))
(pss_cons (ps_for PassesOwn.never rfl (pi_enumA (by rfl) T.enumerate (pa_cons (pv 1) pa_nil)) (pg_tup (by rfl) (pgs_cons (pg_name (i := 5) sc_law_glued.nd rfl (Or.inr rfl)) (pgs_cons (pg_name (i := 6) sc_law_glued.nd rfl (Or.inl rfl)) pgs_nil)))
(pss_cons (ps_if (PW.pt (pw_and (pt_cmpR op_gt (pv 5) pe_int (nomark _)) (pw_and1 (pt_cmpR op_eq (pe_callB cb_len (by rfl) T.len (by decide +kernel) (pa_cons (pv 3) pa_nil)) pe_int (nomark _)))))
(pss_one ps_break)
pss_nil)
(pss_cons (ps_setLc (i := 7) (own := [("k", 10)]) (g := gName 10) (by rfl) sc_law_glued.nd rfl rfl (sw_true rfl rfl rfl (by decide +kernel)) (pi_range1 (by rfl) T.range (pa_cons (pv 6) pa_nil)) (blkOk_by (own := [("k", 10)]) (N := N_law_glued) (sc := defScope s_law_glued) (by decide +kernel)) (fun _ _ _ _ _ => (pg_name (i := 10) sc_law_glued.nd rfl (Or.inl rfl))) (fun _ _ _ _ _ => pts_nil) (fun _ _ _ _ _ => (pe_tup (pa_cons (pv 5) (pa_cons (pv 10) pa_nil)))))
(pss_cons (ps_set (i := 8) sc_law_glued.nd rfl (Or.inl rfl) (pe_callTy cb_list (by rfl) T.list (by decide +kernel) (pa_cons (pv 7) pa_nil)))
(pss_cons (ps_if (pt_cmpR op_gt (pv 5) pe_int (nomark _))
(pss_one (ps_expr (pe_bm PySem.F.plainAttrs_list PySem.F.slot_list_append PySem.F.type_list_append mt_append (pv 4) (pa_cons (pe_tup (pa_cons (pe_bm PySem.F.plainAttrs_list PySem.F.slot_list_pop PySem.F.type_list_pop mt_popAt (pv 3) (pa_cons (pe_cal c_law_deal (hr.mono (by decide)) (by rfl) (pa_cons (pv 0) (pa_cons (pe_callB cb_len (by rfl) T.len (by decide +kernel) (pa_cons (pv 3) pa_nil)) pa_nil))) pa_nil)) (pa_cons (pe_bm PySem.F.plainAttrs_list PySem.F.slot_list_pop PySem.F.type_list_pop mt_popAt (pv 8) (pa_cons (pe_cal c_law_deal (hr.mono (by decide)) (by rfl) (pa_cons (pv 0) (pa_cons (pe_callB cb_len (by rfl) T.len (by decide +kernel) (pa_cons (pv 8) pa_nil)) pa_nil))) pa_nil)) pa_nil))) pa_nil))))
pss_nil)
(pss_cons (ps_expr (pe_bm PySem.F.plainAttrs_list PySem.F.slot_list_append PySem.F.type_list_append mt_append (pv 2) (pa_cons (pv 7) pa_nil)))
(pss_one (ps_set (i := 3) sc_law_glued.nd rfl (Or.inr rfl) (pe_op op_cat (pv 3) (pv 8))))))))))
(pss_cons (ps_if (pt_cmpR op_eq (pe_op op_mod (pe_callTy call_int1 (by rfl) T.int (by decide +kernel) (pa_cons (pe_callB cb_len (by rfl) T.len (by decide +kernel) (pa_cons (pv 3) pa_nil)) pa_nil)) pe_int) pe_int (nomark _))
(pss_cons (ps_set (i := 9) sc_law_glued.nd rfl (Or.inl rfl) (pe_tup (pa_cons (pe_op op_sub (pe_callB cb_len (by rfl) T.len (by decide +kernel) (pa_cons (pv 2) pa_nil)) pe_int) (pa_cons (pe_callB cb_len (by rfl) T.len (by decide +kernel) (pa_cons (pe_ix ix_list (pv 2) (pe_un un_neg pe_int) (fun _ _ => rfl)) pa_nil)) pa_nil))))
(pss_cons (ps_expr (pe_bm PySem.F.plainAttrs_list PySem.F.slot_list_append PySem.F.type_list_append mt_append (pe_ix ix_list (pv 2) (pe_un un_neg pe_int) (fun _ _ => rfl)) (pa_cons (pv 9) pa_nil)))
(pss_one (ps_expr (pe_bm PySem.F.plainAttrs_list PySem.F.slot_list_append PySem.F.type_list_append mt_append (pv 3) (pa_cons (pv 9) pa_nil))))))
pss_nil)
(pss_cons (ps_set (i := 3) sc_law_glued.nd rfl (Or.inr rfl) (pe_cal c_law_shuffled (hr.mono (by decide)) (by rfl) (pa_cons (pv 0) (pa_cons (pv 3) pa_nil))))
(pss_cons (ps_set (i := 4) sc_law_glued.nd rfl (Or.inl rfl) (pe_op op_cat (pv 4) (pe_lc (own := [("k", 10)]) (g := gName 10) (by rfl) sc_law_glued.nd (pi_range3 (by rfl) T.range (pa_cons pe_int (pa_cons (pe_callB cb_len (by rfl) T.len (by decide +kernel) (pa_cons (pv 3) pa_nil)) (pa_cons pe_int pa_nil)))) (blkOk_by (own := [("k", 10)]) (N := N_law_glued) (sc := defScope s_law_glued) (by decide +kernel)) (fun _ _ _ _ _ => (pg_name (i := 10) sc_law_glued.nd rfl (Or.inl rfl))) (fun _ _ _ _ _ => pts_nil) (fun _ _ _ _ _ => (pe_tup (pa_cons (pe_ix (ix_listK rfl) (pv 3) (pv 10) (fun _ _ => rfl)) (pa_cons (pe_ix (ix_listK rfl) (pv 3) (pe_op op_add (pv 10) pe_int) (fun _ _ => rfl)) pa_nil)))))))
(pss_one (ps_ret (pe_cal c_law_numbered (hr.mono (by decide)) (by rfl) (pa_cons (pv 0) (pa_cons (pv 2) (pa_cons (pv 4) pa_nil))))))))))))), go h ?_⟩
  clear hu hu16 hr h
  rintro l M k ⟨p, q, c, m, rfl, hm, hc, hev, h64, dk, hk⟩
  refine sw_seq <| sw_asg <| ev_lstM <| av_nil ⟨Nat.zero_le _, fun cF hF => gv_name ?_⟩
  refine sw_seq <| sw_asg <| ev_lstM <| av_nil ⟨Nat.zero_le _, fun a ha => gv_name ?_⟩
  refine sw_seq <| sw_asg <| ev_lstM <| av_nil ⟨Nat.zero_le _, fun cP hP => gv_name ?_⟩
  have k1 : Keep M (M.set cF (.lst [])) := (Keep.refl M).set hF
  have ha0 := k1.none ha
  have k2 : Keep M ((M.set cF (.lst [])).set a (.lst [])) := k1.set ha0
  have hP0 := k2.none hP
  have nFa : cF ≠ a := fun z => by subst z; rw [MH.set_same] at ha; cases ha
  have nPa : cP ≠ a := fun z => by subst z; rw [MH.set_same] at hP; cases hP
  have nPF : cP ≠ cF := fun z => by subst z; rw [MH.set_ne nFa, MH.set_same] at hP; cases hP
  have pF : cF ≠ p ∧ cF ≠ q := ⟨dk.np hF, dk.nq hF⟩
  have pP : cP ≠ p ∧ cP ≠ q := ⟨dk.np hP0, dk.nq hP0⟩
  refine sw_seq <| sw_for <| iv_enum <| av_cons <| ev_var rfl <| av_nil ⟨_, .inl rfl, FP.start (fun i ds M' => ∃ (fr : List NestedKey) (ps : List (NestedKey × NestedKey)) (a : Addr) (o1 o2 o3 o4 : Option D), ds = [some (.adr p), some (.lst (List.replicate c (nD m))), some (.adr cF), some (.adr a), some (.adr cP), o1, o2, o3, o4, none, none] ∧ M a = none ∧ a ≠ cF ∧ a ≠ cP ∧
    M' cF = some (.lst ((List.range i).map fun j => .lst ((faceK m j).map keyD))) ∧ M' a = some (.lst (fr.map keyD)) ∧ M' cP = some (.lst (ps.map fun r => .tup [keyD r.1, keyD r.2])) ∧ (fr ++ flatP ps).Perm (((List.range i).map (faceK m)).flatten) ∧ (ps.length + 1 = i ∨ (i = 0 ∧ ps = [])) ∧ DkOk p q M' ∧ Fr p q M M')
    ⟨[], [], a, none, none, none, none, rfl, ha0, nFa.symm, nPa.symm, ?_, ?_, MH.set_same, List.Perm.refl _, .inr ⟨rfl, rfl⟩, ((dk.set pF.1 pF.2).set (dk.np ha0) (dk.nq ha0)).set pP.1 pP.2, (k2.set hP0).fr⟩ ?_ ?_⟩
  · rw [MH.set_ne nPF.symm, MH.set_ne nFa, MH.set_same]; rfl
  · rw [MH.set_ne nPa.symm, MH.set_same]; rfl
  · clear ha ha0 k2 hP nFa nPa a
    rintro i d ds M1 hi ⟨fr, ps, a, o1, o2, o3, o4, rfl, ha, naF, naP, h1, h2, h3, hperm, hcnt, dk1, fr1⟩
    have hil : i < c := by
      have := (List.getElem?_eq_some_iff.mp hi).1
      unfold enumD at this
      rw [List.length_mapIdx, List.length_replicate] at this; exact this
    have hd : d = .tup [.int (i : Nat), nD m] := by
      unfold enumD at hi
      rw [List.getElem?_mapIdx, List.getElem?_replicate, if_pos hil] at hi
      exact (Option.some.inj hi).symm
    subst hd
    have hm4 : m ≤ 4 := by omega
    have hc64 : c ≤ 63 := by
      rcases hm with e | e <;> subst e <;> omega
    have pa : a ≠ p ∧ a ≠ q := ⟨dk.np ha, dk.nq ha⟩
    have hfa : ((rgD 0 ((m : Int)).toNat).mapIdx fun t _ => keyD (sp i t)) = (faceK m i).map keyD := by
      unfold faceK
      apply List.ext_getElem?
      intro t
      rw [List.getElem?_mapIdx, rgD_get, List.map_map, List.getElem?_map, Int.toNat_natCast]
      by_cases ht : t < m
      · rw [if_pos ht, List.getElem?_range ht]; rfl
      · rw [if_neg ht, List.getElem?_eq_none (by simpa using ht)]; rfl
    have hplen : fr.length + 2 * ps.length = i * m := by
      have := hperm.length_eq
      rw [List.length_append, flatP_len, faces_len] at this; exact this
    have him : i * m ≤ 252 := Nat.le_trans (Nat.mul_le_mul (show i ≤ 63 by omega) hm4) (by decide)
    have hnx : ((List.range (i + 1)).map (faceK m)).flatten = ((List.range i).map (faceK m)).flatten ++ faceK m i := by
      rw [List.range_succ, List.map_append, List.flatten_append]; simp
    have hnF : (List.range (i + 1)).map (fun j => D.lst ((faceK m j).map keyD)) = (List.range i).map (fun j => D.lst ((faceK m j).map keyD)) ++ [D.lst ((faceK m i).map keyD)] := by
      rw [List.range_succ, List.map_append]; rfl
    refine gv_tup rfl <| gvs_cons <| gv_name <| gvs_cons <| gv_name <| gvs_nil ?_
    refine sw_seq <| sw_if <| tv_and <| tv_test <| ev_op <| ev_var rfl <| ev_int <| rd_intb ⟨_, rfl, ifd (fun h0 => ?_) (fun h0 => iteF <| sw_next ?_)⟩
    · have hi0 : 0 < i := by omega
      have hps : ps.length + 1 = i := by
        rcases hcnt with z | z
        · exact z
        · omega
      have hfr : 0 < fr.length := by
        rcases hm with e | e <;> subst e <;> omega
      refine tv_test <| ev_op <| ev_cb <| av_cons <| ev_var rfl <| av_nil <| ra_lenM h2 <| ev_int <| rd_eqI ⟨_, rfl, ifd (fun hz => by rw [List.length_map] at hz; omega) (fun _ => sw_next ?_)⟩
      refine sw_seq <| sw_asg <| ev_lc gw_name <| iv_range1 <| av_cons <| ev_var rfl <| av_nil ⟨_, rfl, by omega, by omega, LP.map (fun t _ => keyD (sp i t)) (by rw [rgD_len]; exact sl (by omega)) (fun t d ht => ?_) (gv_name ?_)⟩
      · obtain ⟨htn, rfl⟩ := rgD_in ht
        rw [Int.zero_add]
        exact gv_name <| tv_yes ⟨rfl, ev_tup <| av_cons <| ev_var rfl <| av_cons <| ev_var rfl <| av_nil ⟨l2, rfl, rfl⟩⟩
      rw [hfa]
      refine sw_seq <| sw_asg <| ev_cb <| av_cons <| ev_var rfl <| av_nil <| ra_listM (.inl .f) fun b hb => gv_name ?_
      have hb0 : M b = none := by
        cases e : M b with
        | none => rfl
        | some o =>
          have hbp : b ≠ p := fun z => by obtain ⟨_, ⟨s, _, _, hp⟩, _⟩ := dk1; subst z; rw [hp] at hb; cases hb
          have hbq : b ≠ q := fun z => by obtain ⟨_, _, hs, hq⟩ := dk1; subst z; rw [hq] at hb; cases hb
          rw [fr1 b o e hbp hbq] at hb; cases hb
      have pb : b ≠ p ∧ b ≠ q := ⟨dk1.np hb, dk1.nq hb⟩
      have nba : b ≠ a := fun z => by subst z; rw [h2] at hb; cases hb
      have nbF : b ≠ cF := fun z => by subst z; rw [h1] at hb; cases hb
      have nbP : b ≠ cP := fun z => by subst z; rw [h3] at hb; cases hb
      refine sw_seq <| sw_if <| tv_test <| ev_op <| ev_var rfl <| ev_int <| rd_intb ⟨_, rfl, ifd (fun _ => ?_) (fun z => absurd h0 z)⟩
      -- pairs.append((free.pop(..), rest.pop(..)))
      refine sw_seq <| sw_drop <| ev_bm <| ev_var rfl ⟨tyd_adr (l := ps.map fun r => .tup [keyD r.1, keyD r.2]) (by rw [MH.set_ne nbP.symm]; exact h3), av_cons <| ev_tup <| av_cons <| ev_bm <| ev_var rfl ⟨tyd_adr (l := fr.map keyD) (by rw [MH.set_ne nba.symm]; exact h2), av_cons <| ev_call <| av_cons <| ev_var rfl <| av_cons <| ev_cb <| av_cons <| ev_var rfl <| av_nil <| ra_lenM (l := fr.map keyD) (by rw [MH.set_ne nba.symm]; exact h2) <| av_nil ⟨p, q, _, rfl, by rw [List.length_map]; omega, by rw [List.length_map]; omega, dk1.set pb.1 pb.2, fun t M2 t0 t1 dk2 fr2 => ?_⟩⟩⟩
      rw [List.length_map] at t1
      obtain ⟨j1, hj1, ht⟩ : ∃ j : Nat, j < fr.length ∧ t = (j : Int) := ⟨t.toNat, by omega, by omega⟩
      subst ht
      have g1 := fr2 cF _ (show (M1.set b (.lst ((faceK m i).map keyD))) cF = _ by rw [MH.set_ne nbF.symm]; exact h1) pF.1 pF.2
      have g2 := fr2 a _ (show (M1.set b (.lst ((faceK m i).map keyD))) a = _ by rw [MH.set_ne nba.symm]; exact h2) pa.1 pa.2
      have g3 := fr2 cP _ (show (M1.set b (.lst ((faceK m i).map keyD))) cP = _ by rw [MH.set_ne nbP.symm]; exact h3) pP.1 pP.2
      have g4 := fr2 b _ (show (M1.set b (.lst ((faceK m i).map keyD))) b = _ from MH.set_same) pb.1 pb.2
      have fr3 : Fr p q M M2 := fun x o e e1 e2 => fr2 x o ((fr1.set hb0) x o e e1 e2) e1 e2
      refine av_nil <| rm_popAt g2 (by omega) (j := j1) (sqi (by rw [List.length_map]; exact hj1)) (d := keyD fr[j1]) (by rw [List.getElem?_map, List.getElem?_eq_getElem hj1]; rfl) <| av_cons <| ev_bm <| ev_var rfl ⟨tyd_adr (l := (faceK m i).map keyD) (by rw [MH.set_ne nba]; exact g4), av_cons <| ev_call <| av_cons <| ev_var rfl <| av_cons <| ev_cb <| av_cons <| ev_var rfl <| av_nil <| ra_lenM (l := (faceK m i).map keyD) (by rw [MH.set_ne nba]; exact g4) <| av_nil ⟨p, q, _, rfl, by rw [List.length_map, faceK_len]; omega, by rw [List.length_map, faceK_len]; omega, dk2.set pa.1 pa.2, fun t M3 t0 t1 dk3 fr4 => ?_⟩⟩
      rw [List.length_map, faceK_len] at t1
      obtain ⟨j2, hj2, ht⟩ : ∃ j : Nat, j < (faceK m i).length ∧ t = (j : Int) := ⟨t.toNat, by rw [faceK_len]; omega, by omega⟩
      subst ht
      have e1 := fr4 cF _ (show (M2.set a (.lst ((fr.map keyD).eraseIdx j1))) cF = _ by rw [MH.set_ne naF.symm]; exact g1) pF.1 pF.2
      have e2 := fr4 a _ (show (M2.set a (.lst ((fr.map keyD).eraseIdx j1))) a = _ from MH.set_same) pa.1 pa.2
      have e3 := fr4 cP _ (show (M2.set a (.lst ((fr.map keyD).eraseIdx j1))) cP = _ by rw [MH.set_ne naP.symm]; exact g3) pP.1 pP.2
      have e4 := fr4 b _ (show (M2.set a (.lst ((fr.map keyD).eraseIdx j1))) b = _ by rw [MH.set_ne nba]; exact g4) pb.1 pb.2
      have fr5 : Fr p q M M3 := fun x o z z1 z2 => fr4 x o ((fr3.set ha) x o z z1 z2) z1 z2
      refine av_nil <| rm_popAt e4 (by rw [faceK_len] at hj2; omega) (j := j2) (sqi (by rw [List.length_map]; exact hj2)) (d := keyD (faceK m i)[j2]) (by rw [List.getElem?_map, List.getElem?_eq_getElem hj2]; rfl) <| av_nil ⟨l2, av_nil <| rm_append (l := ps.map fun r => .tup [keyD r.1, keyD r.2]) (by rw [MH.set_ne nbP.symm]; exact e3) (by rw [List.length_map]; exact sl' (by omega)) <| sw_next ?_⟩
      have nPF' := nPF
      refine sw_seq <| sw_drop <| ev_bm <| ev_var rfl ⟨tyd_adr (l := (List.range i).map fun j => .lst ((faceK m j).map keyD)) (by rw [MH.set_ne nPF.symm, MH.set_ne nbF.symm]; exact e1), av_cons <| ev_var rfl <| av_nil <| rm_append (l := (List.range i).map fun j => .lst ((faceK m j).map keyD)) (by rw [MH.set_ne nPF.symm, MH.set_ne nbF.symm]; exact e1) (by rw [List.length_map, List.length_range]; exact sl' (by omega)) ?_⟩
      rw [← hnF]
      refine sw_seq <| sw_asg <| ev_op <| ev_var rfl <| ev_var rfl <| rd_catM (a := (fr.map keyD).eraseIdx j1) (b := ((faceK m i).map keyD).eraseIdx j2) (.m (by rw [MH.set_ne naF, MH.set_ne naP, MH.set_ne nba.symm]; exact e2)) (.m (by rw [MH.set_ne nbF, MH.set_ne nbP, MH.set_same])) ?_ fun b2 hb2 => gv_name <| sw_next ?_
      · rw [List.length_eraseIdx, List.length_eraseIdx, List.length_map, List.length_map, faceK_len]; exact sl (by split <;> split <;> omega)
      obtain ⟨nb2F, hb3⟩ := set_none hb2
      obtain ⟨nb2P, hb4⟩ := set_none hb3
      obtain ⟨nb2b, hb5⟩ := set_none hb4
      have hb20 : M b2 = none := fr5.none dk3 hb5
      have pb2 : b2 ≠ p ∧ b2 ≠ q := ⟨dk.np hb20, dk.nq hb20⟩
      have hpl : ps.map (fun r => D.tup [keyD r.1, keyD r.2]) ++ [D.tup [keyD fr[j1], keyD (faceK m i)[j2]]] = (ps ++ [(fr[j1], (faceK m i)[j2])]).map fun r => D.tup [keyD r.1, keyD r.2] := by rw [List.map_append]; rfl
      refine ⟨fr.eraseIdx j1 ++ (faceK m i).eraseIdx j2, ps ++ [(fr[j1], (faceK m i)[j2])], b2, _, _, _, _, rfl, hb20, nb2F, nb2P, ?_, ?_, ?_, ?_, .inl (by rw [List.length_append]; simp; omega), ?_, ?_⟩
      · rw [MH.set_ne nb2F.symm, MH.set_same]
      · rw [MH.set_same, List.map_append, map_erase, map_erase]
      · rw [MH.set_ne nb2P.symm, MH.set_ne nPF, MH.set_same, hpl]
      · rw [hnx]; exact glue_perm hj1 hj2 hperm
      · exact (((dk3.set pb.1 pb.2).set pP.1 pP.2).set pF.1 pF.2).set pb2.1 pb2.2
      · exact (((fr5.set hb0).set hP0).set hF).set hb20
    · have hi0 : i = 0 := by omega
      subst hi0
      have hps : ps = [] := by
        rcases hcnt with z | z
        · omega
        · exact z.2
      subst hps
      have hfr : fr = [] := List.eq_nil_of_length_eq_zero (by simp only [List.length_nil, Nat.zero_mul] at hplen; omega)
      subst hfr
      refine sw_seq <| sw_asg <| ev_lc gw_name <| iv_range1 <| av_cons <| ev_var rfl <| av_nil ⟨_, rfl, by omega, by omega, LP.map (fun t _ => keyD (sp 0 t)) (by rw [rgD_len]; exact sl (by omega)) (fun t d ht => ?_) (gv_name ?_)⟩
      · obtain ⟨htn, rfl⟩ := rgD_in ht
        rw [Int.zero_add]
        exact gv_name <| tv_yes ⟨rfl, ev_tup <| av_cons <| ev_var rfl <| av_cons <| ev_var rfl <| av_nil ⟨l2, rfl, rfl⟩⟩
      rw [hfa]
      refine sw_seq <| sw_asg <| ev_cb <| av_cons <| ev_var rfl <| av_nil <| ra_listM (.inl .f) fun b hb => gv_name ?_
      have hb0 : M b = none := fr1.none dk1 hb
      have pb : b ≠ p ∧ b ≠ q := ⟨dk1.np hb, dk1.nq hb⟩
      have nba : b ≠ a := fun z => by subst z; rw [h2] at hb; cases hb
      have nbF : b ≠ cF := fun z => by subst z; rw [h1] at hb; cases hb
      have nbP : b ≠ cP := fun z => by subst z; rw [h3] at hb; cases hb
      refine sw_seq <| sw_if <| tv_test <| ev_op <| ev_var rfl <| ev_int <| rd_intb ⟨_, rfl, ifd (fun z => absurd z h0) (fun _ => sw_next ?_)⟩
      refine sw_seq <| sw_drop <| ev_bm <| ev_var rfl ⟨tyd_adr (l := (List.range 0).map fun j => .lst ((faceK m j).map keyD)) (by rw [MH.set_ne nbF.symm]; exact h1), av_cons <| ev_var rfl <| av_nil <| rm_append (l := (List.range 0).map fun j => .lst ((faceK m j).map keyD)) (by rw [MH.set_ne nbF.symm]; exact h1) (by rw [List.length_map, List.length_range]; exact sl' (by omega)) ?_⟩
      rw [← hnF]
      refine sw_seq <| sw_asg <| ev_op <| ev_var rfl <| ev_var rfl <| rd_catM (a := []) (b := (faceK m 0).map keyD) (.m (by rw [MH.set_ne naF, MH.set_ne nba.symm]; exact h2)) (.m (by rw [MH.set_ne nbF, MH.set_same])) ?_ fun b2 hb2 => gv_name <| sw_next ?_
      · rw [List.length_map, faceK_len]; exact sl (by simp; omega)
      obtain ⟨nb2F, hb3⟩ := set_none hb2
      obtain ⟨nb2b, hb4⟩ := set_none hb3
      have hb20 : M b2 = none := fr1.none dk1 hb4
      have nb2P : b2 ≠ cP := fun z => by subst z; rw [h3] at hb4; cases hb4
      have pb2 : b2 ≠ p ∧ b2 ≠ q := ⟨dk.np hb20, dk.nq hb20⟩
      refine ⟨faceK m 0, [], b2, _, _, _, _, rfl, hb20, nb2F, nb2P, ?_, MH.set_same, ?_, ?_, .inl rfl, ?_, ?_⟩
      · rw [MH.set_ne nb2F.symm, MH.set_same]
      · rw [MH.set_ne nb2P.symm, MH.set_ne nPF, MH.set_ne nbP.symm]; exact h3
      · rw [hnx]
        exact List.Perm.of_eq (by simp [flatP])
      · exact ((dk1.set pb.1 pb.2).set pF.1 pF.2).set pb2.1 pb2.2
      · exact ((fr1.set hb0).set hF).set hb20
  · rintro ds M1 ⟨fr, ps, a, o1, o2, o3, o4, rfl, ha, naF, naP, h1, h2, h3, hperm, hcnt, dk1, fr1⟩
    have hel : (enumD (List.replicate c (nD m))).length = c := by unfold enumD; rw [List.length_mapIdx, List.length_replicate]
    rw [hel] at h1 hperm hcnt
    have hps : ps.length + 1 = c := by
      rcases hcnt with z | z
      · exact z
      · omega
    have hplen : fr.length + 2 * ps.length = c * m := by
      have := hperm.length_eq
      rw [List.length_append, flatP_len, faces_len] at this; exact this
    have pa : a ≠ p ∧ a ≠ q := ⟨dk.np ha, dk.nq ha⟩
    refine sw_seq <| sw_if <| tv_test <| ev_op <| ev_op <| ev_cb <| av_cons <| ev_cb <| av_cons <| ev_var rfl <| av_nil <| ra_lenM h2 <| av_nil <| ra_int <| ev_int <| rd_mod (by decide) <| ev_int <| rd_eqI ⟨_, rfl, ifd (fun hz => ?_) (fun _ => sw_next ?_)⟩
    · rw [List.length_map] at hz; omega
    refine sw_seq <| sw_asg <| ev_call <| av_cons <| ev_var rfl <| av_cons <| ev_var rfl <| av_nil ⟨p, q, _, _, rfl, .inl (.m h2), by rw [List.length_map]; omega, dk1, fun ys M2 hys dk2 fr2 => gv_name ?_⟩
    obtain ⟨zs, hz, rfl⟩ := perm_map_inv hys fr rfl
    have hzl : zs.length = fr.length := hz.length_eq
    have g1 := fr2 cF _ h1 pF.1 pF.2
    have g3 := fr2 cP _ h3 pP.1 pP.2
    have ez : zs.length = 2 * (zs.length / 2) := by omega
    refine sw_seq <| sw_asg <| ev_op <| ev_var rfl <| ev_lc gw_name <| iv_range3 <| av_cons <| ev_int <| av_cons <| ev_cb <| av_cons <| ev_var rfl <| av_nil <| ra_lenL <| av_cons <| ev_int <| av_nil ⟨_, _, _, zs.length / 2, rfl, ?_, ?_⟩
    · rw [List.length_map, ez, show 2 * (zs.length / 2) / 2 = zs.length / 2 by omega]; exact rgc2 (by omega)
    refine LP.map (fun t _ => .tup [keyD (zs.getD (2 * t) .none), keyD (zs.getD (2 * t + 1) .none)]) (by unfold rgC; rw [List.length_map, List.length_range]; exact sl (by omega)) (fun t d ht => ?_) ?_
    · unfold rgC at ht
      rw [List.getElem?_map] at ht
      obtain ⟨t', ht1, rfl⟩ := Option.map_eq_some_iff.mp ht
      obtain ⟨htl, rfl⟩ : t < zs.length / 2 ∧ t' = t := by
        have := List.getElem?_eq_some_iff.mp ht1
        obtain ⟨q1, q2⟩ := this
        rw [List.length_range] at q1
        rw [List.getElem_range] at q2
        exact ⟨q1, q2.symm⟩
      obtain ⟨x, y, q1, q2, _⟩ := prs_get zs t' (by omega)
      have a1 : atI (zs.map keyD) ((0 : Int) + (t' : Nat) * 2) = some (keyD (zs.getD (2 * t') .none)) := by
        rw [show (0 : Int) + (t' : Nat) * 2 = ((2 * t' : Nat) : Int) by omega]
        refine atI_nat ?_
        rw [List.getElem?_map, q1, List.getD_eq_getElem?_getD, q1]; rfl
      have a2 : atI (zs.map keyD) ((0 : Int) + (t' : Nat) * 2 + 1) = some (keyD (zs.getD (2 * t' + 1) .none)) := by
        rw [show (0 : Int) + (t' : Nat) * 2 + 1 = ((2 * t' + 1 : Nat) : Int) by omega]
        refine atI_nat ?_
        rw [List.getElem?_map, q2, List.getD_eq_getElem?_getD, q2]; rfl
      exact gv_name <| tv_yes ⟨rfl, ev_tup <| av_cons <| ev_op <| ev_var rfl <| ev_var rfl <| rd_ixL a1 <| av_cons <| ev_op <| ev_var rfl <| ev_op <| ev_var rfl <| ev_int <| rd_int <| rd_ixL a2 <| av_nil ⟨l2, rfl, rfl⟩⟩
    have e1 : (rgC 0 2 (zs.length / 2)).mapIdx (fun t _ => D.tup [keyD (zs.getD (2 * t) .none), keyD (zs.getD (2 * t + 1) .none)]) = (prs zs).map fun r => .tup [keyD r.1, keyD r.2] := by
      apply List.ext_getElem?
      intro t
      unfold rgC
      rw [List.getElem?_mapIdx, List.getElem?_map, List.getElem?_map]
      by_cases ht : t < zs.length / 2
      · obtain ⟨x, y, q1, q2, q3⟩ := prs_get zs t (by omega)
        rw [List.getElem?_range ht, q3, List.getD_eq_getElem?_getD, List.getD_eq_getElem?_getD, q1, q2]; rfl
      · rw [List.getElem?_eq_none (by rw [List.length_range]; omega), List.getElem?_eq_none (by rw [prs_len]; omega)]; rfl
    rw [e1]
    refine rd_cat (.m g3) .f (by rw [List.length_map, List.length_map, prs_len]; exact sl (by omega)) <| gv_name ?_
    rw [← List.map_append]
    refine sw_frzL (i := 2) rfl g1 ?_
    have hfl : flatP (ps ++ prs zs) = flatP ps ++ zs := by
      have : flatP (ps ++ prs zs) = flatP ps ++ flatP (prs zs) := by unfold flatP; rw [List.flatMap_append]
      rw [this, prs_flat zs (by omega)]
    have hpp : (flatP (ps ++ prs zs)).Perm (((List.range c).map (faceK m)).flatten) := by
      rw [hfl]
      exact (List.perm_append_comm.trans (List.Perm.append_right _ hz)).trans hperm
    have e2 : (List.range c).map (fun j => D.lst ((faceK m j).map keyD)) = ((List.range c).map (faceK m)).map fun f => .lst (f.map keyD) := by rw [List.map_map]; rfl
    rw [e2]
    have hpl : (ps ++ prs zs).length * 2 = c * m := by
      have := hpp.length_eq
      rw [flatP_len, faces_len] at this; omega
    refine sw_ret <| ev_call <| av_cons <| ev_var rfl <| av_cons <| ev_var rfl <| av_cons <| ev_var rfl <| av_nil <| .inl ⟨p, q, (List.range c).map (faceK m), ps ++ prs zs, m, rfl, ?_, hpp.symm, ?_, by omega, by omega, ?_, by omega, ?_, dk2.del pF.1 pF.2, fun F M3 hF1 hF2 dk3 fr3 => ?_⟩
    · exact hpp.nodup_iff.mpr (faces_nodup m c)
    · intro f hf
      obtain ⟨j, _, rfl⟩ := List.mem_map.mp hf
      exact faceK_len m j
    · rw [List.length_map, List.length_range]
      rcases hm with e | e <;> subst e <;> omega
    · intro s hs
      have := hpp.mem_iff.mp hs
      obtain ⟨f, hf, hsf⟩ := List.mem_flatten.mp this
      obtain ⟨j, _, rfl⟩ := List.mem_map.mp hf
      obtain ⟨a, _, rfl⟩ := List.mem_map.mp hsf
      exact ⟨_, rfl, by simp [NestedKey.depth, NestedKey.depthAll]⟩
    · rw [show 2 * (ps ++ prs zs).length = c * m by omega] at hF2
      refine hk F M3 ⟨hm, hF1, hF2, hev, ?_, h64⟩ dk3 ?_
      · rcases hm with e | e <;> subst e <;> omega
      · exact fun x o e e1 e2 => fr3 x o (((fr1.trans fr2).del hF) x o e e1 e2) e1 e2
end
end WK

set_option Elab.async false
set_option linter.all false
set_option maxRecDepth 100000
set_option maxHeartbeats 4000000
namespace WK
open PySem PySem.Spec PyProof.Rows L2 Evl PL
def spFloored : PL.Spec := fun l M k => ∃ (p q : Addr) (most : Int), l = [.adr p, .int most] ∧ 0 < most ∧ most ≤ 8 ∧ DkOk p q M ∧ ∀ F m n M', Sol F m n → DkOk p q M' → Fr p q M M' → k (solidD F) M'
theorem spFloored_len : ∀ l M k, spFloored l M k → l.length = 2 := fun l M k ⟨_, _, _, h, _⟩ => by rw [h]; rfl
def spMade : PL.Spec := fun l M k => ∃ (p q : Addr), l = [.adr p] ∧ DkOk p q M ∧ ∀ F m n M', Sol F m n → DkOk p q M' → Fr p q M M' → k (solidD F) M'
theorem spMade_len : ∀ l M k, spMade l M k → l.length = 1 := fun l M k ⟨_, _, h, _⟩ => by rw [h]; rfl
def spDeck : PL.Spec := fun l M k => ∃ (ns : List Int), l = [.scr (ns.map D.int)] ∧ ∀ p q M', DkOk p q M' → Keep M M' → k (.adr p) M'
theorem spDeck_len : ∀ l M k, spDeck l M k → l.length = 1 := fun l M k ⟨_, h, _⟩ => by rw [h]; rfl
/-! ### the made solids -/
def cubeF : List (List Nat) := [[0, 2, 4, 6], [1, 8, 10, 12], [3, 13, 14, 16], [5, 17, 18, 20], [7, 21, 22, 9], [11, 23, 19, 15]]
def tetraF : List (List Nat) := [[0, 2, 4], [1, 6, 8], [3, 9, 10], [5, 11, 7]]
def knotF : List (List Nat) := [[0, 2, 1, 3]]
def twoF : List (List Nat) := [[0, 2, 4], [1, 5, 3]]
def madeF : List (List (List Nat)) := [cubeF, tetraF, knotF, twoF]
structure MadeOk (F : List (List Nat)) (m : Nat) : Prop where
  m34 : m = 3 ∨ m = 4
  sz : ∀ f ∈ F, f.length = m
  perm : F.flatten.Perm (List.range (F.length * m))
  ev : (F.length * m) % 2 = 0
  n0 : 0 < F.length
  n6 : F.length ≤ 6
theorem made_ok : ∀ F ∈ madeF, ∃ m, MadeOk F m := by
  intro F h
  rcases List.mem_cons.mp h with e | h
  · subst e; exact ⟨4, .inr rfl, by decide +kernel, by decide +kernel, by decide, by decide, by decide⟩
  rcases List.mem_cons.mp h with e | h
  · subst e; exact ⟨3, .inl rfl, by decide +kernel, by decide +kernel, by decide, by decide, by decide⟩
  rcases List.mem_cons.mp h with e | h
  · subst e; exact ⟨4, .inr rfl, by decide +kernel, by decide +kernel, by decide, by decide, by decide⟩
  rcases List.mem_cons.mp h with e | h
  · subst e; exact ⟨3, .inl rfl, by decide +kernel, by decide +kernel, by decide, by decide, by decide⟩
  cases h
theorem made_sum {F : List (List Nat)} {m : Nat} (h : ∀ f ∈ F, f.length = m) : ((F.map fun f => (f.length : Int))).sum = ((F.length * m : Nat) : Int) := by
  induction F with
  | nil => simp
  | cons f r ih =>
    rw [List.map_cons, List.sum_cons, ih fun g hg => h g (List.mem_cons_of_mem _ hg), h f List.mem_cons_self, List.length_cons, Nat.succ_mul]
    omega
def listF (F : List (List Nat)) : D := .lst (F.map fun f => .lst (f.map nD))
abbrev kN (s : Nat) : L2.Key := .inl (s : Int)
theorem twos (P : Nat) : flatP ((List.range P).map fun i => (kN (2 * i), kN (2 * i + 1))) = (List.range (2 * P)).map kN := by
  induction P with
  | zero => rfl
  | succ P ih =>
    have e : flatP ((List.range (P + 1)).map fun i => (kN (2 * i), kN (2 * i + 1))) = flatP ((List.range P).map fun i => (kN (2 * i), kN (2 * i + 1))) ++ [kN (2 * P), kN (2 * P + 1)] := by
      rw [List.range_succ, List.map_append]; unfold flatP; rw [List.flatMap_append]; rfl
    rw [e, ih, show 2 * (P + 1) = 2 * P + 1 + 1 by omega, List.range_succ, List.range_succ, List.map_append, List.map_append, List.append_assoc]
    rfl
theorem kN_nodup (n : Nat) : ((List.range n).map kN).Nodup := List.pairwise_map.mpr (List.nodup_range.imp fun h e => h (by injection e with e; omega))
abbrev s_law_deck : Stmt := top 19
abbrev N_law_deck : List Str := ["script", "heaps", "seed", "cell", "size"]
theorem sc_law_deck : FnScope N_law_deck ["script"] (defScope s_law_deck) := ⟨rfl, rfl, rfl, by decide +kernel, rfl, by decide +kernel, by decide +kernel⟩
abbrev s_law_floored : Stmt := top 29
abbrev N_law_floored : List Str := ["deck", "most"]
theorem sc_law_floored : FnScope N_law_floored ["deck", "most"] (defScope s_law_floored) := ⟨rfl, rfl, rfl, by decide +kernel, rfl, by decide +kernel, by decide +kernel⟩
abbrev s_law_made : Stmt := top 30
abbrev N_law_made : List Str := ["deck", "cube", "faces", "many", "face", "pair"]
theorem sc_law_made : FnScope N_law_made ["deck"] (defScope s_law_made) := ⟨rfl, rfl, rfl, by decide +kernel, rfl, by decide +kernel, by decide +kernel⟩
section
variable {P : Program} {w : World} {K : PySem.W.Frag} {mg : Str → Option Value} {base : Heap}
theorem ok_law_floored {f C mv : Addr} {fd : FuncData} {tk1 tk2 : Tok} (F : Fun K "_law_floored" "_law_floored" s_law_floored f fd) (T : Bi mg) (c_law_glued : Cal P w K mg base "_law_glued" 4 ["deck", "sizes"] spGlued) (c_law_deal : Cal P w K mg base "_law_deal" 1 ["deck", "many"] spDeal) : FnOk P w K mg base CX0 5 f fd ["deck", "most"] (SpD K w spFloored) := by
  refine F.ok sc_law_floored (fun vs H Q E h => SpD.len (n := 2) (spFloored_len) h) (fun cdv A outer s H vs Q E hr h => ?_)
  have hu := hu_of hr
  have hu16 := hu16_of hr
  refine ⟨_, (pss_cons (ps_if (pt_cmpR op_eq (pe_cal c_law_deal (hr.mono (by decide)) (by rfl) (pa_cons (pv 0) (pa_cons pe_int pa_nil))) pe_int (nomark _))
(pss_one (ps_ret (pe_cal c_law_glued (hr.mono (by decide)) (by rfl) (pa_cons (pv 0) (pa_cons (pe_op op_rep (pe_lst (pa_cons pe_int pa_nil)) (pe_op op_add pe_int (pe_cal c_law_deal (hr.mono (by decide)) (by rfl) (pa_cons (pv 0) (pa_cons (pv 1) pa_nil))))) pa_nil)))))
pss_nil)
(pss_one (ps_ret (pe_cal c_law_glued (hr.mono (by decide)) (by rfl) (pa_cons (pv 0) (pa_cons (pe_op op_rep (pe_lst (pa_cons pe_int pa_nil)) (pe_op op_add pe_int (pe_op op_mul pe_int (pe_cal c_law_deal (hr.mono (by decide)) (by rfl) (pa_cons (pv 0) (pa_cons (pv 1) pa_nil)))))) pa_nil)))))), go h ?_⟩
  clear hu hu16 hr h
  rintro l M k ⟨p, q, most, rfl, h0, h8, dk, hk⟩
  have rep : ∀ (c : Int) (d : D), (List.replicate c.toNat [d]).flatten = List.replicate c.toNat d := fun c d => by
    induction c.toNat with
    | zero => rfl
    | succ n ih => rw [List.replicate_succ, List.replicate_succ, List.flatten_cons, ih]; rfl
  refine sw_seq <| sw_if <| tv_test <| ev_op <| ev_call <| av_cons <| ev_var rfl <| av_cons <| ev_int <| av_nil ⟨p, q, _, rfl, by decide, by decide, dk, fun r M1 r0 r1 dk1 fr1 => ev_int <| rd_eqI ⟨_, rfl, ifd (fun _ => ?_) (fun _ => sw_next ?_)⟩⟩
  · refine sw_ret <| ev_call <| av_cons <| ev_var rfl <| av_cons <| ev_op <| ev_lst <| av_cons <| ev_int <| av_nil ⟨l1, ev_op <| ev_int <| ev_call <| av_cons <| ev_var rfl <| av_cons <| ev_var rfl <| av_nil ⟨p, q, _, rfl, h0, by omega, dk1, fun r M2 r0 r1 dk2 fr2 => rd_int <| rd_rep .f (by omega) ?_ <| av_nil ?_⟩⟩
    · show 1 * _ ≤ _; exact sl (by omega)
    rw [rep]
    refine ⟨p, q, (1 + r).toNat, 4, rfl, .inr rfl, by omega, by omega, by omega, dk2, fun F M3 hF dk3 fr3 => hk F _ _ M3 hF dk3 ((fr1.trans fr2).trans fr3)⟩
  · refine sw_ret <| ev_call <| av_cons <| ev_var rfl <| av_cons <| ev_op <| ev_lst <| av_cons <| ev_int <| av_nil ⟨l1, ev_op <| ev_int <| ev_op <| ev_int <| ev_call <| av_cons <| ev_var rfl <| av_cons <| ev_var rfl <| av_nil ⟨p, q, _, rfl, h0, by omega, dk1, fun r M2 r0 r1 dk2 fr2 => rd_mul (.inl (by decide)) <| rd_int <| rd_rep .f (by omega) ?_ <| av_nil ?_⟩⟩
    · show 1 * _ ≤ _; exact sl (by omega)
    rw [rep]
    refine ⟨p, q, (2 + 2 * r).toNat, 3, rfl, .inl rfl, by omega, by omega, by omega, dk2, fun F M3 hF dk3 fr3 => hk F _ _ M3 hF dk3 ((fr1.trans fr2).trans fr3)⟩
theorem ok_law_made {f C mv : Addr} {fd : FuncData} {tk1 tk2 : Tok} (F : Fun K "_law_made" "_law_made" s_law_made f fd) (T : Bi mg) (c_law_numbered : Cal P w K mg base "_law_numbered" 3 ["deck", "faces", "pairs"] spNum) (c_law_deal : Cal P w K mg base "_law_deal" 1 ["deck", "many"] spDeal) : FnOk P w K mg base CX0 4 f fd ["deck"] (SpD K w spMade) := by
  refine F.ok sc_law_made (fun vs H Q E h => SpD.len (n := 1) (spMade_len) h) (fun cdv A outer s H vs Q E hr h => ?_)
  have hu := hu_of hr
  have hu16 := hu16_of hr
  refine ⟨_, (pss_cons (ps_set (i := 1) sc_law_made.nd rfl (Or.inl rfl) (pe_lst (pa_cons (pe_lst (pa_cons pe_int (pa_cons pe_int (pa_cons pe_int (pa_cons pe_int pa_nil))))) (pa_cons (pe_lst (pa_cons pe_int (pa_cons pe_int (pa_cons pe_int (pa_cons pe_int pa_nil))))) (pa_cons (pe_lst (pa_cons pe_int (pa_cons pe_int (pa_cons pe_int (pa_cons pe_int pa_nil))))) (pa_cons (pe_lst (pa_cons pe_int (pa_cons pe_int (pa_cons pe_int (pa_cons pe_int pa_nil))))) (pa_cons (pe_lst (pa_cons pe_int (pa_cons pe_int (pa_cons pe_int (pa_cons pe_int pa_nil))))) (pa_cons (pe_lst (pa_cons pe_int (pa_cons pe_int (pa_cons pe_int (pa_cons pe_int pa_nil))))) pa_nil))))))))
(pss_cons (ps_set (i := 2) sc_law_made.nd rfl (Or.inl rfl) (pe_ix ix_list (pe_lst (pa_cons (pv 1) (pa_cons (pe_lst (pa_cons (pe_lst (pa_cons pe_int (pa_cons pe_int (pa_cons pe_int pa_nil)))) (pa_cons (pe_lst (pa_cons pe_int (pa_cons pe_int (pa_cons pe_int pa_nil)))) (pa_cons (pe_lst (pa_cons pe_int (pa_cons pe_int (pa_cons pe_int pa_nil)))) (pa_cons (pe_lst (pa_cons pe_int (pa_cons pe_int (pa_cons pe_int pa_nil)))) pa_nil))))) (pa_cons (pe_lst (pa_cons (pe_lst (pa_cons pe_int (pa_cons pe_int (pa_cons pe_int (pa_cons pe_int pa_nil))))) pa_nil)) (pa_cons (pe_lst (pa_cons (pe_lst (pa_cons pe_int (pa_cons pe_int (pa_cons pe_int pa_nil)))) (pa_cons (pe_lst (pa_cons pe_int (pa_cons pe_int (pa_cons pe_int pa_nil)))) pa_nil))) pa_nil))))) (pe_cal c_law_deal (hr.mono (by decide)) (by rfl) (pa_cons (pv 0) (pa_cons pe_int pa_nil))) (fun _ _ => rfl)))
(pss_cons (ps_set (i := 3) sc_law_made.nd rfl (Or.inl rfl) (pe_callB (cr_sum rfl) (by rfl) T.sum (by decide +kernel) (pa_cons (pe_lc (own := [("face", 4)]) (g := gName 4) (by rfl) sc_law_made.nd (pi_list (pv 2)) (blkOk_by (own := [("face", 4)]) (N := N_law_made) (sc := defScope s_law_made) (by decide +kernel)) (fun _ _ _ _ _ => (pg_name (i := 4) sc_law_made.nd rfl (Or.inl rfl))) (fun _ _ _ _ _ => pts_nil) (fun _ _ _ _ _ => (pe_callB (cb_lenK rfl) (by rfl) T.len (by decide +kernel) (pa_cons (pv 4) pa_nil)))) pa_nil)))
(pss_one (ps_ret (pe_cal c_law_numbered (hr.mono (by decide)) (by rfl) (pa_cons (pv 0) (pa_cons (pv 2) (pa_cons (pe_lc (own := [("pair", 5)]) (g := gName 5) (by rfl) sc_law_made.nd (pi_range1 (by rfl) T.range (pa_cons (pe_op op_fdiv (pv 3) pe_int) pa_nil)) (blkOk_by (own := [("pair", 5)]) (N := N_law_made) (sc := defScope s_law_made) (by decide +kernel)) (fun _ _ _ _ _ => (pg_name (i := 5) sc_law_made.nd rfl (Or.inl rfl))) (fun _ _ _ _ _ => pts_nil) (fun _ _ _ _ _ => (pe_tup (pa_cons (pe_op op_mul pe_int (pv 5)) (pa_cons (pe_op op_add (pe_op op_mul pe_int (pv 5)) pe_int) pa_nil))))) pa_nil))))))))), go h ?_⟩
  clear hu hu16 hr h
  rintro l M k ⟨p, q, rfl, dk, hk⟩
  refine sw_seq <| sw_asg ?_
  repeat (first | (refine ev_lst ?_) | (refine av_cons ?_) | (refine ev_int ?_) | (refine av_nil ⟨sl (by decide), ?_⟩))
  refine gv_name ?_
  refine sw_seq <| sw_asg <| ev_op <| ev_lst <| av_cons <| ev_var rfl ?_
  repeat (first | (refine ev_lst ?_) | (refine av_cons ?_) | (refine ev_int ?_) | (refine av_nil ⟨sl (by decide), ?_⟩))
  refine ev_call <| av_cons <| ev_var rfl <| av_cons <| ev_int <| av_nil ⟨p, q, _, rfl, by decide, by decide, dk, fun r M1 r0 r1 dk1 fr1 => ?_⟩
  obtain ⟨j, hj, hr⟩ : ∃ j : Nat, j < 4 ∧ r = (j : Int) := ⟨r.toNat, by omega, by omega⟩
  subst hr
  obtain ⟨F, hF⟩ : ∃ F, madeF[j]? = some F := ⟨_, List.getElem?_eq_getElem (show j < madeF.length from hj)⟩
  have hix : atI (madeF.map listF) (j : Int) = some (listF F) := atI_nat (by rw [List.getElem?_map, hF]; rfl)
  refine rd_ixL (l := madeF.map listF) hix <| gv_name ?_
  obtain ⟨m, ok⟩ := made_ok F (List.mem_of_getElem? hF)
  have hm : F.length * m ≤ 24 := Nat.le_trans (Nat.mul_le_mul ok.n6 (show m ≤ 4 by have := ok.m34; omega)) (by decide)
  refine sw_seq <| sw_asg <| ev_cb <| av_cons <| ev_lc gw_name <| iv_list <| ev_var rfl ⟨_, .inl rfl, LP.map (fun j _ => .int ((F.getD j []).length : Nat)) (by rw [List.length_map]; exact sl (by have := ok.n6; omega)) (fun j d hj => ?_) ?_⟩
  · rw [List.getElem?_map] at hj
    obtain ⟨f, hf, rfl⟩ := Option.map_eq_some_iff.mp hj
    have e : F.getD j [] = f := by rw [List.getD_eq_getElem?_getD, hf]; rfl
    exact gv_name <| tv_yes ⟨rfl, ev_cb <| av_cons <| ev_var rfl <| av_nil <| ra_lenL ⟨by rw [e, List.length_map], rfl⟩⟩
  have e1 : (F.map fun f => D.lst (f.map nD)).mapIdx (fun j _ => D.int ((F.getD j []).length : Nat)) = (F.map fun f => (f.length : Int)).map D.int := by
    apply List.ext_getElem?
    intro i
    rw [List.getElem?_mapIdx, List.getElem?_map, List.map_map, List.getElem?_map]
    cases hi : F[i]? with
    | none => rfl
    | some f => rw [List.getD_eq_getElem?_getD, hi]; rfl
  rw [e1]
  refine av_nil <| ra_sum .f <| gv_name ?_
  rw [made_sum ok.sz]
  refine sw_ret <| ev_call <| av_cons <| ev_var rfl <| av_cons <| ev_var rfl <| av_cons <| ev_lc gw_name <| iv_range1 <| av_cons <| ev_op <| ev_var rfl <| ev_int <| rd_fdiv (by decide) <| av_nil ⟨_, rfl, by omega, by omega, LP.map (fun j _ => .tup [kD (kN (2 * j)), kD (kN (2 * j + 1))]) (by rw [rgD_len]; exact sl (by omega)) (fun j d hj => ?_) ?_⟩
  · obtain ⟨hj, rfl⟩ := rgD_in hj
    refine gv_name <| tv_yes ⟨rfl, ev_tup <| av_cons <| ev_op <| ev_int <| ev_var rfl <| rd_mul (.inl (by decide)) <| av_cons <| ev_op <| ev_op <| ev_int <| ev_var rfl <| rd_mul (.inl (by decide)) <| ev_int <| rd_int <| av_nil ⟨l2, ?_, rfl⟩⟩
    show D.tup [D.int _, D.int _] = D.tup [D.int _, D.int _]
    rw [show (2 : Int) * (0 + (j : Nat)) = ((2 * j : Nat) : Int) by omega]
    rfl
  have e2 : (rgD 0 ((((F.length * m : Nat) : Int) / 2).toNat)).mapIdx (fun j _ => D.tup [kD (kN (2 * j)), kD (kN (2 * j + 1))]) = ((List.range (F.length * m / 2)).map fun i => (kN (2 * i), kN (2 * i + 1))).map fun r => .tup [kD r.1, kD r.2] := by
    rw [show (((F.length * m : Nat) : Int) / 2).toNat = F.length * m / 2 by omega]
    apply List.ext_getElem?
    intro t
    rw [List.getElem?_mapIdx, rgD_get, List.map_map, List.getElem?_map]
    by_cases ht : t < F.length * m / 2
    · rw [if_pos ht, List.getElem?_range ht]; rfl
    · rw [if_neg ht, List.getElem?_eq_none (by simpa using ht)]; rfl
  rw [e2]
  have e3 : listF F = .lst ((F.map fun f => f.map kN).map fun f => .lst (f.map kD)) := by
    unfold listF
    rw [List.map_map]
    congr 1
    refine List.map_congr_left fun f _ => ?_
    show D.lst _ = D.lst _
    rw [List.map_map]; rfl
  have hP : ((List.range (F.length * m / 2)).map fun i => (kN (2 * i), kN (2 * i + 1))).length * 2 = F.length * m := by
    rw [List.length_map, List.length_range]
    have := ok.ev; omega
  have hfp : flatP ((List.range (F.length * m / 2)).map fun i => (kN (2 * i), kN (2 * i + 1))) = (List.range (F.length * m)).map kN := by
    rw [twos, show 2 * (F.length * m / 2) = F.length * m by have := ok.ev; omega]
  refine av_nil <| .inr ⟨p, q, F.map fun f => f.map kN, (List.range (F.length * m / 2)).map fun i => (kN (2 * i), kN (2 * i + 1)), m, by rw [← e3], ?_, ?_, ?_, by have := ok.m34; omega, by have := ok.m34; omega, by rw [List.length_map]; have := ok.n6; omega, by omega, dk1, fun F' M2 h1 h2 dk2 fr2 => ?_⟩
  · rw [hfp]; exact kN_nodup _
  · rw [hfp, ← List.map_flatten]; exact ok.perm.map _
  · intro f hf
    obtain ⟨g, hg, rfl⟩ := List.mem_map.mp hf
    rw [List.length_map]; exact ok.sz g hg
  · rw [show 2 * ((List.range (F.length * m / 2)).map fun i => (kN (2 * i), kN (2 * i + 1))).length = F.length * m by omega] at h2
    refine hk F' m (F.length * m) M2 ⟨ok.m34, h1, h2, ok.ev, ?_, by omega⟩ dk2 (fr1.trans fr2)
    rcases ok.m34 with e | e <;> subst e <;> have := ok.n0 <;> omega
theorem ok_law_deck {f C mv : Addr} {fd : FuncData} {tk1 tk2 : Tok} (F : Fun K "_law_deck" "_law_deck" s_law_deck f fd) (T : Bi mg)  : FnOk P w K mg base CX0 1 f fd ["script"] (SpD K w spDeck) := by
  refine F.ok sc_law_deck (fun vs H Q E h => SpD.len (n := 1) (spDeck_len) h) (fun cdv A outer s H vs Q E hr h => ?_)
  have hu := hu_of hr
  have hu16 := hu16_of hr
  refine ⟨_, (pss_cons (ps_set (i := 1) sc_law_deck.nd rfl (Or.inl rfl) (pe_lst pa_nil))
(pss_cons (ps_set (i := 2) sc_law_deck.nd rfl (Or.inl rfl) pe_int)
(pss_cons (ps_for PassesOwn.never rfl (pi_list (pe_slice sl_list (pv 0) po_none (po_some pe_int))) (pg_name (i := 3) sc_law_deck.nd rfl (Or.inl rfl))
(pss_cons (ps_set (i := 4) sc_law_deck.nd rfl (Or.inl rfl) (pe_op op_mod (pe_callB call_abs (by rfl) T.abs (by decide +kernel) (pa_cons (pe_callTy call_int1 (by rfl) T.int (by decide +kernel) (pa_cons (pv 3) pa_nil)) pa_nil)) (pe_op op_mulW (pe_op op_mulW (pe_op op_mulW (pe_op op_pow pe_int pe_int) (pe_op op_pow pe_int pe_int)) (pe_op op_pow pe_int pe_int)) (pe_op op_pow pe_int pe_int))))
(pss_cons (ps_set (i := 2) sc_law_deck.nd rfl (Or.inl rfl) (pe_op op_mod (pe_callTy call_int1 (by rfl) T.int (by decide +kernel) (pa_cons (pe_op op_add (pe_op op_add (pe_op op_mul (pv 2) pe_int) (pe_op op_mod (pe_callTy call_int1 (by rfl) T.int (by decide +kernel) (pa_cons (pv 4) pa_nil)) pe_int)) pe_int) pa_nil)) pe_int))
(pss_one (ps_if (pt_cmpR op_ge (pv 4) (pe_op op_pow pe_int pe_int) (nomark _))
(pss_one (ps_expr (pe_bm PySem.F.plainAttrs_list PySem.F.slot_list_append PySem.F.type_list_append mt_append (pv 1) (pa_cons (pv 4) pa_nil))))
pss_nil)))))
(pss_one (ps_ret (pe_disp (pps_cons pe_str (pv 1) (pps_cons pe_str (pv 2) pps_nil)) (by rfl) (by rfl) (fun z => by cases z) (by decide))))))), go h ?_⟩
  clear hu hu16 hr h
  rintro l M k ⟨ns, rfl, hk⟩
  refine sw_seq <| sw_asg <| ev_lstM <| av_nil ⟨Nat.zero_le _, fun q hq => gv_name ?_⟩
  refine sw_seq <| sw_asg <| ev_int <| gv_name ?_
  refine sw_seq <| sw_for <| iv_list <| ev_sl <| ev_var rfl <| ov_none <| ov_some <| ev_int ⟨_, rfl, rsl_scr ⟨_, .inl rfl, ?_⟩⟩
  have e63 : cutD (ns.map D.int) none (some 63) = (ns.take 63).map D.int := by
    rw [List.map_take]; exact cut_to (ns.map D.int) 63
  rw [e63]
  refine FP.start (fun i ds M' => ∃ (hs : List Int) (s : Int) (o1 o2 : Option D), ds = [some (.scr (ns.map D.int)), some (.adr q), some (.int s), o1, o2] ∧ M' q = some (.lst (hs.map D.int)) ∧ hs.length ≤ i ∧ 0 ≤ s ∧ s < 2147483648 ∧ Keep M M') ⟨[], _, none, none, rfl, MH.set_same, Nat.le_refl _, by decide, by decide, (Keep.refl M).set hq⟩ ?_ ?_
  · rintro i d ds M1 hi ⟨hs, s, o1, o2, rfl, h1, hl, s0, s1, kp⟩
    rw [List.getElem?_map] at hi
    obtain ⟨c, hc, rfl⟩ := Option.map_eq_some_iff.mp hi
    have hi63 : i < 63 := by
      have := (List.getElem?_eq_some_iff.mp hc).1
      rw [List.length_take] at this; omega
    refine gv_name ?_
    refine sw_seq <| sw_asg <| ev_op <| ev_cb <| av_cons <| ev_cb <| av_cons <| ev_var rfl <| av_nil <| ra_int <| av_nil <| ra_abs <| ev_op <| ev_op <| ev_op <| ev_op <| ev_int <| ev_int <| rd_pow ⟨by decide, by decide, by decide⟩ <| ev_op <| ev_int <| ev_int <| rd_pow ⟨by decide, by decide, by decide⟩ <| rd_mulW (by unfold CMulW; decide +kernel) <| ev_op <| ev_int <| ev_int <| rd_pow ⟨by decide, by decide, by decide⟩ <| rd_mulW (by unfold CMulW; decide +kernel) <| ev_op <| ev_int <| ev_int <| rd_pow ⟨by decide, by decide, by decide⟩ <| rd_mulW (by unfold CMulW; decide +kernel) <| rd_mod (by decide +kernel) <| gv_name ?_
    generalize (if c < 0 then -c else c) % _ = sz
    have n0 := Int.emod_nonneg (s * 44221 + sz % 999931 + 3) (show (2147483497 : Int) ≠ 0 by decide)
    have n1 := Int.emod_lt_of_pos (s * 44221 + sz % 999931 + 3) (show (0 : Int) < 2147483497 by decide)
    refine sw_seq <| sw_asg <| ev_op <| ev_cb <| av_cons <| ev_op <| ev_op <| ev_op <| ev_var rfl <| ev_int <| rd_mul (.inl (by omega)) <| ev_op <| ev_cb <| av_cons <| ev_var rfl <| av_nil <| ra_int <| ev_int <| rd_mod (by decide) <| rd_int <| ev_int <| rd_int <| av_nil <| ra_int <| ev_int <| rd_mod (by decide) <| gv_name ?_
    generalize (s * 44221 + sz % 999931 + 3) % 2147483497 = s' at n0 n1 ⊢
    refine sw_if <| tv_test <| ev_op <| ev_var rfl <| ev_op <| ev_int <| ev_int <| rd_pow ⟨by decide, by decide, by decide⟩ <| rd_intb ⟨_, rfl, ifd (fun _ => ?_) (fun _ => sw_next ?_)⟩
    · refine sw_drop <| ev_bm <| ev_var rfl ⟨tyd_adr h1, av_cons <| ev_var rfl <| av_nil <| rm_append h1 (by rw [List.length_map]; exact sl' (by omega)) ?_⟩
      exact ⟨hs ++ [sz], s', _, _, rfl, by rw [MH.set_same, List.map_append]; rfl, by rw [List.length_append]; simp; omega, n0, by omega, kp.set hq⟩
    · exact ⟨hs, s', _, _, rfl, h1, by omega, n0, by omega, kp⟩
  · rintro ds M1 ⟨hs, s, o1, o2, rfl, h1, hl, s0, s1, kp⟩
    refine sw_ret <| ev_dispM ?_
    refine ev_str <| ev_var rfl <| ev_str <| ev_var rfl ⟨dkv q s, rfl, (show 2 ≤ 15 by decide), ?_, fun p hp => ?_⟩
    · exact List.nodup_cons.mpr ⟨by intro z; exact kHS (List.mem_singleton.mp z), List.nodup_cons.mpr ⟨by simp, List.nodup_nil⟩⟩
    · have hpq : p ≠ q := fun z => by subst z; rw [h1] at hp; cases hp
      exact hk p q _ ⟨hpq, ⟨s, s0, s1, MH.set_same⟩, hs, by rw [MH.set_ne hpq.symm]; exact h1⟩ (kp.set (kp.none hp))
end
end WK

set_option Elab.async false
set_option linter.all false
set_option maxRecDepth 100000
set_option maxHeartbeats 4000000
/-! WM: the mathematics of floors: what is behind, twins, steps, words, laps. No program. -/
namespace WK
open PySem PySem.Spec PyProof.Rows L2 Evl PL

/-! ### what is behind a side -/
def fp (f : List Nat) : List (Nat × Nat) := (List.range f.length).map fun i => (f.getD i 0, f.getD ((i + 1) % f.length) 0)
def bp (F : List (List Nat)) : List (Nat × Nat) := F.flatMap fp
def bh (F : List (List Nat)) (s : Nat) : Nat := nuf (bp F) s
theorem fp_fst (f : List Nat) : (fp f).map (·.1) = f := by
  unfold fp
  rw [List.map_map]
  apply List.ext_getElem?
  intro i
  rw [List.getElem?_map]
  by_cases h : i < f.length
  · rw [List.getElem?_range h, List.getElem?_eq_getElem h]
    show some (f.getD i 0) = _
    rw [List.getD_eq_getElem?_getD, List.getElem?_eq_getElem h]; rfl
  · rw [List.getElem?_eq_none (by simpa using h), List.getElem?_eq_none (by omega)]; rfl
theorem bp_fst (F : List (List Nat)) : (bp F).map (·.1) = F.flatten := by
  induction F with
  | nil => rfl
  | cons f r ih =>
    show (fp f ++ bp r).map (·.1) = f ++ r.flatten
    rw [List.map_append, fp_fst, ih]
theorem nuf_mem {κ : Type} [DecidableEq κ] : ∀ {nu : List (κ × Nat)} {s : κ} {t : Nat}, (nu.map (·.1)).Nodup → (s, t) ∈ nu → nuf nu s = t
  | x :: r, s, t, h, hm => by
    rw [List.map_cons, List.nodup_cons] at h
    rw [nuf_cons]
    rcases List.mem_cons.mp hm with e | e
    · subst e; rw [if_pos rfl]
    · have : s ∈ r.map (·.1) := List.mem_map.mpr ⟨(s, t), e, rfl⟩
      rw [if_neg fun z => h.1 (by rw [z]; exact this)]
      exact nuf_mem h.2 e
def itr {α : Type} (f : α → α) : Nat → α → α
  | 0, x => x
  | n + 1, x => itr f n (f x)
theorem itr_succ {α : Type} (f : α → α) : ∀ (n : Nat) (x : α), itr f (n + 1) x = f (itr f n x)
  | 0, _ => rfl
  | n + 1, x => itr_succ f n (f x)
theorem itr_add {α : Type} (f : α → α) : ∀ (a b : Nat) (x : α), itr f (a + b) x = itr f a (itr f b x)
  | a, 0, x => rfl
  | a, b + 1, x => by
    show itr f (a + b) (f x) = itr f a (itr f b (f x))
    exact itr_add f a b (f x)
section
variable {F : List (List Nat)} {m n : Nat}
theorem Sol.nodup (h : Sol F m n) : F.flatten.Nodup := h.perm.nodup_iff.mpr List.nodup_range
theorem Sol.mem (h : Sol F m n) {s : Nat} : s ∈ F.flatten ↔ s < n := by rw [h.perm.mem_iff, List.mem_range]
theorem Sol.m0 (h : Sol F m n) : 0 < m := by have := h.m34; omega
theorem bh_get (h : Sol F m n) {f : List Nat} (hf : f ∈ F) {i : Nat} (hi : i < m) : bh F (f.getD i 0) = f.getD ((i + 1) % m) 0 := by
  have hl := h.sz f hf
  refine nuf_mem (by rw [bp_fst]; exact h.nodup) ?_
  refine List.mem_flatMap.mpr ⟨f, hf, ?_⟩
  unfold fp
  refine List.mem_map.mpr ⟨i, by rw [List.mem_range]; omega, by rw [hl]⟩
theorem getD_mem {f : List Nat} {i : Nat} (h : i < f.length) : f.getD i 0 ∈ f := by
  rw [List.getD_eq_getElem?_getD, List.getElem?_eq_getElem h]; exact List.getElem_mem h
theorem Sol.at (h : Sol F m n) {s : Nat} (hs : s < n) : ∃ f i, f ∈ F ∧ i < m ∧ s = f.getD i 0 := by
  obtain ⟨f, hf, hsf⟩ := List.mem_flatten.mp (h.mem.mpr hs)
  obtain ⟨i, hi, e⟩ := List.getElem_of_mem hsf
  have hl := h.sz f hf
  refine ⟨f, i, hf, by omega, ?_⟩
  rw [List.getD_eq_getElem?_getD, List.getElem?_eq_getElem hi, e]; rfl
theorem bh_lt (h : Sol F m n) {s : Nat} (hs : s < n) : bh F s < n := by
  obtain ⟨f, i, hf, hi, rfl⟩ := h.at hs
  rw [bh_get h hf hi]
  have hl := h.sz f hf
  exact h.mem.mp (List.mem_flatten.mpr ⟨f, hf, getD_mem (by rw [hl]; exact Nat.mod_lt _ h.m0)⟩)
theorem bh_itr (h : Sol F m n) {f : List Nat} (hf : f ∈ F) {i : Nat} (hi : i < m) : ∀ j, itr (bh F) j (f.getD i 0) = f.getD ((i + j) % m) 0
  | 0 => by show f.getD i 0 = _; rw [Nat.add_zero, Nat.mod_eq_of_lt hi]
  | j + 1 => by
    rw [itr_succ, bh_itr h hf hi j, bh_get h hf (Nat.mod_lt _ h.m0), Nat.mod_add_mod, Nat.add_assoc]
theorem bh_all (h : Sol F m n) {s : Nat} (hs : s < n) : itr (bh F) m s = s := by
  obtain ⟨f, i, hf, hi, rfl⟩ := h.at hs
  rw [bh_itr h hf hi, Nat.add_mod_right, Nat.mod_eq_of_lt hi]
theorem bhi_lt (h : Sol F m n) {s : Nat} (hs : s < n) : ∀ j, itr (bh F) j s < n
  | 0 => hs
  | j + 1 => by rw [itr_succ]; exact bh_lt h (bhi_lt h hs j)
/-! ### twins -/
def tw (s : Nat) : Nat := if s % 2 = 0 then s + 1 else s - 1
theorem tw_tw (s : Nat) : tw (tw s) = s := by
  unfold tw
  by_cases h : s % 2 = 0
  · rw [if_pos h, if_neg (by omega)]; omega
  · rw [if_neg h, if_pos (by omega)]; omega
theorem tw_lt (h : n % 2 = 0) {s : Nat} (hs : s < n) : tw s < n := by
  unfold tw
  by_cases e : s % 2 = 0
  · rw [if_pos e]; omega
  · rw [if_neg e]; omega
theorem tw_xor (s : Nat) : Builtin.bitXor (s : Int) 1 = (tw s : Nat) := by
  have : Builtin.bitXor (s : Int) 1 = ((s ^^^ 1 : Nat) : Int) := Bits.bitXor_pp (x := (s : Int)) (y := 1) (by omega) (by decide)
  rw [this]
  congr 1
  have h1 := Bits.nat_xor_add_and s 1
  rw [Nat.and_one_is_mod] at h1
  unfold tw
  split <;> omega
theorem tw_sub (s : Nat) : (s : Int) + 1 - 2 * ((s : Int) % 2) = (tw s : Nat) := by
  unfold tw
  split <;> omega
end

/-! ### standings: place x, y, kind k, side s -/
structure Std where
  x : Int
  y : Int
  k : Nat
  s : Nat
def stD (t : Std) : D := .tup [.tup [.int t.x, .int t.y, nD t.k], nD t.s]
def dxx (m i k : Nat) : Int := if m = 4 then (if i = 0 then 1 else if i = 2 then -1 else 0) else if i = 1 then 2 * (k : Int) - 1 else 0
def dyy (m i k : Nat) : Int := if m = 4 then (if i = 1 then 1 else if i = 3 then -1 else 0) else if i = 2 then 2 * (k : Int) - 1 else 0
def nk (m k : Nat) : Nat := if m = 4 then k else 1 - k
def bk (m i : Nat) : Nat := if m = 4 then (if i = 0 then 2 else if i = 1 then 1 else if i = 2 then 0 else 3) else if i = 0 then 0 else if i = 1 then 2 else 1
def opp (m i : Nat) : Nat := if m = 4 then (i + 2) % 4 else i
def step (m : Nat) (b : Nat → Nat) (t : Std) (i : Nat) : Std :=
  ⟨t.x + dxx m i t.k, t.y + dyy m i t.k, nk m t.k, itr b (bk m i) (tw (itr b i t.s))⟩
def runW (m : Nat) (b : Nat → Nat) (t : Std) (w : List Nat) : Std := w.foldl (step m b) t
/-- a right standing -/
structure Ok (m n : Nat) (t : Std) : Prop where
  s : t.s < n
  k : t.k ≤ 1
  k4 : m = 4 → t.k = 0
theorem runW_nil (m : Nat) (b : Nat → Nat) (t : Std) : runW m b t [] = t := rfl
theorem runW_cons (m : Nat) (b : Nat → Nat) (t : Std) (i : Nat) (w : List Nat) : runW m b t (i :: w) = runW m b (step m b t i) w := rfl
theorem runW_app (m : Nat) (b : Nat → Nat) (t : Std) (v w : List Nat) : runW m b t (v ++ w) = runW m b (runW m b t v) w := by unfold runW; rw [List.foldl_append]
section
variable {F : List (List Nat)} {m n : Nat}
theorem step_ok (h : Sol F m n) {t : Std} (o : Ok m n t) (i : Nat) : Ok m n (step m (bh F) t i) := by
  refine ⟨bhi_lt h (tw_lt h.ev (bhi_lt h o.s i)) _, ?_, fun e => ?_⟩
  · show nk m t.k ≤ 1
    unfold nk; split
    · exact o.k
    · omega
  · show nk m t.k = 0
    unfold nk; rw [if_pos e]; exact o.k4 e
theorem runW_ok (h : Sol F m n) : ∀ (w : List Nat) {t : Std}, Ok m n t → Ok m n (runW m (bh F) t w)
  | [], _, o => o
  | i :: w, _, o => runW_ok h w (step_ok h o i)
/-- a letter and the one turned about lead back -/
theorem step_opp (h : Sol F m n) {t : Std} (o : Ok m n t) {i : Nat} (hi : i < m) : step m (bh F) (step m (bh F) t i) (opp m i) = t := by
  have hb : itr (bh F) m (tw (itr (bh F) i t.s)) = tw (itr (bh F) i t.s) := bh_all h (tw_lt h.ev (bhi_lt h o.s i))
  have hb2 : itr (bh F) m t.s = t.s := bh_all h o.s
  have ar : (opp m i + bk m i = m ∨ opp m i + bk m i = 0) ∧ (bk m (opp m i) + i = m ∨ bk m (opp m i) + i = 0) ∧ (∀ k, k ≤ 1 → (m = 4 → k = 0) → nk m (nk m k) = k ∧ dxx m i k + dxx m (opp m i) (nk m k) = 0 ∧ dyy m i k + dyy m (opp m i) (nk m k) = 0) := by
    rcases h.m34 with e | e
    · subst e
      rcases (show i = 0 ∨ i = 1 ∨ i = 2 by omega) with e | e | e <;> subst e <;> refine ⟨by decide, by decide, fun k k1 k4 => ?_⟩ <;> rcases (show k = 0 ∨ k = 1 by omega) with e | e <;> subst e <;> decide
    · subst e
      rcases (show i = 0 ∨ i = 1 ∨ i = 2 ∨ i = 3 by omega) with e | e | e | e <;> subst e <;> refine ⟨by decide, by decide, fun k k1 k4 => ?_⟩ <;> (have := k4 rfl; subst this; decide)
  obtain ⟨a1, a2, a3⟩ := ar
  obtain ⟨a3, a4, a5⟩ := a3 t.k o.k o.k4
  have s1 : itr (bh F) (opp m i) (itr (bh F) (bk m i) (tw (itr (bh F) i t.s))) = tw (itr (bh F) i t.s) := by
    rw [← itr_add]
    rcases a1 with e | e <;> rw [e]
    · exact hb
    · rfl
  have s2 : itr (bh F) (bk m (opp m i)) (itr (bh F) i t.s) = t.s := by
    rw [← itr_add]
    rcases a2 with e | e <;> rw [e]
    · exact hb2
    · rfl
  unfold step
  rw [s1, tw_tw, s2, a3]
  obtain ⟨x, y, k, s⟩ := t
  have e1 : x + dxx m i k + dxx m (opp m i) (nk m k) = x := by have : dxx m i k + dxx m (opp m i) (nk m k) = 0 := a4; omega
  have e2 : y + dyy m i k + dyy m (opp m i) (nk m k) = y := by have : dyy m i k + dyy m (opp m i) (nk m k) = 0 := a5; omega
  show (⟨x + dxx m i k + dxx m (opp m i) (nk m k), y + dyy m i k + dyy m (opp m i) (nk m k), k, s⟩ : Std) = _
  rw [e1, e2]
theorem opp_lt (h : m = 3 ∨ m = 4) {i : Nat} (hi : i < m) : opp m i < m := by
  unfold opp; split <;> omega
def bkW (m : Nat) (w : List Nat) : List Nat := w.reverse.map (opp m)
/-- a word and the one turned about lead back -/
theorem run_back (h : Sol F m n) : ∀ (w : List Nat) {t : Std}, Ok m n t → (∀ i ∈ w, i < m) → runW m (bh F) t (w ++ bkW m w) = t
  | [], _, _, _ => rfl
  | i :: w, t, o, hw => by
    have e : (i :: w) ++ bkW m (i :: w) = [i] ++ ((w ++ bkW m w) ++ [opp m i]) := by unfold bkW; simp
    rw [e, runW_app, runW_app]
    have o1 := step_ok h o i
    have := run_back h w (t := step m (bh F) t i) o1 fun j hj => hw j (List.mem_cons_of_mem _ hj)
    show runW m (bh F) (runW m (bh F) (step m (bh F) t i) (w ++ bkW m w)) [opp m i] = t
    rw [this]
    exact step_opp h o (hw i List.mem_cons_self)
/-! ### a run moves as far from any place -/
def mv (t : Std) (dx dy : Int) : Std := ⟨t.x + dx, t.y + dy, t.k, t.s⟩
theorem step_mv (b : Nat → Nat) (t : Std) (dx dy : Int) (i : Nat) : step m b (mv t dx dy) i = mv (step m b t i) dx dy := by
  show (⟨t.x + dx + dxx m i t.k, t.y + dy + dyy m i t.k, _, _⟩ : Std) = ⟨t.x + dxx m i t.k + dx, t.y + dyy m i t.k + dy, _, _⟩
  congr 1 <;> omega
theorem run_mv (b : Nat → Nat) (dx dy : Int) : ∀ (w : List Nat) (t : Std), runW m b (mv t dx dy) w = mv (runW m b t w) dx dy
  | [], _ => rfl
  | i :: w, t => by rw [runW_cons, runW_cons, step_mv, run_mv b dx dy w]
/-! ### laps -/
def lapS (m : Nat) (b : Nat → Nat) (w : List Nat) (t : Std) (j : Nat) : Std := itr (fun u => runW m b u w) j t
theorem lapS_succ (b : Nat → Nat) (w : List Nat) (t : Std) (j : Nat) : lapS m b w t (j + 1) = runW m b (lapS m b w t j) w := itr_succ _ _ _
theorem lapS_ok (h : Sol F m n) (w : List Nat) {t : Std} (o : Ok m n t) : ∀ j, Ok m n (lapS m (bh F) w t j)
  | 0 => o
  | j + 1 => by rw [lapS_succ]; exact runW_ok h w (lapS_ok h w o j)
theorem lapS_mv (b : Nat → Nat) (w : List Nat) (t : Std) (dx dy : Int) : ∀ j, lapS m b w (mv t dx dy) j = mv (lapS m b w t j) dx dy
  | 0 => rfl
  | j + 1 => by rw [lapS_succ, lapS_succ, lapS_mv b w t dx dy j, run_mv]
theorem lapS_add (b : Nat → Nat) (w : List Nat) (t : Std) (i j : Nat) : lapS m b w t (i + j) = lapS m b w (lapS m b w t j) i := itr_add _ _ _ _
theorem runW_rep (b : Nat → Nat) (w : List Nat) (t : Std) : ∀ j, runW m b t (List.replicate j w).flatten = lapS m b w t j
  | 0 => rfl
  | j + 1 => by
    rw [lapS_succ, ← runW_rep b w t j, ← runW_app]
    congr 1
    rw [List.replicate_succ']; simp
theorem pigeon : ∀ (N : Nat) (f : Nat → Nat), (∀ i, i ≤ N → f i < N) → ∃ i j, i < j ∧ j ≤ N ∧ f i = f j
  | 0, f, h => absurd (h 0 (Nat.le_refl 0)) (Nat.not_lt_zero _)
  | N + 1, f, h => by
    by_cases e : ∃ i, i ≤ N ∧ f i = f (N + 1)
    · obtain ⟨i, h1, h2⟩ := e
      exact ⟨i, N + 1, by omega, Nat.le_refl _, h2⟩
    · have e' : ∀ i, i ≤ N → f i ≠ f (N + 1) := fun i hi z => e ⟨i, hi, z⟩
      obtain ⟨i, j, h1, h2, h3⟩ := pigeon N (fun i => if f i = N then f (N + 1) else f i) fun i hi => by
        have a1 := h i (by omega)
        have a2 := h (N + 1) (Nat.le_refl _)
        have a3 := e' i hi
        show (if f i = N then f (N + 1) else f i) < N
        split <;> omega
      refine ⟨i, j, h1, by omega, ?_⟩
      have b1 := e' i (by omega)
      have b2 := e' j h2
      have h3 : (if f i = N then f (N + 1) else f i) = if f j = N then f (N + 1) else f j := h3
      split at h3 <;> split at h3 <;> omega
abbrev sameKS (t u : Std) : Prop := t.k = u.k ∧ t.s = u.s
theorem sameKS_mv {t u : Std} (h : sameKS t u) : u = mv t (u.x - t.x) (u.y - t.y) := by
  obtain ⟨x, y, k, s⟩ := t
  obtain ⟨x', y', k', s'⟩ := u
  obtain ⟨h1, h2⟩ := h
  have h1 : k = k' := h1
  have h2 : s = s' := h2
  subst h1 h2
  show (⟨x', y', k, s⟩ : Std) = ⟨x + (x' - x), y + (y' - y), k, s⟩
  congr 1 <;> omega
theorem lap_period (h : Sol F m n) (w : List Nat) {t : Std} (o : Ok m n t) (hw : ∀ i ∈ w, i < m) : ∃ p, 0 < p ∧ p ≤ 2 * n ∧ sameKS t (lapS m (bh F) w t p) := by
  have code : ∀ j, (lapS m (bh F) w t j).k * n + (lapS m (bh F) w t j).s < 2 * n := fun j => by
    have ok := lapS_ok h w o j
    have h1 := ok.s
    have h2 := Nat.mul_le_mul_right n ok.k
    omega
  obtain ⟨i, j, h1, h2, h3⟩ := pigeon (2 * n) (fun j => (lapS m (bh F) w t j).k * n + (lapS m (bh F) w t j).s) fun j _ => code j
  have h3 : (lapS m (bh F) w t i).k * n + (lapS m (bh F) w t i).s = (lapS m (bh F) w t j).k * n + (lapS m (bh F) w t j).s := h3
  have hn := h.n0
  have oi := lapS_ok h w o i
  have oj := lapS_ok h w o j
  have ks : sameKS (lapS m (bh F) w t i) (lapS m (bh F) w t j) := by
    have a1 := oi.s
    have a2 := oj.s
    have hk : (lapS m (bh F) w t i).k = (lapS m (bh F) w t j).k := by
      have d1 := Nat.add_mul_div_right (lapS m (bh F) w t i).s (lapS m (bh F) w t i).k hn
      have d2 := Nat.add_mul_div_right (lapS m (bh F) w t j).s (lapS m (bh F) w t j).k hn
      rw [Nat.div_eq_of_lt a1, Nat.zero_add] at d1
      rw [Nat.div_eq_of_lt a2, Nat.zero_add] at d2
      rw [← d1, ← d2, Nat.add_comm, h3, Nat.add_comm]
    refine ⟨hk, ?_⟩
    rw [hk] at h3; omega
  refine ⟨j - i, by omega, by omega, ?_⟩
  -- back by i laps of the word turned about
  have back : ∀ (i : Nat) (u : Std), Ok m n u → itr (fun v => runW m (bh F) v (bkW m w)) i (lapS m (bh F) w u i) = u := by
    intro i
    induction i with
    | zero => intro u _; rfl
    | succ i ih =>
      intro u ou
      show itr (fun v => runW m (bh F) v (bkW m w)) i (runW m (bh F) (lapS m (bh F) w u (i + 1)) (bkW m w)) = u
      rw [lapS_succ, ← runW_app, run_back h w (lapS_ok h w ou i) hw]
      exact ih u ou
  have bmv : ∀ (i : Nat) (u : Std) (dx dy : Int), itr (fun v => runW m (bh F) v (bkW m w)) i (mv u dx dy) = mv (itr (fun v => runW m (bh F) v (bkW m w)) i u) dx dy := by
    intro i
    induction i with
    | zero => intro u dx dy; rfl
    | succ i ih =>
      intro u dx dy
      show itr _ i (runW m (bh F) (mv u dx dy) (bkW m w)) = _
      rw [run_mv, ih]; rfl
  have e1 := back i t o
  have e2 := back i (lapS m (bh F) w t (j - i)) (lapS_ok h w o _)
  rw [← lapS_add, show i + (j - i) = j by omega, sameKS_mv ks, bmv, e1] at e2
  rw [← e2]
  exact ⟨rfl, rfl⟩
/-- laps beyond the first return -/
theorem lap_far (b : Nat → Nat) (w : List Nat) (t : Std) {p : Nat} (hp : 0 < p) (ks : sameKS t (lapS m b w t p)) (c : Nat) :
    lapS m b w t c = mv (lapS m b w t (c % p)) (((c / p : Nat) : Int) * ((lapS m b w t p).x - t.x)) (((c / p : Nat) : Int) * ((lapS m b w t p).y - t.y)) := by
  have many : ∀ q, lapS m b w t (q * p) = mv t ((q : Int) * ((lapS m b w t p).x - t.x)) ((q : Int) * ((lapS m b w t p).y - t.y)) := by
    intro q
    induction q with
    | zero => rw [Nat.zero_mul]; show t = mv t _ _; unfold mv; simp
    | succ q ih =>
      rw [Nat.succ_mul, Nat.add_comm, lapS_add, ih, lapS_mv]
      generalize lapS m b w t p = u at ks ⊢
      obtain ⟨h1, h2⟩ := ks
      have e : ∀ z : Int, ((q + 1 : Nat) : Int) * z = z + (q : Int) * z := fun z => by rw [Int.natCast_add, Int.add_mul, Int.add_comm]; simp
      show (⟨u.x + (q : Int) * (u.x - t.x), u.y + (q : Int) * (u.y - t.y), u.k, u.s⟩ : Std) = ⟨t.x + ((q + 1 : Nat) : Int) * (u.x - t.x), t.y + ((q + 1 : Nat) : Int) * (u.y - t.y), t.k, t.s⟩
      rw [e, e, h1, h2]
      congr 1 <;> omega
  have e : c = c % p + c / p * p := by rw [Nat.mul_comm]; exact (Nat.mod_add_div c p).symm
  conv => lhs; rw [e]
  rw [lapS_add, many, lapS_mv]
end
end WK

set_option Elab.async false
set_option linter.all false
set_option maxRecDepth 100000
set_option maxHeartbeats 4000000
namespace WK
open PySem PySem.Spec PyProof.Rows L2 Evl PL
/-! ### letters, words as texts -/
def lc (m i : Nat) : Nat := if m = 4 then [69, 78, 87, 83].getD i 0 else [97, 98, 99].getD i 0
def lS (m i : Nat) : Str := ⟨#[lc m i]⟩
def wS (m : Nat) (w : List Nat) : Str := ⟨(w.map (lc m)).toArray⟩
def ltS (m : Nat) : Str := if m = 4 then "ENWS" else "abc"
theorem ltS_w (h : m = 3 ∨ m = 4) : ltS m = wS m (List.range m) := by
  rcases h with e | e <;> subst e <;> decide +kernel
theorem wS_len (m : Nat) (w : List Nat) : (wS m w).length = w.length := by show (wS m w).cps.size = _; unfold wS; simp
theorem wS_list (m : Nat) (w : List Nat) : (wS m w).cps.toList = w.map (lc m) := by unfold wS; simp
theorem wS_signs (m : Nat) (w : List Nat) : PL.signs (wS m w) = w.map fun i => D.str (lS m i) := by
  unfold PL.signs; rw [wS_list, List.map_map]; rfl
theorem wS_app (m : Nat) (v w : List Nat) : wS m v ++ wS m w = wS m (v ++ w) := by
  show (⟨(wS m v).cps ++ (wS m w).cps⟩ : Str) = _
  unfold wS; simp
theorem lS_w (m i : Nat) : lS m i = wS m [i] := rfl
theorem wS_get (m : Nat) (w : List Nat) {j : Nat} (h : j < w.length) : atI (wS m w).cps.toList (j : Int) = some (lc m (w.getD j 0)) := by
  refine atI_nat ?_
  rw [wS_list, List.getElem?_map, List.getElem?_eq_getElem h, List.getD_eq_getElem?_getD, List.getElem?_eq_getElem h]; rfl
theorem wS_to (m : Nat) (w : List Nat) (j : Nat) : cutS (wS m w) none (some (j : Int)) = wS m (w.take j) := by
  have := cut_to (wS m w).cps.toList j
  unfold PL.cutD at this
  unfold cutS
  have e : (wS m w).length = (wS m w).cps.toList.length := by rw [Array.length_toList]; rfl
  rw [e, this, wS_list, ← List.map_take]; rfl
theorem wS_from (m : Nat) (w : List Nat) (j : Nat) : cutS (wS m w) (some (j : Int)) none = wS m (w.drop j) := by
  have := cut_from (wS m w).cps.toList j
  unfold PL.cutD at this
  unfold cutS
  have e : (wS m w).length = (wS m w).cps.toList.length := by rw [Array.length_toList]; rfl
  rw [e, this, wS_list, ← List.map_drop]; rfl
theorem wS_rev (m : Nat) (w : List Nat) : (⟨(wS m w).cps.toList.reverse.toArray⟩ : Str) = wS m w.reverse := by rw [wS_list, ← List.map_reverse]; rfl
theorem wS_rep (m : Nat) (w : List Nat) (j : Nat) : repS (wS m w) (j : Int) = wS m (List.replicate j w).flatten := by
  unfold repS wS
  rw [Int.toNat_natCast, List.map_flatten, List.map_replicate]
theorem join_signs (m : Nat) : ∀ w : List Nat, Str.join Str.empty (w.map (lS m)) = wS m w
  | [] => rfl
  | [i] => rfl
  | i :: j :: w => by
    show lS m i ++ Str.empty ++ Str.join Str.empty ((j :: w).map (lS m)) = _
    rw [join_signs m (j :: w), lS_w, show (Str.empty : Str) = wS m [] from rfl, wS_app, wS_app]; rfl
def turnT : List (Str × Str) := [("E", "W"), ("W", "E"), ("N", "S"), ("S", "N")]
theorem turnT_nodup : ((turnT.map fun x => ((Sum.inr x.1 : L2.Key), D.str x.2)).map (·.1)).Nodup := by
  have : (turnT.map (·.1)).Nodup := by decide +kernel
  rw [List.map_map]
  have h := List.pairwise_map.mp this
  exact List.pairwise_map.mpr (h.imp fun h e => h (by injection e))
theorem valM_strs (z : Str) : ∀ l : List (Str × Str), valM (l.map fun x => ((Sum.inr x.1 : L2.Key), D.str x.2)) (Sum.inr z) = (l.lookup z).map D.str
  | [] => rfl
  | x :: r => by
    rw [List.map_cons, valM_cons, List.lookup_cons]
    by_cases e : x.1 = z
    · subst e; simp
    · rw [if_neg (fun h => e (by injection h)), beq_eq_false_iff_ne.mpr fun h => e h.symm]
      exact valM_strs z r
theorem join_eqE (ys : List Str) : Txt.join (Str.ofString "") ys = Str.join Str.empty ys := TL.join_eq _ _
def spTwin : PL.Spec := fun l M k => ∃ s : Nat, l = [nD s] ∧ k (nD (tw s)) M
theorem spTwin_len : ∀ l M k, spTwin l M k → l.length = 1 := fun l M k ⟨_, h, _⟩ => by rw [h]; rfl
def spText : PL.Spec := fun l M k => ∃ (p q : Addr) (m n : Nat), l = [.adr p, .str (ltS m), nD n] ∧ (m = 3 ∨ m = 4) ∧ n ≤ 200 ∧ DkOk p q M ∧ ∀ w M', w.length = n → (∀ i ∈ w, i < m) → DkOk p q M' → Fr p q M M' → k (.str (wS m w)) M'
theorem spText_len : ∀ l M k, spText l M k → l.length = 3 := fun l M k ⟨_, _, _, _, h, _⟩ => by rw [h]; rfl
def spBack : PL.Spec := fun l M k => ∃ (m : Nat) (w : List Nat), l = [.str (wS m w)] ∧ (m = 3 ∨ m = 4) ∧ (∀ i ∈ w, i < m) ∧ w.length ≤ 1000 ∧ k (.str (wS m (bkW m w))) M
theorem spBack_len : ∀ l M k, spBack l M k → l.length = 1 := fun l M k ⟨_, _, h, _⟩ => by rw [h]; rfl
/-! ### what is behind, told as a dict -/
def kvN (l : List (Nat × Nat)) : List (L2.Key × D) := l.map fun x => (kN x.1, nD x.2)
theorem kvN_fst (l : List (Nat × Nat)) : (kvN l).map (·.1) = (l.map (·.1)).map kN := by unfold kvN; rw [List.map_map, List.map_map]; rfl
theorem kN_inj {a b : Nat} (h : kN a = kN b) : a = b := by injection h with h; omega
theorem kvN_put {l : List (Nat × Nat)} {s t : Nat} (h : s ∉ l.map (·.1)) : putM (kvN l) (kN s) (nD t) = kvN (l ++ [(s, t)]) := by
  rw [putM_new (valM_none ?_)]
  · unfold kvN; rw [List.map_append]; rfl
  · rw [kvN_fst]
    intro z
    obtain ⟨a, ha, e⟩ := List.mem_map.mp z
    rw [kN_inj e] at ha
    exact h ha
theorem kvN_val : ∀ {l : List (Nat × Nat)} {s : Nat}, s ∈ l.map (·.1) → valM (kvN l) (kN s) = some (nD (nuf l s))
  | x :: r, s, h => by
    show valM ((kN x.1, nD x.2) :: kvN r) (kN s) = _
    rw [valM_cons, nuf_cons]
    by_cases e : x.1 = s
    · rw [if_pos (by rw [e]), if_pos e]
    · rw [if_neg (fun z => e (kN_inj z)), if_neg e]
      refine kvN_val ?_
      rcases List.mem_cons.mp h with z | z
      · exact absurd z.symm e
      · exact z
def kvD (l : List (Nat × Nat)) : D := .dk ((kvN l).map (·.1)) ((kvN l).map (·.2))
def spBeh : PL.Spec := fun l M k => ∃ F m n, l = [solidD F] ∧ Sol F m n ∧ ∀ M', Keep M M' → k (kvD (bp F)) M'
theorem spBeh_len : ∀ l M k, spBeh l M k → l.length = 1 := fun l M k ⟨_, _, _, h, _⟩ => by rw [h]; rfl
def nums (F : List (List Nat)) : List (Nat × Nat) := (F.mapIdx fun j f => f.map fun s => (s, j)).flatten
def spFaces : PL.Spec := fun l M k => ∃ F m n, l = [solidD F] ∧ Sol F m n ∧ ∀ M', Keep M M' → k (kvD (nums F)) M'
theorem spFaces_len : ∀ l M k, spFaces l M k → l.length = 1 := fun l M k ⟨_, _, _, h, _⟩ => by rw [h]; rfl
def spSides : PL.Spec := fun l M k => ∃ F m n, l = [solidD F] ∧ Sol F m n ∧ ∀ M', Keep M M' → k (.tup ((List.range n).map nD)) M'
theorem spSides_len : ∀ l M k, spSides l M k → l.length = 1 := fun l M k ⟨_, _, _, h, _⟩ => by rw [h]; rfl
abbrev s_law_twin : Stmt := top 28
abbrev N_law_twin : List Str := ["side"]
theorem sc_law_twin : FnScope N_law_twin ["side"] (defScope s_law_twin) := ⟨rfl, rfl, rfl, by decide +kernel, rfl, by decide +kernel, by decide +kernel⟩
abbrev s_law_text : Stmt := top 34
abbrev N_law_text : List Str := ["deck", "letters", "many", "habit", "some", "word", "k", "letter"]
theorem sc_law_text : FnScope N_law_text ["deck", "letters", "many"] (defScope s_law_text) := ⟨rfl, rfl, rfl, by decide +kernel, rfl, by decide +kernel, by decide +kernel⟩
abbrev s_law_back : Stmt := top 35
abbrev N_law_back : List Str := ["word", "turned", "letter"]
theorem sc_law_back : FnScope N_law_back ["word"] (defScope s_law_back) := ⟨rfl, rfl, rfl, by decide +kernel, rfl, by decide +kernel, by decide +kernel⟩
section
variable {P : Program} {w : World} {K : PySem.W.Frag} {mg : Str → Option Value} {base : Heap}
theorem ok_law_twin {f C mv : Addr} {fd : FuncData} {tk1 tk2 : Tok} (F : Fun K "_law_twin" "_law_twin" s_law_twin f fd) (T : Bi mg)  : FnOk P w K mg base CX0 1 f fd ["side"] (SpD K w spTwin) := by
  refine F.ok sc_law_twin (fun vs H Q E h => SpD.len (n := 1) (spTwin_len) h) (fun cdv A outer s H vs Q E hr h => ?_)
  have hu := hu_of hr
  have hu16 := hu16_of hr
  refine ⟨_, (pss_one (ps_ret (pe_op op_sub (pe_op op_add (pv 0) pe_int) (pe_op op_mul pe_int (pe_op op_mod (pe_callTy call_int1 (by rfl) T.int (by decide +kernel) (pa_cons (pv 0) pa_nil)) pe_int))))), go h ?_⟩
  clear hu hu16 hr h
  rintro l M k ⟨s, rfl, hk⟩
  refine sw_ret <| ev_op <| ev_op <| ev_var rfl <| ev_int <| rd_int <| ev_op <| ev_int <| ev_op <| ev_cb <| av_cons <| ev_var rfl <| av_nil <| ra_int <| ev_int <| rd_mod (by decide) <| rd_mul (.inl (by decide)) <| rd_int ?_
  rw [tw_sub]; exact hk
theorem ok_law_text {f C mv : Addr} {fd : FuncData} {tk1 tk2 : Tok} (F : Fun K "_law_text" "_law_text" s_law_text f fd) (T : Bi mg) (c_law_deal : Cal P w K mg base "_law_deal" 1 ["deck", "many"] spDeal) (c_law_shuffled : Cal P w K mg base "_law_shuffled" 2 ["deck", "things"] spShuf) : FnOk P w K mg base CX0 3 f fd ["deck", "letters", "many"] (SpD K w spText) := by
  refine F.ok sc_law_text (fun vs H Q E h => SpD.len (n := 3) (spText_len) h) (fun cdv A outer s H vs Q E hr h => ?_)
  have hu := hu_of hr
  have hu16 := hu16_of hr
  refine ⟨_, (pss_cons (ps_set (i := 3) sc_law_text.nd rfl (Or.inl rfl) (pe_cal c_law_deal (hr.mono (by decide)) (by rfl) (pa_cons (pv 0) (pa_cons pe_int pa_nil))))
(pss_cons (ps_set (i := 4) sc_law_text.nd rfl (Or.inl rfl) (pv 1))
(pss_cons (ps_if (pt_cmpR op_eq (pv 3) pe_int (nomark _))
(pss_one (ps_set (i := 4) sc_law_text.nd rfl (Or.inl rfl) (pe_slice sl_list (pe_cal c_law_shuffled (hr.mono (by decide)) (by rfl) (pa_cons (pv 0) (pa_cons (pe_callTy (cb_listS rfl) (by rfl) T.list (by decide +kernel) (pa_cons (pv 1) pa_nil)) pa_nil))) po_none (po_some pe_int))))
pss_nil)
(pss_cons (ps_set (i := 5) sc_law_text.nd rfl (Or.inl rfl) pe_str)
(pss_cons (ps_for PassesOwn.never rfl (pi_range1 (by rfl) T.range (pa_cons (pv 2) pa_nil)) (pg_name (i := 6) sc_law_text.nd rfl (Or.inl rfl))
(pss_cons (ps_set (i := 7) sc_law_text.nd rfl (Or.inl rfl) (pe_ifExp (pt_cmpR op_eq (pv 3) pe_int (nomark _)) (pe_ix ix_seq (pv 1) (pe_op op_mod (pe_callTy call_int1 (by rfl) T.int (by decide +kernel) (pa_cons (pv 6) pa_nil)) (pe_callB cb_len (by rfl) T.len (by decide +kernel) (pa_cons (pv 1) pa_nil))) (fun _ _ => rfl)) (pe_ix ix_seq (pv 4) (pe_cal c_law_deal (hr.mono (by decide)) (by rfl) (pa_cons (pv 0) (pa_cons (pe_callB cb_len (by rfl) T.len (by decide +kernel) (pa_cons (pv 4) pa_nil)) pa_nil))) (fun _ _ => rfl))))
(pss_one (ps_set (i := 5) sc_law_text.nd rfl (Or.inl rfl) (pe_op op_add_str (pv 5) (pv 7))))))
(pss_one (ps_ret (pv 5)))))))), go h ?_⟩
  clear hu hu16 hr h
  rintro l M k ⟨p, q, m, n, rfl, hm, hn, dk, hk⟩
  have hlen : (ltS m).length = m := by rw [ltS_w hm, wS_len, List.length_range]
  refine sw_seq <| sw_asg <| ev_call <| av_cons <| ev_var rfl <| av_cons <| ev_int <| av_nil ⟨p, q, _, rfl, by decide, by decide, dk, fun hb M1 b0 b1 dk1 fr1 => gv_name ?_⟩
  refine sw_seq <| sw_asg <| ev_var rfl <| gv_name ?_
  refine sw_seq ?_
  refine SW.mono (k := { nx := fun ds' M' => ∃ so o, ds' = [some (.adr p), some (.str (ltS m)), some (nD n), some (.int hb), some so, o, none, none] ∧ DkOk p q M' ∧ Fr p q M M' ∧ (so = .str (ltS m) ∨ ∃ ys : List Nat, so = .lst (ys.map fun i => D.str (lS m i)) ∧ ys.length = 2 ∧ ∀ i ∈ ys, i < m), rt := fun _ _ => False }) ?_ ?_ (fun _ _ z => z.elim) (fun _ _ z => z.elim) (fun _ _ z => z.elim)
  · refine sw_if <| tv_test <| ev_op <| ev_var rfl <| ev_int <| rd_eqI ⟨_, rfl, ifd (fun _ => ?_) (fun _ => sw_next ?_)⟩
    · refine sw_asg <| ev_sl <| ev_call <| av_cons <| ev_var rfl <| av_cons <| ev_cb <| av_cons <| ev_var rfl <| av_nil <| ra_listS (by rw [hlen]; exact sl (by omega)) <| av_nil ⟨p, q, _, _, rfl, .inl .f, ?_, dk1, fun ys M2 hys dk2 fr2 => ?_⟩
      · rw [ltS_w hm, wS_signs, List.length_map, List.length_range]; omega
      rw [ltS_w hm, wS_signs] at hys
      obtain ⟨zs, hz, rfl⟩ := perm_map_inv hys _ rfl
      refine ov_none <| ov_some <| ev_int ⟨2, rfl, rsl_list <| gv_name ?_⟩
      refine ⟨_, none, rfl, dk2, fr1.trans fr2, .inr ⟨zs.take 2, ?_, ?_, fun i hi => ?_⟩⟩
      · rw [List.map_take]; exact congrArg D.lst (cut_to _ 2)
      · rw [List.length_take, hz.length_eq, List.length_range]; omega
      · exact List.mem_range.mp (hz.mem_iff.mp (List.mem_of_mem_take hi))
    · exact ⟨_, none, rfl, dk1, fr1, .inl rfl⟩
  · rintro ds M2 ⟨so, o, rfl, dk2, fr2, hso⟩
    refine sw_seq <| sw_asg <| ev_str <| gv_name ?_
    refine sw_seq <| sw_for <| iv_range1 <| av_cons <| ev_var rfl <| av_nil ⟨_, rfl, by omega, by omega, FP.start (fun i ds M' => ∃ (v : List Nat) (o1 o2 : Option D), ds = [some (.adr p), some (.str (ltS m)), some (nD n), some (.int hb), some so, some (.str (wS m v)), o1, o2] ∧ v.length = i ∧ (∀ i ∈ v, i < m) ∧ DkOk p q M' ∧ Fr p q M M') ⟨[], none, none, rfl, rfl, fun i hi => (by cases hi), dk2, fr2⟩ ?_ ?_⟩
    · rintro j d ds M3 hj ⟨v, o1, o2, rfl, hv, hvm, dk3, fr3⟩
      obtain ⟨hjn, rfl⟩ := rgD_in hj
      have hjn' : j < n := by omega
      refine gv_name <| sw_seq <| sw_asg <| EV.mono (k := fun d M4 => ∃ c, c < m ∧ d = .str (lS m c) ∧ DkOk p q M4 ∧ Fr p q M M4) ?_ ?_
      · refine ev_if <| tv_test <| ev_op <| ev_var rfl <| ev_int <| rd_eqI ⟨_, rfl, ifd (fun _ => ?_) (fun _ => ?_)⟩
        · refine ev_op <| ev_var rfl <| ev_op <| ev_cb <| av_cons <| ev_var rfl <| av_nil <| ra_int <| ev_cb <| av_cons <| ev_var rfl <| av_nil <| ra_lenS (by rw [hlen]; exact sl (by omega)) <| rd_mod (by rw [hlen]; omega) ?_
          have e : (0 + (j : Int)) % ((ltS m).length : Nat) = ((j % m : Nat) : Int) := by rw [hlen, Int.zero_add]; rfl
          rw [e]
          have hjm : j % m < m := Nat.mod_lt _ (by omega)
          refine rd_seqS (c := lc m (j % m)) (by rw [hlen]; exact sl (by omega)) ?_ ⟨j % m, hjm, rfl, dk3, fr3⟩
          rw [ltS_w hm, wS_get m _ (by rw [List.length_range]; exact hjm), List.getD_eq_getElem?_getD, List.getElem?_range hjm]; rfl
        · rcases hso with e | ⟨ys, e, hy2, hys⟩
          · subst e
            refine ev_op <| ev_var rfl <| ev_call <| av_cons <| ev_var rfl <| av_cons <| ev_cb <| av_cons <| ev_var rfl <| av_nil <| ra_lenS (by rw [hlen]; exact sl (by omega)) <| av_nil ⟨p, q, _, rfl, by rw [hlen]; omega, by rw [hlen]; omega, dk3, fun r M4 r0 r1 dk4 fr4 => ?_⟩
            rw [hlen] at r1
            obtain ⟨c, hc, hr⟩ : ∃ c : Nat, c < m ∧ r = (c : Int) := ⟨r.toNat, by omega, by omega⟩
            subst hr
            refine rd_seqS (c := lc m c) (by rw [hlen]; exact sl (by omega)) ?_ ⟨c, hc, rfl, dk4, fr3.trans fr4⟩
            rw [ltS_w hm, wS_get m _ (by rw [List.length_range]; exact hc), List.getD_eq_getElem?_getD, List.getElem?_range hc]; rfl
          · subst e
            refine ev_op <| ev_var rfl <| ev_call <| av_cons <| ev_var rfl <| av_cons <| ev_cb <| av_cons <| ev_var rfl <| av_nil <| ra_lenL <| av_nil ⟨p, q, _, rfl, by rw [List.length_map]; omega, by rw [List.length_map]; omega, dk3, fun r M4 r0 r1 dk4 fr4 => ?_⟩
            rw [List.length_map] at r1
            obtain ⟨c, hc, hr⟩ : ∃ c : Nat, c < ys.length ∧ r = (c : Int) := ⟨r.toNat, by omega, by omega⟩
            subst hr
            refine rd_seqL (atI_nat (by rw [List.getElem?_map, List.getElem?_eq_getElem hc]; rfl)) ⟨ys[c], hys _ (List.getElem_mem hc), rfl, dk4, fr3.trans fr4⟩
      · rintro d M4 ⟨c, hc, rfl, dk4, fr4⟩
        refine gv_name <| sw_asg <| ev_op <| ev_var rfl <| ev_var rfl <| rd_cats ?_ <| gv_name ?_
        · rw [wS_len]; exact sl (by show v.length + 1 ≤ _; omega)
        rw [lS_w, wS_app]
        refine ⟨v ++ [c], _, _, rfl, by rw [List.length_append, hv]; rfl, fun i hi => ?_, dk4, fr4⟩
        rcases List.mem_append.mp hi with z | z
        · exact hvm i z
        · rw [List.mem_singleton.mp z]; exact hc
    · rintro ds M3 ⟨v, o1, o2, rfl, hv, hvm, dk3, fr3⟩
      rw [rgD_len] at hv
      exact sw_ret <| ev_var rfl <| hk v M3 (by omega) hvm dk3 fr3
theorem ok_law_back {f C mv : Addr} {fd : FuncData} {tk1 tk2 : Tok} (F : Fun K "_law_back" "_law_back" s_law_back f fd) (T : Bi mg)  : FnOk P w K mg base CX0 1 f fd ["word"] (SpD K w spBack) := by
  refine F.ok sc_law_back (fun vs H Q E h => SpD.len (n := 1) (spBack_len) h) (fun cdv A outer s H vs Q E hr h => ?_)
  have hu := hu_of hr
  have hu16 := hu16_of hr
  refine ⟨_, (pss_cons (ps_set (i := 1) sc_law_back.nd rfl (Or.inr rfl) (pe_disp (pps_cons pe_str pe_str (pps_cons pe_str pe_str (pps_cons pe_str pe_str (pps_cons pe_str pe_str pps_nil)))) (by rfl) (by rfl) (fun z => by cases z) (by decide)))
(pss_one (ps_ret (pe_bm PySem.F.plainAttrs_str PySem.F.slot_str_join PySem.F.type_str_join mt_joinA pe_str (pa_cons (pe_lc (own := [("letter", 2)]) (g := gName 2) (by rfl) sc_law_back.nd (pi_str (pe_revS (pv 0))) (blkOk_by (own := [("letter", 2)]) (N := N_law_back) (sc := defScope s_law_back) (by decide +kernel)) (fun _ _ _ _ _ => (pg_name (i := 2) sc_law_back.nd rfl (Or.inl rfl))) (fun _ _ _ _ _ => pts_nil) (fun _ _ _ _ _ => (pe_dget2 hu (pv 1) (pv 2) (pv 2) ⟨rfl, rfl, rfl, rfl⟩))) pa_nil))))), go h ?_⟩
  clear hu hu16 hr h
  rintro l M k ⟨m, v, rfl, hm, hw, hl, hk⟩
  refine sw_seq <| sw_asg <| ev_disp <| ev_str <| ev_str <| ev_str <| ev_str <| ev_str <| ev_str <| ev_str <| ev_str ⟨turnT.map fun x => (Sum.inr x.1, D.str x.2), rfl, (show 4 ≤ 15 by decide), ?_, gv_name ?_⟩
  · exact turnT_nodup
  have hop : ∀ i, i < m → (valM (turnT.map fun x => ((Sum.inr x.1 : L2.Key), D.str x.2)) (Sum.inr (lS m i))).getD (.str (lS m i)) = .str (lS m (opp m i)) := fun i hi => by
    rw [valM_strs]
    have : (turnT.lookup (lS m i)).getD (lS m i) = lS m (opp m i) := by
      rcases hm with e | e <;> subst e
      · rcases (show i = 0 ∨ i = 1 ∨ i = 2 by omega) with e | e | e <;> subst e <;> decide +kernel
      · rcases (show i = 0 ∨ i = 1 ∨ i = 2 ∨ i = 3 by omega) with e | e | e | e <;> subst e <;> decide +kernel
    rw [← this]
    cases turnT.lookup (lS m i) <;> rfl
  refine sw_ret <| ev_bm <| ev_str ⟨tyd_str, av_cons <| ev_lc gw_name <| iv_str <| ev_revS <| ev_var rfl ⟨_, rfl, by rw [wS_len]; exact sl (by omega), _, rfl, ?_⟩⟩
  rw [wS_rev, wS_signs]
  refine LP.map (fun j _ => .str (lS m (opp m (v.reverse.getD j 0)))) (by rw [List.length_map, List.length_reverse]; exact sl (by omega)) (fun j d hj => ?_) ?_
  · rw [List.getElem?_map] at hj
    obtain ⟨i, hi, rfl⟩ := Option.map_eq_some_iff.mp hj
    have him : i < m := hw i (List.mem_reverse.mp (List.mem_of_getElem? hi))
    have e : v.reverse.getD j 0 = i := by rw [List.getD_eq_getElem?_getD, hi]; rfl
    rw [e]
    exact gv_name <| tv_yes ⟨rfl, ev_dget2 <| ev_var rfl ⟨⟨_, .f⟩, ev_var rfl <| ev_var rfl ⟨_, .inr (lS m i), .f, rfl, hop i him, rfl⟩⟩⟩
  · have e1 : (v.reverse.map fun i => D.str (lS m i)).mapIdx (fun j _ => D.str (lS m (opp m (v.reverse.getD j 0)))) = ((bkW m v).map (lS m)).map D.str := by
      unfold bkW
      apply List.ext_getElem?
      intro j
      rw [List.getElem?_mapIdx, List.getElem?_map, List.getElem?_map, List.getElem?_map, List.getElem?_map]
      cases hj : v.reverse[j]? with
      | none => rfl
      | some i => rw [List.getD_eq_getElem?_getD, hj]; rfl
    rw [e1]
    refine av_nil <| rm_join .f ?_ ?_
    · have hll : ∀ l : List Nat, ((l.map (lS m)).map (·.length)).sum = l.length := fun l => by
        induction l with
        | nil => rfl
        | cons a l ih => rw [List.map_cons, List.map_cons, List.sum_cons, ih, List.length_cons]; show 1 + _ = _; omega
      rw [hll]
      show _ + _ * 0 ≤ _
      unfold bkW; rw [List.length_map, List.length_reverse]; omega
    · rw [join_eqE, join_signs]; exact hk
end
end WK

set_option Elab.async false
set_option linter.all false
set_option maxRecDepth 100000
set_option maxHeartbeats 4000000
namespace WK
open PySem PySem.Spec PyProof.Rows L2 Evl PL
theorem new_key {L : List (List (Nat × Nat))} (nd : (L.flatten.map (·.1)).Nodup) {i j s t : Nat} {g : List (Nat × Nat)} (hg : L[i]? = some g) (hj : g[j]? = some (s, t)) : s ∉ ((L.take i).flatten ++ g.take j).map (·.1) ∧ ((L.take i).flatten ++ g.take j).length ≤ L.flatten.length := by
  have hi := (List.getElem?_eq_some_iff.mp hg).1
  have hjl := (List.getElem?_eq_some_iff.mp hj).1
  have e1 : L = L.take i ++ g :: L.drop (i + 1) := by
    conv => lhs; rw [← List.take_append_drop i L]
    rw [List.drop_eq_getElem_cons hi, (List.getElem?_eq_some_iff.mp hg).2]
  have e2 : g = g.take j ++ (s, t) :: g.drop (j + 1) := by
    conv => lhs; rw [← List.take_append_drop j g]
    rw [List.drop_eq_getElem_cons hjl, (List.getElem?_eq_some_iff.mp hj).2]
  have e3 : L.flatten = ((L.take i).flatten ++ g.take j) ++ (s, t) :: (g.drop (j + 1) ++ (L.drop (i + 1)).flatten) := by
    conv => lhs; rw [e1, List.flatten_append, List.flatten_cons, e2]
    simp
  refine ⟨?_, by rw [e3]; simp only [List.length_append, List.length_cons]; omega⟩
  rw [e3, List.map_append] at nd
  exact fun z => (List.nodup_append.mp nd).2.2 s z s (by simp) rfl
theorem step_key {g : List (Nat × Nat)} {j s t : Nat} (hj : g[j]? = some (s, t)) (A : List (Nat × Nat)) : (A ++ g.take j) ++ [(s, t)] = A ++ g.take (j + 1) := by
  rw [List.take_succ, hj, List.append_assoc]; rfl
theorem step_out {L : List (List (Nat × Nat))} {i : Nat} {g : List (Nat × Nat)} (hg : L[i]? = some g) : (L.take i).flatten ++ g = (L.take (i + 1)).flatten := by
  rw [List.take_succ, hg, List.flatten_append]; simp
theorem fp_get {f : List Nat} {j : Nat} (h : j < f.length) : (fp f)[j]? = some (f.getD j 0, f.getD ((j + 1) % f.length) 0) := by
  unfold fp; rw [List.getElem?_map, List.getElem?_range h]; rfl
theorem fp_len (f : List Nat) : (fp f).length = f.length := by unfold fp; simp
theorem bp_fl (F : List (List Nat)) : bp F = (F.map fp).flatten := by unfold bp; rw [List.flatMap_def]
theorem getD_get {f : List Nat} {j : Nat} (h : j < f.length) : f[j]? = some (f.getD j 0) := by rw [List.getD_eq_getElem?_getD, List.getElem?_eq_getElem h]; rfl
theorem atI_neg {α : Type} {l : List α} {j : Nat} {d : α} (h : l[j]? = some d) {i : Int} (hi : i = (j : Int) - l.length) : atI l i = some d := by
  have hj := (List.getElem?_eq_some_iff.mp h).1
  unfold atI ixN
  rw [if_neg (by omega), if_pos (by omega)]
  show l[(i + (l.length : Nat)).toNat]? = _
  rw [show (i + (l.length : Nat)).toNat = j by omega]; exact h
theorem nums_fst (F : List (List Nat)) : (nums F).map (·.1) = F.flatten := by
  unfold nums
  rw [List.map_flatten]
  congr 1
  apply List.ext_getElem?
  intro i
  rw [List.getElem?_map, List.getElem?_mapIdx]
  cases F[i]? with
  | none => rfl
  | some f =>
    show some ((f.map fun s => (s, i)).map (·.1)) = some f
    rw [List.map_map]
    exact congrArg some (List.map_id f)
theorem sorted_eq : ∀ {a b : List Int}, a.Perm b → a.Pairwise (· ≤ ·) → b.Pairwise (· ≤ ·) → a = b
  | [], b, p, _, _ => p.nil_eq.symm ▸ rfl
  | x :: a, [], p, _, _ => by have := p.length_eq; simp at this
  | x :: a, y :: b, p, ha, hb => by
    rw [List.pairwise_cons] at ha hb
    have e : x = y := by
      have h1 : y ∈ x :: a := p.mem_iff.mpr List.mem_cons_self
      have h2 : x ∈ y :: b := p.mem_iff.mp List.mem_cons_self
      rcases List.mem_cons.mp h1 with z | z
      · exact z.symm
      · rcases List.mem_cons.mp h2 with z2 | z2
        · exact z2
        · have := ha.1 y z
          have := hb.1 x z2
          omega
    subst e
    rw [sorted_eq (List.Perm.cons_inv p) ha.2 hb.2]
theorem range_sorted (n : Nat) : ((List.range n).map fun s : Nat => (s : Int)).Pairwise (· ≤ ·) := by
  refine List.pairwise_map.mpr ?_
  exact List.pairwise_lt_range.imp fun h => by omega
abbrev s_behind_table : Stmt := top 1
abbrev N_behind_table : List Str := ["sheet", "told", "face", "at", "side"]
theorem sc_behind_table : FnScope N_behind_table ["sheet"] (defScope s_behind_table) := ⟨rfl, rfl, rfl, by decide +kernel, rfl, by decide +kernel, by decide +kernel⟩
abbrev s_face_table : Stmt := top 2
abbrev N_face_table : List Str := ["sheet", "told", "number", "face", "side"]
theorem sc_face_table : FnScope N_face_table ["sheet"] (defScope s_face_table) := ⟨rfl, rfl, rfl, by decide +kernel, rfl, by decide +kernel, by decide +kernel⟩
abbrev s_sides_of : Stmt := top 13
abbrev N_sides_of : List Str := ["sheet"]
theorem sc_sides_of : FnScope N_sides_of ["sheet"] (defScope s_sides_of) := ⟨rfl, rfl, rfl, by decide +kernel, rfl, by decide +kernel, by decide +kernel⟩
abbrev s_law_behinds : Stmt := top 26
abbrev N_law_behinds : List Str := ["sheet", "behind", "face", "k"]
theorem sc_law_behinds : FnScope N_law_behinds ["sheet"] (defScope s_law_behinds) := ⟨rfl, rfl, rfl, by decide +kernel, rfl, by decide +kernel, by decide +kernel⟩
section
variable {P : Program} {w : World} {K : PySem.W.Frag} {mg : Str → Option Value} {base : Heap}
theorem ok_behind_table {f C mv : Addr} {fd : FuncData} {tk1 tk2 : Tok} (F : Fun K "behind_table" "behind_table" s_behind_table f fd) (T : Bi mg)  : FnOk P w K mg base CX0 1 f fd ["sheet"] (SpD K w spBeh) := by
  refine F.ok sc_behind_table (fun vs H Q E h => SpD.len (n := 1) (spBeh_len) h) (fun cdv A outer s H vs Q E hr h => ?_)
  have hu := hu_of hr
  have hu16 := hu16_of hr
  refine ⟨_, (pss_cons (ps_set (i := 1) sc_behind_table.nd rfl (Or.inl rfl) pe_dnewK)
(pss_cons (ps_for PassesOwn.never rfl (pi_tup (pv 0)) (pg_name (i := 2) sc_behind_table.nd rfl (Or.inl rfl))
(pss_one (ps_for PassesOwn.never rfl (pi_enumA (by rfl) T.enumerate (pa_cons (pv 2) pa_nil)) (pg_tup (by rfl) (pgs_cons (pg_name (i := 3) sc_behind_table.nd rfl (Or.inl rfl)) (pgs_cons (pg_name (i := 4) sc_behind_table.nd rfl (Or.inl rfl)) pgs_nil)))
(pss_one (ps_asg (pe_ix ix_tup (pv 2) (pe_op op_mod (pe_op op_add (pv 3) pe_int) (pe_callB cb_len (by rfl) T.len (by decide +kernel) (pa_cons (pv 2) pa_nil))) (fun _ _ => rfl)) (pg_sub (pv 1) (pv 4) (set_dict hu)))))))
(pss_one (ps_ret (pv 1))))), go h ?_⟩
  clear hu hu16 hr h
  rintro l M k ⟨F, m, n, rfl, so, hk⟩
  have nd : (((F.map fp).flatten).map (·.1)).Nodup := by rw [← bp_fl, bp_fst]; exact so.nodup
  have m0 := so.m0
  have hflat : ((F.map fp).flatten).length = n := by
    have := congrArg List.length (bp_fst F)
    rw [List.length_map, so.perm.length_eq, List.length_range] at this
    rw [← bp_fl]; exact this
  have n64 := so.n64
  refine sw_seq <| sw_asg <| ev_dnewK fun c hc => gv_name ?_
  refine sw_seq <| sw_for <| iv_tup <| ev_var rfl ⟨_, rfl, FP.start (fun i ds M' => ∃ o2 o3 o4 : Option D, ds = [some (solidD F), some (.adr c), o2, o3, o4] ∧ M' c = some (.dk (kvN (((F.map fp).take i).flatten))) ∧ Keep M M') ⟨none, none, none, rfl, MH.set_same, (Keep.refl M).set hc⟩ ?_ ?_⟩
  · rintro i d ds M1 hi ⟨o2, o3, o4, rfl, h1, kp⟩
    rw [List.getElem?_map] at hi
    obtain ⟨f, hf, rfl⟩ := Option.map_eq_some_iff.mp hi
    have hfl := so.sz f (List.mem_of_getElem? hf)
    have hL : (F.map fp)[i]? = some (fp f) := by rw [List.getElem?_map, hf]; rfl
    refine gv_name <| sw_for <| iv_enum <| av_cons <| ev_var rfl <| av_nil ⟨_, .inr rfl, FP.start (fun j ds M' => ∃ o3 o4 : Option D, ds = [some (solidD F), some (.adr c), some (.tup (f.map nD)), o3, o4] ∧ M' c = some (.dk (kvN (((F.map fp).take i).flatten ++ (fp f).take j))) ∧ Keep M M') ⟨o3, o4, rfl, by rw [List.take_zero, List.append_nil]; exact h1, kp⟩ ?_ ?_⟩
    · rintro j d ds M2 hj ⟨o3, o4, rfl, h2, kp2⟩
      unfold enumD at hj
      rw [List.getElem?_mapIdx, List.getElem?_map] at hj
      obtain ⟨d', hd', rfl⟩ := Option.map_eq_some_iff.mp hj
      obtain ⟨s, hs, rfl⟩ := Option.map_eq_some_iff.mp hd'
      have hjl := (List.getElem?_eq_some_iff.mp hs).1
      have hs2 : s = f.getD j 0 := by rw [List.getD_eq_getElem?_getD, hs]; rfl
      have hg := fp_get hjl
      rw [← hs2] at hg
      obtain ⟨hnk, hln⟩ := new_key nd hL hg
      have hm : (j + 1) % f.length < f.length := Nat.mod_lt _ (by omega)
      refine gv_tup rfl <| gvs_cons <| gv_name <| gvs_cons <| gv_name <| gvs_nil ?_
      refine sw_asg <| ev_op <| ev_var rfl <| ev_op <| ev_op <| ev_var rfl <| ev_int <| rd_int <| ev_cb <| av_cons <| ev_var rfl <| av_nil <| ra_lenT <| rd_mod (by rw [List.length_map]; omega) <| rd_ixT (d := nD (f.getD ((j + 1) % f.length) 0)) ?_ <| gv_sub <| ev_var rfl <| ev_var rfl <| rs_dk (kk := kN s) rfl h2 ?_ ?_
      · have e : ((j : Nat) : Int) + 1 = ((j + 1 : Nat) : Int) := rfl
        rw [List.length_map, e, show ((j + 1 : Nat) : Int) % (f.length : Int) = (((j + 1) % f.length : Nat) : Int) from rfl]
        exact atI_nat (by rw [List.getElem?_map, getD_get hm]; rfl)
      · show (kvN _).length < _
        unfold kvN; rw [List.length_map]; exact sl' (by omega)
      · rw [kvN_put hnk, step_key hg]
        exact ⟨_, _, rfl, MH.set_same, kp2.set hc⟩
    · rintro ds M2 ⟨o3, o4, rfl, h2, kp2⟩
      have e : (enumD (f.map nD)).length = (fp f).length := by unfold enumD; rw [List.length_mapIdx, List.length_map, fp_len]
      rw [e, List.take_length, step_out hL] at h2
      exact ⟨_, _, _, rfl, h2, kp2⟩
  · rintro ds M1 ⟨o2, o3, o4, rfl, h1, kp⟩
    have e : (F.map fun f => D.tup (f.map nD)).length = (F.map fp).length := by rw [List.length_map, List.length_map]
    rw [e, List.take_length, ← bp_fl] at h1
    refine sw_ret <| ev_frzD <| ev_var rfl ⟨c, _, rfl, h1, ?_⟩
    exact hk _ (kp.del hc)
theorem ok_law_behinds {f C mv : Addr} {fd : FuncData} {tk1 tk2 : Tok} (F : Fun K "_law_behinds" "_law_behinds" s_law_behinds f fd) (T : Bi mg)  : FnOk P w K mg base CX0 1 f fd ["sheet"] (SpD K w spBeh) := by
  refine F.ok sc_law_behinds (fun vs H Q E h => SpD.len (n := 1) (spBeh_len) h) (fun cdv A outer s H vs Q E hr h => ?_)
  have hu := hu_of hr
  have hu16 := hu16_of hr
  refine ⟨_, (pss_cons (ps_set (i := 1) sc_law_behinds.nd rfl (Or.inl rfl) pe_dnewK)
(pss_cons (ps_for PassesOwn.never rfl (pi_tup (pv 0)) (pg_name (i := 2) sc_law_behinds.nd rfl (Or.inl rfl))
(pss_one (ps_for PassesOwn.never rfl (pi_range1 (by rfl) T.range (pa_cons (pe_callB cb_len (by rfl) T.len (by decide +kernel) (pa_cons (pv 2) pa_nil)) pa_nil)) (pg_name (i := 3) sc_law_behinds.nd rfl (Or.inl rfl))
(pss_one (ps_asg (pe_ix ix_tup (pv 2) (pe_op op_sub (pe_op op_add (pv 3) pe_int) (pe_callB cb_len (by rfl) T.len (by decide +kernel) (pa_cons (pv 2) pa_nil))) (fun _ _ => rfl)) (pg_sub (pv 1) (pe_ix ix_tup (pv 2) (pv 3) (fun _ _ => rfl)) (set_dict hu)))))))
(pss_one (ps_ret (pv 1))))), go h ?_⟩
  clear hu hu16 hr h
  rintro l M k ⟨F, m, n, rfl, so, hk⟩
  have nd : (((F.map fp).flatten).map (·.1)).Nodup := by rw [← bp_fl, bp_fst]; exact so.nodup
  have m0 := so.m0
  have hflat : ((F.map fp).flatten).length = n := by
    have := congrArg List.length (bp_fst F)
    rw [List.length_map, so.perm.length_eq, List.length_range] at this
    rw [← bp_fl]; exact this
  have n64 := so.n64
  have m34 := so.m34
  refine sw_seq <| sw_asg <| ev_dnewK fun c hc => gv_name ?_
  refine sw_seq <| sw_for <| iv_tup <| ev_var rfl ⟨_, rfl, FP.start (fun i ds M' => ∃ o2 o3 : Option D, ds = [some (solidD F), some (.adr c), o2, o3] ∧ M' c = some (.dk (kvN (((F.map fp).take i).flatten))) ∧ Keep M M') ⟨none, none, rfl, MH.set_same, (Keep.refl M).set hc⟩ ?_ ?_⟩
  · rintro i d ds M1 hi ⟨o2, o3, rfl, h1, kp⟩
    rw [List.getElem?_map] at hi
    obtain ⟨f, hf, rfl⟩ := Option.map_eq_some_iff.mp hi
    have hfl := so.sz f (List.mem_of_getElem? hf)
    have hL : (F.map fp)[i]? = some (fp f) := by rw [List.getElem?_map, hf]; rfl
    refine gv_name <| sw_for <| iv_range1 <| av_cons <| ev_cb <| av_cons <| ev_var rfl <| av_nil <| ra_lenT <| av_nil ⟨_, rfl, by omega, by rw [List.length_map]; omega, FP.start (fun j ds M' => ∃ o3 : Option D, ds = [some (solidD F), some (.adr c), some (.tup (f.map nD)), o3] ∧ M' c = some (.dk (kvN (((F.map fp).take i).flatten ++ (fp f).take j))) ∧ Keep M M') ⟨o3, rfl, by rw [List.take_zero, List.append_nil]; exact h1, kp⟩ ?_ ?_⟩
    · rintro j d ds M2 hj ⟨o3, rfl, h2, kp2⟩
      obtain ⟨hjl, rfl⟩ := rgD_in hj
      rw [List.length_map, Int.toNat_natCast] at hjl
      have hg := fp_get hjl
      obtain ⟨hnk, hln⟩ := new_key nd hL hg
      have hm : (j + 1) % f.length < f.length := Nat.mod_lt _ (by omega)
      rw [Int.zero_add]
      refine gv_name <| sw_asg <| ev_op <| ev_var rfl <| ev_op <| ev_op <| ev_var rfl <| ev_int <| rd_int <| ev_cb <| av_cons <| ev_var rfl <| av_nil <| ra_lenT <| rd_int <| rd_ixT (d := nD (f.getD ((j + 1) % f.length) 0)) ?_ <| gv_sub <| ev_var rfl <| ev_op <| ev_var rfl <| ev_var rfl <| rd_ixT (d := nD (f.getD j 0)) (atI_nat (by rw [List.getElem?_map, getD_get hjl]; rfl)) <| rs_dk (kk := kN (f.getD j 0)) rfl h2 ?_ ?_
      · by_cases e : j + 1 = f.length
        · rw [show (j + 1) % f.length = 0 by rw [e, Nat.mod_self]]
          rw [List.length_map, show ((j : Nat) : Int) + 1 - (f.length : Nat) = ((0 : Nat) : Int) by omega]
          exact atI_nat (by rw [List.getElem?_map, getD_get (by omega)]; rfl)
        · rw [Nat.mod_eq_of_lt (by omega)]
          exact atI_neg (j := j + 1) (by rw [List.getElem?_map, getD_get (by omega)]; rfl) (by rw [List.length_map]; omega)
      · show (kvN _).length < _
        unfold kvN; rw [List.length_map]; exact sl' (by omega)
      · rw [kvN_put hnk, step_key hg]
        exact ⟨_, rfl, MH.set_same, kp2.set hc⟩
    · rintro ds M2 ⟨o3, rfl, h2, kp2⟩
      have e : (rgD 0 (((f.map nD).length : Nat) : Int).toNat).length = (fp f).length := by rw [rgD_len, List.length_map, fp_len, Int.toNat_natCast]
      rw [e, List.take_length, step_out hL] at h2
      exact ⟨_, _, rfl, h2, kp2⟩
  · rintro ds M1 ⟨o2, o3, rfl, h1, kp⟩
    have e : (F.map fun f => D.tup (f.map nD)).length = (F.map fp).length := by rw [List.length_map, List.length_map]
    rw [e, List.take_length, ← bp_fl] at h1
    refine sw_ret <| ev_frzD <| ev_var rfl ⟨c, _, rfl, h1, ?_⟩
    exact hk _ (kp.del hc)
theorem ok_face_table {f C mv : Addr} {fd : FuncData} {tk1 tk2 : Tok} (F : Fun K "face_table" "face_table" s_face_table f fd) (T : Bi mg)  : FnOk P w K mg base CX0 1 f fd ["sheet"] (SpD K w spFaces) := by
  refine F.ok sc_face_table (fun vs H Q E h => SpD.len (n := 1) (spFaces_len) h) (fun cdv A outer s H vs Q E hr h => ?_)
  have hu := hu_of hr
  have hu16 := hu16_of hr
  refine ⟨_, (pss_cons (ps_set (i := 1) sc_face_table.nd rfl (Or.inl rfl) pe_dnewK)
(pss_cons (ps_for PassesOwn.never rfl (pi_enumA (by rfl) T.enumerate (pa_cons (pv 0) pa_nil)) (pg_tup (by rfl) (pgs_cons (pg_name (i := 2) sc_face_table.nd rfl (Or.inl rfl)) (pgs_cons (pg_name (i := 3) sc_face_table.nd rfl (Or.inl rfl)) pgs_nil)))
(pss_one (ps_for PassesOwn.never rfl (pi_tup (pv 3)) (pg_name (i := 4) sc_face_table.nd rfl (Or.inl rfl))
(pss_one (ps_asg (pv 2) (pg_sub (pv 1) (pv 4) (set_dict hu)))))))
(pss_one (ps_ret (pv 1))))), go h ?_⟩
  clear hu hu16 hr h
  rintro l M k ⟨F, m, n, rfl, so, hk⟩
  have nd : ((nums F).map (·.1)).Nodup := by rw [nums_fst]; exact so.nodup
  have hflat : (nums F).length = n := by
    have := congrArg List.length (nums_fst F)
    rw [List.length_map, so.perm.length_eq, List.length_range] at this; exact this
  have n64 := so.n64
  refine sw_seq <| sw_asg <| ev_dnewK fun c hc => gv_name ?_
  refine sw_seq <| sw_for <| iv_enum <| av_cons <| ev_var rfl <| av_nil ⟨_, .inr rfl, FP.start (fun i ds M' => ∃ o2 o3 o4 : Option D, ds = [some (solidD F), some (.adr c), o2, o3, o4] ∧ M' c = some (.dk (kvN (((F.mapIdx fun j f => f.map fun s => (s, j)).take i).flatten))) ∧ Keep M M') ⟨none, none, none, rfl, MH.set_same, (Keep.refl M).set hc⟩ ?_ ?_⟩
  · rintro i d ds M1 hi ⟨o2, o3, o4, rfl, h1, kp⟩
    unfold enumD at hi
    rw [List.getElem?_mapIdx, List.getElem?_map] at hi
    obtain ⟨d', hd', rfl⟩ := Option.map_eq_some_iff.mp hi
    obtain ⟨f, hf, rfl⟩ := Option.map_eq_some_iff.mp hd'
    have hL : (F.mapIdx fun j f => f.map fun s => (s, j))[i]? = some (f.map fun s => (s, i)) := by rw [List.getElem?_mapIdx, hf]; rfl
    refine gv_tup rfl <| gvs_cons <| gv_name <| gvs_cons <| gv_name <| gvs_nil ?_
    refine sw_for <| iv_tup <| ev_var rfl ⟨_, rfl, FP.start (fun j ds M' => ∃ o4 : Option D, ds = [some (solidD F), some (.adr c), some (nD i), some (.tup (f.map nD)), o4] ∧ M' c = some (.dk (kvN (((F.mapIdx fun j f => f.map fun s => (s, j)).take i).flatten ++ (f.map fun s => (s, i)).take j))) ∧ Keep M M') ⟨o4, rfl, by rw [List.take_zero, List.append_nil]; exact h1, kp⟩ ?_ ?_⟩
    · rintro j d ds M2 hj ⟨o4, rfl, h2, kp2⟩
      rw [List.getElem?_map] at hj
      obtain ⟨s, hs, rfl⟩ := Option.map_eq_some_iff.mp hj
      have hg : (f.map fun s => (s, i))[j]? = some (s, i) := by rw [List.getElem?_map, hs]; rfl
      obtain ⟨hnk, hln⟩ := new_key nd hL hg
      have hln : (((F.mapIdx fun j f => f.map fun s => (s, j)).take i).flatten ++ (f.map fun s => (s, i)).take j).length ≤ n := by rw [← hflat]; exact hln
      refine gv_name <| sw_asg <| ev_var rfl <| gv_sub <| ev_var rfl <| ev_var rfl <| rs_dk (kk := kN s) rfl h2 ?_ ?_
      · show (kvN _).length < _
        unfold kvN; rw [List.length_map]; exact sl' (by omega)
      · have e : putM (kvN (((F.mapIdx fun j f => f.map fun s => (s, j)).take i).flatten ++ (f.map fun s => (s, i)).take j)) (kN s) (D.int ((i : Nat) : Int)) = _ := kvN_put (t := i) hnk
        rw [e, step_key hg]
        exact ⟨_, rfl, MH.set_same, kp2.set hc⟩
    · rintro ds M2 ⟨o4, rfl, h2, kp2⟩
      have e : (f.map nD).length = (f.map fun s => (s, i)).length := by rw [List.length_map, List.length_map]
      rw [e, List.take_length, step_out hL] at h2
      exact ⟨_, _, _, rfl, h2, kp2⟩
  · rintro ds M1 ⟨o2, o3, o4, rfl, h1, kp⟩
    have e : (enumD (F.map fun f => D.tup (f.map nD))).length = (F.mapIdx fun j f => f.map fun s => (s, j)).length := by unfold enumD; rw [List.length_mapIdx, List.length_map, List.length_mapIdx]
    rw [e, List.take_length] at h1
    refine sw_ret <| ev_frzD <| ev_var rfl ⟨c, _, rfl, h1, ?_⟩
    exact hk _ (kp.del hc)
theorem ok_sides_of {f C mv : Addr} {fd : FuncData} {tk1 tk2 : Tok} (F : Fun K "sides_of" "sides_of" s_sides_of f fd) (T : Bi mg) (c_face_table : Cal P w K mg base "face_table" 1 ["sheet"] spFaces) : FnOk P w K mg base CX0 2 f fd ["sheet"] (SpD K w spSides) := by
  refine F.ok sc_sides_of (fun vs H Q E h => SpD.len (n := 1) (spSides_len) h) (fun cdv A outer s H vs Q E hr h => ?_)
  have hu := hu_of hr
  have hu16 := hu16_of hr
  refine ⟨_, (pss_one (ps_ret (pe_callTy cb_tuple (by rfl) T.tuple (by decide +kernel) (pa_cons (pe_callB (call_sortedDI rfl) (by rfl) T.sorted (by decide +kernel) (pa_cons (pe_cal c_face_table (hr.mono (by decide)) (by rfl) (pa_cons (pv 0) pa_nil)) pa_nil)) pa_nil)))), go h ?_⟩
  clear hu hu16 hr h
  rintro l M k ⟨F, m, n, rfl, so, hk⟩
  refine sw_ret <| ev_cb <| av_cons <| ev_cb <| av_cons <| ev_call <| av_cons <| ev_var rfl <| av_nil ⟨F, m, n, rfl, so, fun M' kp => av_nil <| ra_sortDI (kvs := kvN (nums F)) (ns := F.flatten.map fun s : Nat => (s : Int)) .f ?_ ?_ fun ns' hp hs => av_nil <| ra_tuple .f ?_⟩
  · rw [kvN_fst, nums_fst, List.map_map]; rfl
  · rw [List.length_map, so.perm.length_eq, List.length_range]; exact so.n64
  · have e : ns' = (List.range n).map fun s : Nat => (s : Int) := sorted_eq (hp.trans (so.perm.map _)) hs (range_sorted n)
    rw [e, ← map_nat]; exact hk M' kp
end
end WK

set_option Elab.async false
set_option linter.all false
set_option maxRecDepth 100000
set_option maxHeartbeats 4000000
namespace WK
open PySem PySem.Spec PyProof.Rows L2 Evl PL
def kindS (m : Nat) : Str := if m = 4 then "squares" else "triangles"
def spFWord : PL.Spec := fun l M k => ∃ F m n, l = [solidD F] ∧ Sol F m n ∧ k (.str (kindS m)) M
theorem spFWord_len : ∀ l M k, spFWord l M k → l.length = 1 := fun l M k ⟨_, _, _, h, _⟩ => by rw [h]; rfl
def sqMoves : Str → Option (List Int) := fun z => if z = "E" then some [1, 0] else if z = "N" then some [0, 1] else if z = "W" then some [-1, 0] else if z = "S" then some [0, -1] else none
def spMoved : PL.Spec := fun l M k => ∃ (x y : Int) (kk m i : Nat), l = [.tup [.int x, .int y, nD kk], .str (lS m i)] ∧ (m = 3 ∨ m = 4) ∧ i < m ∧ kk ≤ 1 ∧ (m = 4 → kk = 0) ∧ k (.tup [.int (x + dxx m i kk), .int (y + dyy m i kk), nD (nk m kk)]) M
theorem spMoved_len : ∀ l M k, spMoved l M k → l.length = 2 := fun l M k ⟨_, _, _, _, _, h, _⟩ => by rw [h]; rfl
def flN : List Str := ["behind", "letters"]
def floorD (C : Addr) (F : List (List Nat)) (m : Nat) : D := .ins C flN [kvD (bp F), .str (ltS m)]
theorem fl_b (a b : D) : (flN.zip [a, b]).lookup ("behind" : Str) = some a := by
  show List.lookup ("behind" : Str) [(("behind" : Str), a), (("letters" : Str), b)] = some a
  rw [List.lookup_cons, show ((("behind" : Str)) == ("behind" : Str)) = true by decide +kernel]
theorem fl_l (a b : D) : (flN.zip [a, b]).lookup ("letters" : Str) = some b := by
  show List.lookup ("letters" : Str) [(("behind" : Str), a), (("letters" : Str), b)] = some b
  rw [List.lookup_cons, show ((("letters" : Str)) == ("behind" : Str)) = false by decide +kernel, List.lookup_cons, show ((("letters" : Str)) == ("letters" : Str)) = true by decide +kernel]
def spInit (C : Addr) : PL.Spec := fun l M k => ∃ x F m n, l = [.adr x, solidD F] ∧ M x = some (.ins C [] []) ∧ Sol F m n ∧ ∀ M', M' x = some (.ins C flN [kvD (bp F), .str (ltS m)]) → (∀ b o, b ≠ x → M b = some o → M' b = some o) → k .non M'
theorem spInit_len {C : Addr} : ∀ l M k, spInit C l M k → l.length = 2 := fun l M k ⟨_, _, _, _, h, _⟩ => by rw [h]; rfl
def spTurned (C : Addr) : PL.Spec := fun l M k => ∃ F m n s t, l = [floorD C F m, nD s, nD t] ∧ Sol F m n ∧ s < n ∧ t < 1000 ∧ k (nD (itr (bh F) t s)) M
theorem spTurned_len {C : Addr} : ∀ l M k, spTurned C l M k → l.length = 3 := fun l M k ⟨_, _, _, _, _, h, _⟩ => by rw [h]; rfl
def spStep (C : Addr) : PL.Spec := fun l M k => ∃ F m n t i, l = [floorD C F m, stD t, .str (lS m i)] ∧ Sol F m n ∧ Ok m n t ∧ i < m ∧ k (stD (step m (bh F) t i)) M
theorem spStep_len {C : Addr} : ∀ l M k, spStep C l M k → l.length = 3 := fun l M k ⟨_, _, _, _, _, h, _⟩ => by rw [h]; rfl
def spWord (C : Addr) : PL.Spec := fun l M k => ∃ F m n t v, l = [floorD C F m, stD t, .str (wS m v)] ∧ Sol F m n ∧ Ok m n t ∧ (∀ i ∈ v, i < m) ∧ k (stD (runW m (bh F) t v)) M
theorem spWord_len {C : Addr} : ∀ l M k, spWord C l M k → l.length = 3 := fun l M k ⟨_, _, _, _, _, h, _⟩ => by rw [h]; rfl
def spLap (C : Addr) : PL.Spec := fun l M k => ∃ F m n t v, l = [floorD C F m, stD t, .str (wS m v)] ∧ Sol F m n ∧ Ok m n t ∧ (∀ i ∈ v, i < m) ∧ ∀ p M', 0 < p → p ≤ 2 * n → sameKS t (lapS m (bh F) v t p) → Keep M M' → k (.lst ((List.range (p + 1)).map fun j => stD (lapS m (bh F) v t j))) M'
theorem spLap_len {C : Addr} : ∀ l M k, spLap C l M k → l.length = 3 := fun l M k ⟨_, _, _, _, _, h, _⟩ => by rw [h]; rfl
def spRun (C : Addr) : PL.Spec := fun l M k => ∃ F m n t v c, l = [floorD C F m, stD t, .str (wS m v), nD c] ∧ Sol F m n ∧ Ok m n t ∧ (∀ i ∈ v, i < m) ∧ c < 2 ^ 64 ∧ ∀ M', Keep M M' → k (stD (lapS m (bh F) v t c)) M'
theorem spRun_len {C : Addr} : ∀ l M k, spRun C l M k → l.length = 4 := fun l M k ⟨_, _, _, _, _, _, h, _⟩ => by rw [h]; rfl
theorem sg (m i : Nat) (hm : m = 3 ∨ m = 4) (hi : i < m) : Builtin.Str.occurrences (ltS m) (lS m i) 0 (ltS m).length 1 = [i] := by
  rcases hm with e | e <;> subst e
  · rcases (show i = 0 ∨ i = 1 ∨ i = 2 by omega) with e | e | e <;> subst e <;> decide +kernel
  · rcases (show i = 0 ∨ i = 1 ∨ i = 2 ∨ i = 3 by omega) with e | e | e | e <;> subst e <;> decide +kernel
theorem bk_eq (m i : Nat) (hm : m = 3 ∨ m = 4) (hi : i < m) : bk m i = (m - (if m = 4 then (i + 2) % 4 else i)) % m := by
  rcases hm with e | e <;> subst e
  · rcases (show i = 0 ∨ i = 1 ∨ i = 2 by omega) with e | e | e <;> subst e <;> decide
  · rcases (show i = 0 ∨ i = 1 ∨ i = 2 ∨ i = 3 by omega) with e | e | e | e <;> subst e <;> decide
theorem ne_b {x : Str} (h : (x == ("behind" : Str)) = false) (h2 : (x == ("letters" : Str)) = false) : x ∉ flN := by
  intro z
  rcases List.mem_cons.mp z with e | e
  · rw [e] at h; exact absurd h (by decide +kernel)
  · have := List.mem_singleton.mp e
    rw [this] at h2; exact absurd h2 (by decide +kernel)
abbrev s_floor_word : Stmt := top 7
abbrev N_floor_word : List Str := ["solid", "sizes", "face"]
theorem sc_floor_word : FnScope N_floor_word ["solid"] (defScope s_floor_word) := ⟨rfl, rfl, rfl, by decide +kernel, rfl, by decide +kernel, by decide +kernel⟩
abbrev s_moved_place : Stmt := top 8
abbrev N_moved_place : List Str := ["place", "letter", "x", "y", "k", "way"]
theorem sc_moved_place : FnScope N_moved_place ["place", "letter"] (defScope s_moved_place) := ⟨rfl, rfl, rfl, by decide +kernel, rfl, by decide +kernel, by decide +kernel⟩
abbrev s_Floor_init : Stmt := inClass (top 9) 0
abbrev N_Floor_init : List Str := ["self", "solid"]
theorem sc_Floor_init : FnScope N_Floor_init ["self", "solid"] (defScope s_Floor_init) := ⟨rfl, rfl, rfl, by decide +kernel, rfl, by decide +kernel, by decide +kernel⟩
abbrev s_Floor_turned : Stmt := inClass (top 9) 1
abbrev N_Floor_turned : List Str := ["self", "side", "times", "here", "_"]
theorem sc_Floor_turned : FnScope N_Floor_turned ["self", "side", "times"] (defScope s_Floor_turned) := ⟨rfl, rfl, rfl, by decide +kernel, rfl, by decide +kernel, by decide +kernel⟩
abbrev s_Floor_step : Stmt := inClass (top 9) 2
abbrev N_Floor_step : List Str := ["self", "standing", "letter", "place", "side", "many", "at", "entered", "lying"]
theorem sc_Floor_step : FnScope N_Floor_step ["self", "standing", "letter"] (defScope s_Floor_step) := ⟨rfl, rfl, rfl, by decide +kernel, rfl, by decide +kernel, by decide +kernel⟩
abbrev s_Floor_word : Stmt := inClass (top 9) 3
abbrev N_Floor_word : List Str := ["self", "standing", "word", "here", "letter"]
theorem sc_Floor_word : FnScope N_Floor_word ["self", "standing", "word"] (defScope s_Floor_word) := ⟨rfl, rfl, rfl, by decide +kernel, rfl, by decide +kernel, by decide +kernel⟩
abbrev s_Floor_lap : Stmt := inClass (top 9) 4
abbrev N_Floor_lap : List Str := ["self", "standing", "word", "told", "here"]
theorem sc_Floor_lap : FnScope N_Floor_lap ["self", "standing", "word"] (defScope s_Floor_lap) := ⟨rfl, rfl, rfl, by decide +kernel, rfl, by decide +kernel, by decide +kernel⟩
abbrev s_Floor_run : Stmt := inClass (top 9) 5
abbrev N_Floor_run : List Str := ["self", "standing", "word", "times", "lap", "many", "rest", "whole", "x", "y"]
theorem sc_Floor_run : FnScope N_Floor_run ["self", "standing", "word", "times"] (defScope s_Floor_run) := ⟨rfl, rfl, rfl, by decide +kernel, rfl, by decide +kernel, by decide +kernel⟩
section
variable {P : Program} {w : World} {K : PySem.W.Frag} {mg : Str → Option Value} {base : Heap}
theorem ok_floor_word {f C mv : Addr} {fd : FuncData} {tk1 tk2 : Tok} (F : Fun K "floor_word" "floor_word" s_floor_word f fd) (T : Bi mg)  : FnOk P w K mg base CX0 1 f fd ["solid"] (SpD K w spFWord) := by
  refine F.ok sc_floor_word (fun vs H Q E h => SpD.len (n := 1) (spFWord_len) h) (fun cdv A outer s H vs Q E hr h => ?_)
  have hu := hu_of hr
  have hu16 := hu16_of hr
  refine ⟨_, (pss_cons (ps_setDc (i := 1) (own := [("face", 2)]) (g := gName 2) (by rfl) sc_floor_word.nd rfl rfl (sw_trueD rfl rfl rfl (by decide +kernel)) (pi_tup (pv 0)) (blkOk_by (own := [("face", 2)]) (N := N_floor_word) (sc := defScope s_floor_word) (by decide +kernel)) (fun _ _ _ _ _ => (pg_name (i := 2) sc_floor_word.nd rfl (Or.inl rfl))) (fun _ _ _ _ _ => pts_nil) (fun _ _ _ _ _ => (pe_callB (cb_lenK rfl) (by rfl) T.len (by decide +kernel) (pa_cons (pv 2) pa_nil))) (fun _ _ _ _ _ => pe_bl))
(pss_cons (ps_if (pt_cmpR (op_eqD1 hr.units0) (pv 1) (pe_disp (pps_cons pe_int pe_bl pps_nil) (by rfl) (by rfl) (fun z => by cases z) (by decide)) (nomark _))
(pss_one (ps_ret pe_str))
pss_nil)
(pss_one (ps_ret (pe_ifExp (pt_cmpR (op_eqD1 hr.units0) (pv 1) (pe_disp (pps_cons pe_int pe_bl pps_nil) (by rfl) (by rfl) (fun z => by cases z) (by decide)) (nomark _)) pe_str pe_non))))), go h ?_⟩
  clear hu hu16 hr h
  rintro l M k ⟨F, m, n, rfl, so, hk⟩
  have hF : F.map (fun f => D.tup (f.map nD)) ≠ [] := fun z => by
    have : F = [] := List.map_eq_nil_iff.mp z
    have h1 := so.perm.length_eq
    rw [this, List.length_range] at h1
    have := so.n0
    simp at h1; omega
  refine sw_seq <| sw_asg <| ev_dc gw_name <| iv_tup <| ev_var rfl ⟨_, rfl, LPd.const (kk := kN m) (v := .bl true) _ _ (.inl rfl) (fun d hd => ?_) (.inl hF) <| gv_name ?_⟩
  · obtain ⟨f, hf, rfl⟩ := List.mem_map.mp hd
    refine gv_name <| tv_yes ⟨rfl, ev_cb <| av_cons <| ev_var rfl <| av_nil <| ra_lenT ⟨?_, ev_bl ⟨rfl, rfl⟩⟩⟩
    rw [List.length_map, so.sz f hf]; rfl
  have nd1 : ∀ a : L2.Key, (([(a, D.bl true)] : List (L2.Key × D)).map (·.1)).Nodup := fun a => by simp
  refine sw_seq <| sw_if <| tv_test <| ev_op <| ev_var rfl <| ev_disp <| ev_int <| ev_bl ⟨[(.inl 4, .bl true)], rfl, (show 1 ≤ 15 by decide), nd1 _, rd_eqD1 (a := kN m) (b := .inl 4) .f .f ⟨_, rfl, ifd (fun h4 => ?_) (fun h4 => sw_next ?_)⟩⟩
  · have : m = 4 := by injection h4 with h4; omega
    subst this
    exact sw_ret <| ev_str hk
  · have h3 : m = 3 := by
      rcases so.m34 with e | e
      · exact e
      · subst e; exact absurd rfl h4
    subst h3
    exact sw_ret <| ev_if <| tv_test <| ev_op <| ev_var rfl <| ev_disp <| ev_int <| ev_bl ⟨[(.inl 3, .bl true)], rfl, (show 1 ≤ 15 by decide), nd1 _, rd_eqD1 (a := kN 3) (b := .inl 3) .f .f ⟨_, rfl, ifd (fun h4 => ev_str hk) (fun h4 => absurd rfl h4)⟩⟩
theorem ok_moved_place {f C mv : Addr} {fd : FuncData} {tk1 tk2 : Tok} (F : Fun K "moved_place" "moved_place" s_moved_place f fd) (T : Bi mg) (g_mv : mg "SQUARE_MOVES" = some (.ref mv)) (KD : ∃ es n, KDict K w mv es n) (KT : KTab K w mv sqMoves) : FnOk P w K mg base CX0 1 f fd ["place", "letter"] (SpD K w spMoved) := by
  refine F.ok sc_moved_place (fun vs H Q E h => SpD.len (n := 2) (spMoved_len) h) (fun cdv A outer s H vs Q E hr h => ?_)
  have hu := hu_of hr
  have hu16 := hu16_of hr
  refine ⟨_, (pss_cons (ps_asg (pv 0) (pg_tup (by rfl) (pgs_cons (pg_name (i := 2) sc_moved_place.nd rfl (Or.inl rfl)) (pgs_cons (pg_name (i := 3) sc_moved_place.nd rfl (Or.inl rfl)) (pgs_cons (pg_name (i := 4) sc_moved_place.nd rfl (Or.inl rfl)) pgs_nil)))))
(pss_cons (ps_if (pt_cmpR (op_inKD KD) (pv 1) (pe_glob rfl g_mv (v := .ref mv) rfl) (by rfl))
(pss_one (ps_ret (pe_tup (pa_cons (pe_op op_add (pv 2) (pe_ix ix_tup (pe_ix ix_kdict (pe_glob rfl g_mv (v := .ref mv) rfl) (pv 1) (fun _ _ => rfl)) pe_int (fun _ _ => rfl))) (pa_cons (pe_op op_add (pv 3) (pe_ix ix_tup (pe_ix ix_kdict (pe_glob rfl g_mv (v := .ref mv) rfl) (pv 1) (fun _ _ => rfl)) pe_int (fun _ _ => rfl))) (pa_cons (pv 4) pa_nil))))))
pss_nil)
(pss_cons (ps_set (i := 5) sc_moved_place.nd rfl (Or.inl rfl) (pe_op op_sub (pe_op op_mul pe_int (pv 4)) pe_int))
(pss_cons (ps_if (pt_cmpR op_eq (pv 1) pe_str (nomark _))
(pss_one (ps_ret (pe_tup (pa_cons (pe_op op_add (pv 2) (pv 5)) (pa_cons (pv 3) (pa_cons (pe_op op_sub pe_int (pv 4)) pa_nil))))))
pss_nil)
(pss_cons (ps_if (pt_cmpR op_eq (pv 1) pe_str (nomark _))
(pss_one (ps_ret (pe_tup (pa_cons (pv 2) (pa_cons (pe_op op_add (pv 3) (pv 5)) (pa_cons (pe_op op_sub pe_int (pv 4)) pa_nil))))))
pss_nil)
(pss_one (ps_ret (pe_tup (pa_cons (pv 2) (pa_cons (pv 3) (pa_cons (pe_op op_sub pe_int (pv 4)) pa_nil))))))))))), go h ?_⟩
  clear hu hu16 hr h
  rintro l M k ⟨x, y, kk, m, i, rfl, hm, hi, h1, h4, hk⟩
  refine sw_seq <| sw_asg <| ev_var rfl <| gv_tup rfl <| gvs_cons <| gv_name <| gvs_cons <| gv_name <| gvs_cons <| gv_name <| gvs_nil ?_
  refine sw_seq <| sw_if <| tv_test <| ev_op <| ev_var rfl <| ev_adr <| rd_inKD KT ⟨_, rfl, ?_⟩
  rcases hm with e | e <;> subst e
  · have hn : sqMoves (lS 3 i) = none := by
      rcases (show i = 0 ∨ i = 1 ∨ i = 2 by omega) with e | e | e <;> subst e <;> decide +kernel
    rw [hn]
    refine iff' rfl <| sw_next ?_
    refine sw_seq <| sw_asg <| ev_op <| ev_op <| ev_int <| ev_var rfl <| rd_mul (.inl (by decide)) <| ev_int <| rd_int <| gv_name ?_
    refine sw_seq <| sw_if <| tv_test <| ev_op <| ev_var rfl <| ev_str <| rd_eqS ⟨_, rfl, ?_⟩
    have hk1 : (1 : Int) - (kk : Nat) = ((nk 3 kk : Nat) : Int) := by unfold nk; rw [if_neg (by decide)]; omega
    rcases (show i = 0 ∨ i = 1 ∨ i = 2 by omega) with e | e | e <;> subst e
    · refine iff' (by decide +kernel) <| sw_next ?_
      refine sw_seq <| sw_if <| tv_test <| ev_op <| ev_var rfl <| ev_str <| rd_eqS ⟨_, rfl, iff' (by decide +kernel) <| sw_next ?_⟩
      refine sw_ret <| ev_tup <| av_cons <| ev_var rfl <| av_cons <| ev_var rfl <| av_cons <| ev_op <| ev_int <| ev_var rfl <| rd_int <| av_nil ⟨l3, ?_⟩
      rw [hk1]
      have e1 : x + dxx 3 0 kk = x := by show x + 0 = x; omega
      have e2 : y + dyy 3 0 kk = y := by show y + 0 = y; omega
      rw [e1, e2] at hk; exact hk
    · refine ift (by decide +kernel) ?_
      refine sw_ret <| ev_tup <| av_cons <| ev_op <| ev_var rfl <| ev_var rfl <| rd_int <| av_cons <| ev_var rfl <| av_cons <| ev_op <| ev_int <| ev_var rfl <| rd_int <| av_nil ⟨l3, ?_⟩
      rw [hk1]
      have e2 : y + dyy 3 1 kk = y := by show y + 0 = y; omega
      rw [e2] at hk; exact hk
    · refine iff' (by decide +kernel) <| sw_next ?_
      refine sw_seq <| sw_if <| tv_test <| ev_op <| ev_var rfl <| ev_str <| rd_eqS ⟨_, rfl, ift (by decide +kernel) ?_⟩
      refine sw_ret <| ev_tup <| av_cons <| ev_var rfl <| av_cons <| ev_op <| ev_var rfl <| ev_var rfl <| rd_int <| av_cons <| ev_op <| ev_int <| ev_var rfl <| rd_int <| av_nil ⟨l3, ?_⟩
      rw [hk1]
      have e1 : x + dxx 3 2 kk = x := by show x + 0 = x; omega
      rw [e1] at hk; exact hk
  · have k0 := h4 rfl
    subst k0
    have hn : sqMoves (lS 4 i) = some [dxx 4 i 0, dyy 4 i 0] := by
      rcases (show i = 0 ∨ i = 1 ∨ i = 2 ∨ i = 3 by omega) with e | e | e | e <;> subst e <;> decide +kernel
    rw [hn]
    refine ift rfl ?_
    refine sw_ret <| ev_tup <| av_cons <| ev_op <| ev_var rfl <| ev_kd2 KT <| ev_var rfl ⟨_, _, rfl, hn, ev_int ⟨_, _, rfl, at0, rd_int <| av_cons <| ev_op <| ev_var rfl <| ev_kd2 KT <| ev_var rfl ⟨_, _, rfl, hn, ev_int ⟨_, _, rfl, at1, rd_int <| av_cons <| ev_var rfl <| av_nil ⟨l3, hk⟩⟩⟩⟩⟩
theorem ok_Floor_init {f C mv : Addr} {fd : FuncData} {tk1 tk2 : Tok} (F : Fun K "__init__" "Floor.__init__" s_Floor_init f fd) (T : Bi mg) (c_behind_table : Cal P w K mg base "behind_table" 1 ["sheet"] spBeh) (c_floor_word : Cal P w K mg base "floor_word" 1 ["solid"] spFWord) (g_sq : mg "SQUARE_LETTERS" = some (.str "ENWS" tk1)) (g_tr : mg "TRIANGLE_LETTERS" = some (.str "abc" tk2)) (c_cls : Cls K C) (n_b : NoAttr K C "behind") (n_l : NoAttr K C "letters") : FnOk P w K mg base CX0 2 f fd ["self", "solid"] (SpD K w (spInit C)) := by
  refine F.ok sc_Floor_init (fun vs H Q E h => SpD.len (n := 2) (spInit_len) h) (fun cdv A outer s H vs Q E hr h => ?_)
  have hu := hu_of hr
  have hu16 := hu16_of hr
  refine ⟨_, (pss_cons (ps_fld (pv 0) (pe_cal c_behind_table (hr.mono (by decide)) (by rfl) (pa_cons (pv 1) pa_nil)) rfl)
(pss_one (ps_fld (pv 0) (pe_ifExp (pt_cmpR op_eq (pe_cal c_floor_word (hr.mono (by decide)) (by rfl) (pa_cons (pv 1) pa_nil)) pe_str (nomark _)) (pe_glob rfl g_sq (v := .str "ENWS") ⟨_, rfl⟩) (pe_glob rfl g_tr (v := .str "abc") ⟨_, rfl⟩)) rfl))), go h ?_⟩
  clear hu hu16 hr h
  rintro l M k ⟨x, F, m, n, rfl, hx, so, hk⟩
  refine sw_seq <| sw_fld <| ev_call <| av_cons <| ev_var rfl <| av_nil ⟨F, m, n, rfl, so, fun M1 kp => ev_var rfl ⟨x, C, [], [], rfl, kp _ _ hx, c_cls, n_b, by decide, ?_⟩⟩
  refine sw_fld <| EV.mono (k := fun d M' => d = .str (ltS m) ∧ M' = M1.set x (.ins C (putN "behind" []) (putL "behind" (kvD (bp F)) [] []))) ?_ ?_
  · refine ev_if <| tv_test <| ev_op <| ev_call <| av_cons <| ev_var rfl <| av_nil ⟨F, m, n, rfl, so, ev_str <| rd_eqS ⟨_, rfl, ifd (fun h => ?_) (fun h => ?_)⟩⟩
    · have : m = 4 := by
        rcases so.m34 with e | e
        · subst e; exact absurd h (by decide +kernel)
        · exact e
      subst this
      exact ev_str ⟨rfl, rfl⟩
    · have : m = 3 := by
        rcases so.m34 with e | e
        · exact e
        · subst e; exact absurd rfl h
      subst this
      exact ev_str ⟨rfl, rfl⟩
  · rintro d M2 ⟨rfl, rfl⟩
    refine ev_var rfl ⟨x, C, _, _, rfl, MH.set_same, c_cls, n_l, (show 1 < 1000 by decide), ?_⟩
    rw [MH.set_set]
    have kbl : ¬ (("behind" : Str) = "letters") := by decide +kernel
    have e1 : putN ("letters" : Str) (putN "behind" []) = flN := by
      show (if ("behind" : Str) = "letters" then _ else _) = _
      rw [if_neg kbl]; rfl
    have e2 : putL ("letters" : Str) (D.str (ltS m)) (putN "behind" []) (putL "behind" (kvD (bp F)) [] []) = [kvD (bp F), .str (ltS m)] := by
      show (if ("behind" : Str) = "letters" then _ else _) = _
      rw [if_neg kbl]; rfl
    rw [e1, e2]
    exact hk _ MH.set_same fun b o hb h => by rw [MH.set_ne hb]; exact kp b o h
theorem ok_Floor_turned {f C mv : Addr} {fd : FuncData} {tk1 tk2 : Tok} (F : Fun K "turned" "Floor.turned" s_Floor_turned f fd) (T : Bi mg) (c_cls : Cls K C) (n_b : NoAttr K C "behind") (n_l : NoAttr K C "letters") : FnOk P w K mg base CX0 1 f fd ["self", "side", "times"] (SpD K w (spTurned C)) := by
  refine F.ok sc_Floor_turned (fun vs H Q E h => SpD.len (n := 3) (spTurned_len) h) (fun cdv A outer s H vs Q E hr h => ?_)
  have hu := hu_of hr
  have hu16 := hu16_of hr
  refine ⟨_, (pss_cons (ps_set (i := 3) sc_Floor_turned.nd rfl (Or.inl rfl) (pv 1))
(pss_cons (ps_for PassesOwn.never rfl (pi_range1 (by rfl) T.range (pa_cons (pv 2) pa_nil)) (pg_name (i := 4) sc_Floor_turned.nd rfl (Or.inl rfl))
(pss_one (ps_set (i := 3) sc_Floor_turned.nd rfl (Or.inl rfl) (pe_dget hu (pe_fld (pv 0) rfl) (pv 3) (fun _ _ => rfl)))))
(pss_one (ps_ret (pv 3))))), go h ?_⟩
  clear hu hu16 hr h
  rintro l M k ⟨F, m, n, s, t, rfl, so, hs, ht, hk⟩
  refine sw_seq <| sw_asg <| ev_var rfl <| gv_name ?_
  refine sw_seq <| sw_for <| iv_range1 <| av_cons <| ev_var rfl <| av_nil ⟨_, rfl, by omega, by omega, FP.start (fun i ds M' => ∃ o : Option D, ds = [some (floorD C F m), some (nD s), some (nD t), some (nD (itr (bh F) i s)), o] ∧ M' = M) ⟨none, rfl, rfl⟩ ?_ ?_⟩
  · rintro i d ds M1 hi ⟨o, rfl, rfl⟩
    have hsi := bhi_lt so hs i
    have hmem : itr (bh F) i s ∈ (bp F).map (·.1) := by rw [bp_fst]; exact so.mem.mpr hsi
    refine gv_name <| sw_asg <| ev_dget <| ev_fld <| ev_var rfl ⟨C, _, _, _, rfl, c_cls, n_b, fl_b _ _, ev_var rfl ⟨kvN (bp F), kN (itr (bh F) i s), _, .f, rfl, kvN_val hmem, gv_name ?_⟩⟩
    exact ⟨some d, by rw [itr_succ]; rfl, rfl⟩
  · rintro ds M1 ⟨o, rfl, rfl⟩
    rw [rgD_len, Int.toNat_natCast]
    exact sw_ret <| ev_var rfl hk
theorem ok_Floor_step {f C mv : Addr} {fd : FuncData} {tk1 tk2 : Tok} (F : Fun K "step" "Floor.step" s_Floor_step f fd) (T : Bi mg) (c_Floor_turned : CalM P w K mg base C "turned" 1 ["self", "side", "times"] (spTurned C)) (c_moved_place : Cal P w K mg base "moved_place" 1 ["place", "letter"] spMoved) (c_cls : Cls K C) (n_b : NoAttr K C "behind") (n_l : NoAttr K C "letters") : FnOk P w K mg base CX0 2 f fd ["self", "standing", "letter"] (SpD K w (spStep C)) := by
  refine F.ok sc_Floor_step (fun vs H Q E h => SpD.len (n := 3) (spStep_len) h) (fun cdv A outer s H vs Q E hr h => ?_)
  have hu := hu_of hr
  have hu16 := hu16_of hr
  refine ⟨_, (pss_cons (ps_asg (pv 1) (pg_tup (by rfl) (pgs_cons (pg_name (i := 3) sc_Floor_step.nd rfl (Or.inl rfl)) (pgs_cons (pg_name (i := 4) sc_Floor_step.nd rfl (Or.inl rfl)) pgs_nil))))
(pss_cons (ps_set (i := 5) sc_Floor_step.nd rfl (Or.inl rfl) (pe_callB cb_len (by rfl) T.len (by decide +kernel) (pa_cons (pe_fld (pv 0) rfl) pa_nil)))
(pss_cons (ps_set (i := 6) sc_Floor_step.nd rfl (Or.inl rfl) (pe_bm PySem.F.plainAttrs_str PySem.F.slot_str_index PySem.F.type_str_index mt_sindexA (pe_fld (pv 0) rfl) (pa_cons (pv 2) pa_nil)))
(pss_cons (ps_set (i := 7) sc_Floor_step.nd rfl (Or.inl rfl) (pe_ifExp (pt_cmpR op_eq (pv 5) pe_int (nomark _)) (pe_op op_mod (pe_op op_add (pv 6) pe_int) pe_int) (pv 6)))
(pss_cons (ps_set (i := 8) sc_Floor_step.nd rfl (Or.inl rfl) (pe_op op_xor (pe_calM (pv 0) c_cls c_Floor_turned (hr.mono (by decide)) (pa_cons (pv 4) (pa_cons (pv 6) pa_nil))) pe_int))
(pss_one (ps_ret (pe_tup (pa_cons (pe_cal c_moved_place (hr.mono (by decide)) (by rfl) (pa_cons (pv 3) (pa_cons (pv 2) pa_nil))) (pa_cons (pe_calM (pv 0) c_cls c_Floor_turned (hr.mono (by decide)) (pa_cons (pv 8) (pa_cons (pe_op op_mod (pe_op op_sub (pv 5) (pv 7)) (pv 5)) pa_nil))) pa_nil)))))))))), go h ?_⟩
  clear hu hu16 hr h
  rintro l M k ⟨F, m, n, ⟨x, y, kk, s⟩, i, rfl, so, ok, hi, hk⟩
  have hm := so.m34
  have hlen : (ltS m).length = m := by rw [ltS_w hm, wS_len, List.length_range]
  have m4 : m ≤ 4 := by omega
  refine sw_seq <| sw_asg <| ev_var rfl <| gv_tup rfl <| gvs_cons <| gv_name <| gvs_cons <| gv_name <| gvs_nil ?_
  refine sw_seq <| sw_asg <| ev_cb <| av_cons <| ev_fld <| ev_var rfl ⟨C, _, _, _, rfl, c_cls, n_l, fl_l _ _, av_nil <| ra_lenS (by rw [hlen]; exact sl (by omega)) <| gv_name ?_⟩
  refine sw_seq <| sw_asg <| ev_bm <| ev_fld <| ev_var rfl ⟨C, _, _, _, rfl, c_cls, n_l, fl_l _ _, tyd_str, av_cons <| ev_var rfl <| av_nil <| rm_sindex (sg m i hm hi) <| gv_name ?_⟩
  refine sw_seq <| sw_asg <| EV.mono (k := fun d M' => d = nD (if m = 4 then (i + 2) % 4 else i) ∧ M' = M) ?_ ?_
  · refine ev_if <| tv_test <| ev_op <| ev_var rfl <| ev_int <| rd_eqI ⟨_, rfl, ifd (fun h => ?_) (fun h => ?_)⟩
    · rw [hlen] at h
      have : m = 4 := by omega
      refine ev_op <| ev_op <| ev_var rfl <| ev_int <| rd_int <| ev_int <| rd_mod (by decide) ⟨?_, rfl⟩
      rw [if_pos this]; rfl
    · rw [hlen] at h
      have : m ≠ 4 := fun z => h (by omega)
      exact ev_var rfl ⟨by rw [if_neg this], rfl⟩
  rintro d M1 ⟨rfl, rfl⟩
  have hen : (if m = 4 then (i + 2) % 4 else i) < m := by split <;> omega
  have hbk := bk_eq m i hm hi
  generalize (if m = 4 then (i + 2) % 4 else i) = en at hen hbk
  refine gv_name <| sw_seq <| sw_asg <| ev_op <| ev_meth <| ev_var rfl ⟨_, _, rfl, ne_b (by decide +kernel) (by decide +kernel), av_cons <| ev_var rfl <| av_cons <| ev_var rfl <| av_nil ⟨F, m, n, s, i, rfl, so, ok.s, by omega, ev_int <| rd_int <| gv_name ?_⟩⟩
  rw [tw_xor]
  have hl : tw (itr (bh F) i s) < n := tw_lt so.ev (bhi_lt so ok.s i)
  refine sw_ret <| ev_tup <| av_cons <| ev_call <| av_cons <| ev_var rfl <| av_cons <| ev_var rfl <| av_nil ⟨x, y, kk, m, i, rfl, hm, hi, ok.k, ok.k4, av_cons <| ev_meth <| ev_var rfl ⟨_, _, rfl, ne_b (by decide +kernel) (by decide +kernel), av_cons <| ev_var rfl <| av_cons <| ev_op <| ev_op <| ev_var rfl <| ev_var rfl <| rd_int <| ev_var rfl <| rd_mod (by rw [hlen]; omega) <| av_nil ⟨F, m, n, tw (itr (bh F) i s), bk m i, ?_, so, hl, ?_, av_nil ⟨l2, hk⟩⟩⟩⟩
  · have e : (((ltS m).length : Nat) - ((en : Nat) : Int)) % (((ltS m).length : Nat) : Int) = ((bk m i : Nat) : Int) := by
      rw [hlen, hbk, show ((m : Nat) : Int) - ((en : Nat) : Int) = ((m - en : Nat) : Int) by omega]; rfl
    rw [e]
  · rw [hbk]; exact Nat.lt_of_lt_of_le (Nat.mod_lt _ (by omega)) (by omega)
theorem ok_Floor_word {f C mv : Addr} {fd : FuncData} {tk1 tk2 : Tok} (F : Fun K "word" "Floor.word" s_Floor_word f fd) (T : Bi mg) (c_Floor_step : CalM P w K mg base C "step" 2 ["self", "standing", "letter"] (spStep C)) (c_cls : Cls K C) (n_b : NoAttr K C "behind") (n_l : NoAttr K C "letters") : FnOk P w K mg base CX0 3 f fd ["self", "standing", "word"] (SpD K w (spWord C)) := by
  refine F.ok sc_Floor_word (fun vs H Q E h => SpD.len (n := 3) (spWord_len) h) (fun cdv A outer s H vs Q E hr h => ?_)
  have hu := hu_of hr
  have hu16 := hu16_of hr
  refine ⟨_, (pss_cons (ps_set (i := 3) sc_Floor_word.nd rfl (Or.inl rfl) (pv 1))
(pss_cons (ps_for PassesOwn.never rfl (pi_str (pv 2)) (pg_name (i := 4) sc_Floor_word.nd rfl (Or.inl rfl))
(pss_one (ps_set (i := 3) sc_Floor_word.nd rfl (Or.inl rfl) (pe_calM (pv 0) c_cls c_Floor_step (hr.mono (by decide)) (pa_cons (pv 3) (pa_cons (pv 4) pa_nil))))))
(pss_one (ps_ret (pv 3))))), go h ?_⟩
  clear hu hu16 hr h
  rintro l M k ⟨F, m, n, t, v, rfl, so, ok, hv, hk⟩
  refine sw_seq <| sw_asg <| ev_var rfl <| gv_name ?_
  refine sw_seq <| sw_for <| iv_str <| ev_var rfl ⟨_, rfl, ?_⟩
  rw [wS_signs]
  refine FP.start (fun i ds M' => ∃ o : Option D, ds = [some (floorD C F m), some (stD t), some (.str (wS m v)), some (stD (runW m (bh F) t (v.take i))), o] ∧ M' = M) ⟨none, rfl, rfl⟩ ?_ ?_
  · rintro j d ds M1 hj ⟨o, rfl, rfl⟩
    rw [List.getElem?_map] at hj
    obtain ⟨i, hi, rfl⟩ := Option.map_eq_some_iff.mp hj
    have hi2 := hv i (List.mem_of_getElem? hi)
    refine gv_name <| sw_asg <| ev_meth <| ev_var rfl ⟨_, _, rfl, ne_b (by decide +kernel) (by decide +kernel), av_cons <| ev_var rfl <| av_cons <| ev_var rfl <| av_nil ⟨F, m, n, _, i, rfl, so, runW_ok so _ ok, hi2, gv_name ?_⟩⟩
    refine ⟨some (.str (lS m i)), ?_, rfl⟩
    rw [List.take_succ, hi, runW_app]; rfl
  · rintro ds M1 ⟨o, rfl, rfl⟩
    rw [List.length_map, List.take_length]
    exact sw_ret <| ev_var rfl hk
theorem ok_Floor_lap {f C mv : Addr} {fd : FuncData} {tk1 tk2 : Tok} (F : Fun K "lap" "Floor.lap" s_Floor_lap f fd) (T : Bi mg) (c_Floor_word : CalM P w K mg base C "word" 3 ["self", "standing", "word"] (spWord C)) (c_cls : Cls K C) (n_b : NoAttr K C "behind") (n_l : NoAttr K C "letters") : FnOk P w K mg base CX0 4 f fd ["self", "standing", "word"] (SpD K w (spLap C)) := by
  refine F.ok sc_Floor_lap (fun vs H Q E h => SpD.len (n := 3) (spLap_len) h) (fun cdv A outer s H vs Q E hr h => ?_)
  have hu := hu_of hr
  have hu16 := hu16_of hr
  refine ⟨_, (pss_cons (ps_set (i := 3) sc_Floor_lap.nd rfl (Or.inl rfl) (pe_lst (pa_cons (pv 1) pa_nil)))
(pss_cons (ps_set (i := 4) sc_Floor_lap.nd rfl (Or.inl rfl) (pe_calM (pv 0) c_cls c_Floor_word (hr.mono (by decide)) (pa_cons (pv 1) (pa_cons (pv 2) pa_nil))))
(pss_cons (ps_while PassesOwn.never (pt_cmpR (op_neD hr.units) (pe_tup (pa_cons (pe_ix ix_tup (pe_ix ix_tup (pv 4) pe_int (fun _ _ => rfl)) pe_int (fun _ _ => rfl)) (pa_cons (pe_ix ix_tup (pv 4) pe_int (fun _ _ => rfl)) pa_nil))) (pe_tup (pa_cons (pe_ix ix_tup (pe_ix ix_tup (pv 1) pe_int (fun _ _ => rfl)) pe_int (fun _ _ => rfl)) (pa_cons (pe_ix ix_tup (pv 1) pe_int (fun _ _ => rfl)) pa_nil))) (nomark _))
(pss_cons (ps_expr (pe_bm PySem.F.plainAttrs_list PySem.F.slot_list_append PySem.F.type_list_append mt_append (pv 3) (pa_cons (pv 4) pa_nil)))
(pss_one (ps_set (i := 4) sc_Floor_lap.nd rfl (Or.inl rfl) (pe_calM (pv 0) c_cls c_Floor_word (hr.mono (by decide)) (pa_cons (pv 4) (pa_cons (pv 2) pa_nil)))))))
(pss_cons (ps_expr (pe_bm PySem.F.plainAttrs_list PySem.F.slot_list_append PySem.F.type_list_append mt_append (pv 3) (pa_cons (pv 4) pa_nil)))
(pss_one (ps_ret (pv 3))))))), go h ?_⟩
  clear hu hu16 hr h
  rintro l M k ⟨F, m, n, t, v, rfl, so, ok, hv, hk⟩
  obtain ⟨p, p0, p1, ks⟩ := lap_period so v ok hv
  have n64 := so.n64
  refine sw_seq <| sw_asg <| ev_lstM <| av_cons <| ev_var rfl <| av_nil ⟨l1, fun c hc => gv_name ?_⟩
  refine sw_seq <| sw_asg <| ev_meth <| ev_var rfl ⟨_, _, rfl, ne_b (by decide +kernel) (by decide +kernel), av_cons <| ev_var rfl <| av_cons <| ev_var rfl <| av_nil ⟨F, m, n, t, v, rfl, so, ok, hv, gv_name ?_⟩⟩
  refine sw_seq <| sw_while (fun g ds M' => ∃ j, g = p - j ∧ 0 < j ∧ j ≤ p ∧ ds = [some (floorD C F m), some (stD t), some (.str (wS m v)), some (.adr c), some (stD (lapS m (bh F) v t j))] ∧ M' c = some (.lst ((List.range j).map fun j => stD (lapS m (bh F) v t j))) ∧ Keep M M') (p - 1) ⟨1, rfl, by omega, by omega, rfl, MH.set_same, (Keep.refl M).set hc⟩ ?_
  rintro g ds M1 ⟨j, rfl, j0, jp, rfl, h1, kp⟩
  refine tv_test <| ev_op <| ev_tup <| av_cons <| ev_op <| ev_op <| ev_var rfl <| ev_int <| rd_ixT at0 <| ev_int <| rd_ixT at2 <| av_cons <| ev_op <| ev_var rfl <| ev_int <| rd_ixT at1 <| av_nil ⟨l2, ev_tup <| av_cons <| ev_op <| ev_op <| ev_var rfl <| ev_int <| rd_ixT at0 <| ev_int <| rd_ixT at2 <| av_cons <| ev_op <| ev_var rfl <| ev_int <| rd_ixT at1 <| av_nil ⟨l2, rd_neD rfl rfl rfl rfl ⟨_, rfl, ?_⟩⟩⟩
  have hq : PyData.eqv (D.tup [nD (lapS m (bh F) v t j).k, nD (lapS m (bh F) v t j).s]).py (D.tup [nD t.k, nD t.s]).py = decide (sameKS t (lapS m (bh F) v t j)) := by
    show ((((lapS m (bh F) v t j).k : Int) == (t.k : Int)) && ((((lapS m (bh F) v t j).s : Int) == (t.s : Int)) && true)) = _
    rw [Bool.and_true]
    by_cases e1 : (lapS m (bh F) v t j).k = t.k
    · by_cases e2 : (lapS m (bh F) v t j).s = t.s
      · rw [decide_eq_true ⟨e1.symm, e2.symm⟩, e1, e2]; simp
      · rw [decide_eq_false (fun z => e2 z.2.symm)]
        have : ((((lapS m (bh F) v t j).s : Nat) : Int) == ((t.s : Nat) : Int)) = false := beq_eq_false_iff_ne.mpr (by omega)
        rw [this, Bool.and_false]
    · rw [decide_eq_false (fun z => e1 z.1.symm)]
      have : ((((lapS m (bh F) v t j).k : Nat) : Int) == ((t.k : Nat) : Int)) = false := beq_eq_false_iff_ne.mpr (by omega)
      rw [this, Bool.false_and]
  rw [hq]
  have hap : (List.range j).map (fun j => stD (lapS m (bh F) v t j)) ++ [stD (lapS m (bh F) v t j)] = (List.range (j + 1)).map fun j => stD (lapS m (bh F) v t j) := by rw [List.range_succ, List.map_append]; rfl
  have hll : ((List.range j).map fun j => stD (lapS m (bh F) v t j)).length < sizeLine := by rw [List.length_map, List.length_range]; exact sl' (by omega)
  refine ifn (fun hne => ?_) (fun he => ?_)
  · have hjp : j ≠ p := fun z => hne (by rw [z]; exact ks)
    refine sw_seq <| sw_drop <| ev_bm <| ev_var rfl ⟨tyd_adr h1, av_cons <| ev_var rfl <| av_nil <| rm_append h1 hll ?_⟩
    rw [hap]
    refine sw_asg <| ev_meth <| ev_var rfl ⟨_, _, rfl, ne_b (by decide +kernel) (by decide +kernel), av_cons <| ev_var rfl <| av_cons <| ev_var rfl <| av_nil ⟨F, m, n, _, v, rfl, so, lapS_ok so v ok j, hv, gv_name ?_⟩⟩
    refine ⟨p - (j + 1), by omega, j + 1, rfl, by omega, by omega, ?_, MH.set_same, kp.set hc⟩
    rw [lapS_succ]; rfl
  · refine sw_seq <| sw_drop <| ev_bm <| ev_var rfl ⟨tyd_adr h1, av_cons <| ev_var rfl <| av_nil <| rm_append h1 hll ?_⟩
    rw [hap]
    refine sw_ret <| ev_frzL <| ev_var rfl ⟨c, _, rfl, MH.set_same, ?_⟩
    exact hk j _ j0 (by omega) he ((kp.set hc).del hc)
theorem ok_Floor_run {f C mv : Addr} {fd : FuncData} {tk1 tk2 : Tok} (F : Fun K "run" "Floor.run" s_Floor_run f fd) (T : Bi mg) (c_Floor_lap : CalM P w K mg base C "lap" 4 ["self", "standing", "word"] (spLap C)) (c_cls : Cls K C) (n_b : NoAttr K C "behind") (n_l : NoAttr K C "letters") : FnOk P w K mg base CX0 5 f fd ["self", "standing", "word", "times"] (SpD K w (spRun C)) := by
  refine F.ok sc_Floor_run (fun vs H Q E h => SpD.len (n := 4) (spRun_len) h) (fun cdv A outer s H vs Q E hr h => ?_)
  have hu := hu_of hr
  have hu16 := hu16_of hr
  refine ⟨_, (pss_cons (ps_set (i := 4) sc_Floor_run.nd rfl (Or.inl rfl) (pe_calM (pv 0) c_cls c_Floor_lap (hr.mono (by decide)) (pa_cons (pv 1) (pa_cons (pv 2) pa_nil))))
(pss_cons (ps_set (i := 5) sc_Floor_run.nd rfl (Or.inl rfl) (pe_op op_sub (pe_callB cb_len (by rfl) T.len (by decide +kernel) (pa_cons (pv 4) pa_nil)) pe_int))
(pss_cons (ps_set (i := 6) sc_Floor_run.nd rfl (Or.inl rfl) (pe_ix ix_list (pv 4) (pe_op op_mod (pv 3) (pv 5)) (fun _ _ => rfl)))
(pss_cons (ps_set (i := 7) sc_Floor_run.nd rfl (Or.inl rfl) (pe_op op_fdiv (pv 3) (pv 5)))
(pss_cons (ps_set (i := 8) sc_Floor_run.nd rfl (Or.inl rfl) (pe_op op_add (pe_ix ix_tup (pe_ix ix_tup (pv 6) pe_int (fun _ _ => rfl)) pe_int (fun _ _ => rfl)) (pe_op op_mul (pv 7) (pe_op op_sub (pe_ix ix_tup (pe_ix ix_tup (pe_ix ix_list (pv 4) (pe_un un_neg pe_int) (fun _ _ => rfl)) pe_int (fun _ _ => rfl)) pe_int (fun _ _ => rfl)) (pe_ix ix_tup (pe_ix ix_tup (pv 1) pe_int (fun _ _ => rfl)) pe_int (fun _ _ => rfl))))))
(pss_cons (ps_set (i := 9) sc_Floor_run.nd rfl (Or.inl rfl) (pe_op op_add (pe_ix ix_tup (pe_ix ix_tup (pv 6) pe_int (fun _ _ => rfl)) pe_int (fun _ _ => rfl)) (pe_op op_mul (pv 7) (pe_op op_sub (pe_ix ix_tup (pe_ix ix_tup (pe_ix ix_list (pv 4) (pe_un un_neg pe_int) (fun _ _ => rfl)) pe_int (fun _ _ => rfl)) pe_int (fun _ _ => rfl)) (pe_ix ix_tup (pe_ix ix_tup (pv 1) pe_int (fun _ _ => rfl)) pe_int (fun _ _ => rfl))))))
(pss_one (ps_ret (pe_tup (pa_cons (pe_tup (pa_cons (pv 8) (pa_cons (pv 9) (pa_cons (pe_ix ix_tup (pe_ix ix_tup (pv 6) pe_int (fun _ _ => rfl)) pe_int (fun _ _ => rfl)) pa_nil)))) (pa_cons (pe_ix ix_tup (pv 6) pe_int (fun _ _ => rfl)) pa_nil))))))))))), go h ?_⟩
  clear hu hu16 hr h
  rintro l M k ⟨F, m, n, t, v, c, rfl, so, ok, hv, hc, hk⟩
  refine sw_seq <| sw_asg <| ev_meth <| ev_var rfl ⟨_, _, rfl, ne_b (by decide +kernel) (by decide +kernel), av_cons <| ev_var rfl <| av_cons <| ev_var rfl <| av_nil ⟨F, m, n, t, v, rfl, so, ok, hv, fun p M' p0 p1 ks kp => gv_name ?_⟩⟩
  have n64 := so.n64
  refine sw_seq <| sw_asg <| ev_op <| ev_cb <| av_cons <| ev_var rfl <| av_nil <| ra_lenL <| ev_int <| rd_int <| gv_name ?_
  rw [List.length_map, List.length_range, show (((p + 1 : Nat) : Int) - 1) = (p : Nat) by omega]
  have hcp : c % p < p := Nat.mod_lt _ p0
  have gt : ∀ i, i ≤ p → ((List.range (p + 1)).map fun j => stD (lapS m (bh F) v t j))[i]? = some (stD (lapS m (bh F) v t i)) := fun i hi => by rw [List.getElem?_map, List.getElem?_range (by omega)]; rfl
  refine sw_seq <| sw_asg <| ev_op <| ev_var rfl <| ev_op <| ev_var rfl <| ev_var rfl <| rd_mod (by omega) <| rd_ixL (atI_nat (j := c % p) (gt _ (by omega))) <| gv_name ?_
  refine sw_seq <| sw_asg <| ev_op <| ev_var rfl <| ev_var rfl <| rd_fdiv (by omega) <| gv_name ?_
  have hcd : c / p ≤ c := Nat.div_le_self c p
  have hW : ∀ z, CMul (((c : Nat) : Int) / ((p : Nat) : Int)) z := fun z => .inl <| by
    rw [show ((c : Nat) : Int) / ((p : Nat) : Int) = ((c / p : Nat) : Int) from rfl]
    have hz : c / p < 2 ^ 64 := Nat.lt_of_le_of_lt hcd hc
    generalize c / p = z at hz ⊢
    omega
  have hlast : atI ((List.range (p + 1)).map fun j => stD (lapS m (bh F) v t j)) (-1) = some (stD (lapS m (bh F) v t p)) := atm (by rw [List.length_map, List.length_range]; exact gt p (Nat.le_refl p)) (by simp)
  refine sw_seq <| sw_asg <| ev_op <| ev_op <| ev_op <| ev_var rfl <| ev_int <| rd_ixT at0 <| ev_int <| rd_ixT at0 <| ev_op <| ev_var rfl <| ev_op <| ev_op <| ev_op <| ev_op <| ev_var rfl <| ev_un <| ev_int <| ru_neg <| rd_ixL hlast ?_
  refine ev_int <| rd_ixT at0 ?_
  refine ev_int <| rd_ixT at0 <| ev_op <| ev_op <| ev_var rfl <| ev_int <| rd_ixT at0 <| ev_int <| rd_ixT at0 <| rd_int <| rd_mul (hW _) <| rd_int <| gv_name ?_
  refine sw_seq <| sw_asg <| ev_op <| ev_op <| ev_op <| ev_var rfl <| ev_int <| rd_ixT at0 <| ev_int <| rd_ixT at1 <| ev_op <| ev_var rfl <| ev_op <| ev_op <| ev_op <| ev_op <| ev_var rfl <| ev_un <| ev_int <| ru_neg <| rd_ixL hlast ?_
  refine ev_int <| rd_ixT at0 ?_
  refine ev_int <| rd_ixT at1 <| ev_op <| ev_op <| ev_var rfl <| ev_int <| rd_ixT at0 <| ev_int <| rd_ixT at1 <| rd_int <| rd_mul (hW _) <| rd_int <| gv_name ?_
  refine sw_ret <| ev_tup <| av_cons <| ev_tup <| av_cons <| ev_var rfl <| av_cons <| ev_var rfl <| av_cons <| ev_op <| ev_op <| ev_var rfl <| ev_int <| rd_ixT at0 <| ev_int <| rd_ixT at2 <| av_nil ⟨l3, av_cons <| ev_op <| ev_var rfl <| ev_int <| rd_ixT at1 <| av_nil ⟨l2, ?_⟩⟩
  have := hk M' kp
  rw [lap_far (bh F) v t p0 ks c] at this
  exact this
end
end WK

set_option Elab.async false
set_option linter.all false
set_option maxRecDepth 100000
set_option maxHeartbeats 4000000
namespace WK
open PySem PySem.Spec PyProof.Rows L2 Evl PL
def spFStep : PL.Spec := fun l M k => ∃ F m n t i, l = [solidD F, stD t, .str (lS m i)] ∧ Sol F m n ∧ Ok m n t ∧ i < m ∧ ∀ M', Keep M M' → k (stD (step m (bh F) t i)) M'
theorem spFStep_len : ∀ l M k, spFStep l M k → l.length = 3 := fun l M k ⟨_, _, _, _, _, h, _⟩ => by rw [h]; rfl
def spFRun : PL.Spec := fun l M k => ∃ F m n t v c, l = [solidD F, stD t, .str (wS m v), nD c] ∧ Sol F m n ∧ Ok m n t ∧ (∀ i ∈ v, i < m) ∧ c < 2 ^ 64 ∧ ∀ M', Keep M M' → k (stD (lapS m (bh F) v t c)) M'
theorem spFRun_len : ∀ l M k, spFRun l M k → l.length = 4 := fun l M k ⟨_, _, _, _, _, _, h, _⟩ => by rw [h]; rfl
def st0 (k s : Nat) : Std := ⟨0, 0, k, s⟩
def spFMove : PL.Spec := fun l M k => ∃ F m n v, l = [solidD F, .str (wS m v)] ∧ Sol F m n ∧ (∀ i ∈ v, i < m) ∧ ∀ M', Keep M M' → k (.tup [.int (runW m (bh F) (st0 0 0) v).x, .int (runW m (bh F) (st0 0 0) v).y]) M'
theorem spFMove_len : ∀ l M k, spFMove l M k → l.length = 2 := fun l M k ⟨_, _, _, _, h, _⟩ => by rw [h]; rfl
theorem ok0 {F : List (List Nat)} {m n k s : Nat} (h : Sol F m n) (hs : s < n) (hk : k ≤ 1) (h4 : m = 4 → k = 0) : Ok m n (st0 k s) := ⟨hs, hk, h4⟩
/-! ### the table of moves -/
abbrev mkK (m i last : Nat) : NestedKey := .tup [.text (lS m i), .num (last : Nat)]
def shD (m i last : Nat) : D := .tup [.int (dxx m i last), .int (dyy m i last), nD (nk m last)]
def mvD (F : List (List Nat)) (m n i last : Nat) : D := .tup [shD m i last, .tup ((List.range n).map fun s => nD (itr (bh F) (bk m i) (tw (itr (bh F) i s))))]
theorem lS_inj {m i j : Nat} (hm : m = 3 ∨ m = 4) (hi : i < m) (hj : j < m) (h : lS m i = lS m j) : i = j := by
  have h : lc m i = lc m j := by
    have := congrArg (fun x : Str => x.cps.toList) h
    simpa [lS] using this
  rcases hm with e | e <;> subst e
  · rcases (show i = 0 ∨ i = 1 ∨ i = 2 by omega) with e | e | e <;> rcases (show j = 0 ∨ j = 1 ∨ j = 2 by omega) with e2 | e2 | e2 <;> subst e <;> subst e2 <;> revert h <;> decide
  · rcases (show i = 0 ∨ i = 1 ∨ i = 2 ∨ i = 3 by omega) with e | e | e | e <;> rcases (show j = 0 ∨ j = 1 ∨ j = 2 ∨ j = 3 by omega) with e2 | e2 | e2 | e2 <;> subst e <;> subst e2 <;> revert h <;> decide
theorem mkK_inj {m i j a b : Nat} (hm : m = 3 ∨ m = 4) (hi : i < m) (hj : j < m) (h : mkK m i a = mkK m j b) : i = j ∧ a = b := by
  injection h with h
  injection h with h1 h2
  injection h1 with h1
  injection h2 with h2 _
  injection h2 with h2
  exact ⟨lS_inj hm hi hj h1, by omega⟩
def kvM (m : Nat) (g : Nat → Nat → D) (l : List (Nat × Nat)) : List (NestedKey × D) := l.map fun x => (mkK m x.1 x.2, g x.1 x.2)
theorem kvM_val {m : Nat} (hm : m = 3 ∨ m = 4) (g : Nat → Nat → D) {i a : Nat} (hi : i < m) : ∀ l : List (Nat × Nat), (∀ x ∈ l, x.1 < m) → valM (kvM m g l) (mkK m i a) = if (i, a) ∈ l then some (g i a) else none
  | [], _ => rfl
  | x :: r, hl => by
    show valM ((mkK m x.1 x.2, g x.1 x.2) :: kvM m g r) _ = _
    rw [valM_cons, kvM_val hm g hi r fun y hy => hl y (List.mem_cons_of_mem _ hy)]
    by_cases e : x = (i, a)
    · subst e; rw [if_pos rfl, if_pos List.mem_cons_self]
    · rw [if_neg fun z => e (by obtain ⟨h1, h2⟩ := mkK_inj hm (hl x List.mem_cons_self) hi z; exact Prod.ext h1 h2)]
      by_cases e2 : (i, a) ∈ r
      · rw [if_pos e2, if_pos (List.mem_cons_of_mem _ e2)]
      · rw [if_neg e2, if_neg]
        intro z
        rcases List.mem_cons.mp z with z | z
        · exact e z.symm
        · exact e2 z
def lasts (m : Nat) : List Nat := if m = 4 then [0] else [0, 1]
def allp (m c : Nat) : List (Nat × Nat) := (List.range c).flatMap fun i => (lasts m).map fun a => (i, a)
theorem allp_mem {m c i a : Nat} : (i, a) ∈ allp m c ↔ i < c ∧ a ∈ lasts m := by
  unfold allp
  rw [List.mem_flatMap]
  constructor
  · rintro ⟨j, hj, h⟩
    obtain ⟨b, hb, e⟩ := List.mem_map.mp h
    injection e with e1 e2
    subst e1 e2
    exact ⟨List.mem_range.mp hj, hb⟩
  · rintro ⟨h1, h2⟩
    exact ⟨i, List.mem_range.mpr h1, List.mem_map.mpr ⟨a, h2, rfl⟩⟩
theorem kvM_put {m : Nat} (hm : m = 3 ∨ m = 4) (g : Nat → Nat → D) {i a : Nat} (hi : i < m) {l : List (Nat × Nat)} (hl : ∀ x ∈ l, x.1 < m) (h : (i, a) ∉ l) : putM (kvM m g l) (mkK m i a) (g i a) = kvM m g (l ++ [(i, a)]) := by
  rw [putM_new (by rw [kvM_val hm g hi l hl, if_neg h])]
  unfold kvM; rw [List.map_append]; rfl
theorem mkK_depth (m i a : Nat) : (mkK m i a).depth ≤ 8 := by simp [NestedKey.depth, NestedKey.depthAll]
structure MovesOk (F : List (List Nat)) (m n : Nat) (f : Addr) (M : MH) : Prop where
  ex : ∃ kvs, M f = some (.dn kvs) ∧ ∀ i a, i < m → a ≤ 1 → (m = 4 → a = 0) → valM kvs (mkK m i a) = some (mvD F m n i a)
theorem MovesOk.keep {F : List (List Nat)} {m n : Nat} {f : Addr} {M M' : MH} (h : MovesOk F m n f M) (kp : Keep M M') : MovesOk F m n f M' := by
  obtain ⟨kvs, h1, h2⟩ := h.ex
  exact ⟨kvs, kp _ _ h1, h2⟩
theorem MovesOk.fr {F : List (List Nat)} {m n : Nat} {f p q : Addr} {M M' : MH} (h : MovesOk F m n f M) (kp : Fr p q M M') (d : DkOk p q M) : MovesOk F m n f M' := by
  obtain ⟨kvs, h1, h2⟩ := h.ex
  obtain ⟨_, ⟨s, _, _, hp⟩, hs, hq⟩ := d
  exact ⟨kvs, kp _ _ h1 (fun z => by subst z; rw [h1] at hp; cases hp) (fun z => by subst z; rw [h1] at hq; cases hq), h2⟩
def spMoves : PL.Spec := fun l M k => ∃ F m n, l = [solidD F] ∧ Sol F m n ∧ ∀ f M', Keep M M' → MovesOk F m n f M' → k (.adr f) M'
theorem spMoves_len : ∀ l M k, spMoves l M k → l.length = 1 := fun l M k ⟨_, _, _, h, _⟩ => by rw [h]; rfl
def spStepped : PL.Spec := fun l M k => ∃ F m n f t i, l = [.adr f, stD t, .str (lS m i)] ∧ Sol F m n ∧ MovesOk F m n f M ∧ Ok m n t ∧ i < m ∧ k (stD (step m (bh F) t i)) M
theorem spStepped_len : ∀ l M k, spStepped l M k → l.length = 3 := fun l M k ⟨_, _, _, _, _, _, h, _⟩ => by rw [h]; rfl
def spLRun : PL.Spec := fun l M k => ∃ F m n f t v, l = [.adr f, stD t, .str (wS m v)] ∧ Sol F m n ∧ MovesOk F m n f M ∧ Ok m n t ∧ (∀ i ∈ v, i < m) ∧ k (stD (runW m (bh F) t v)) M
theorem spLRun_len : ∀ l M k, spLRun l M k → l.length = 3 := fun l M k ⟨_, _, _, _, _, _, h, _⟩ => by rw [h]; rfl
theorem fresh_keep {M M1 : MH} {x : Addr} {o : MO} (hx : M x = none) (kp : ∀ b u, b ≠ x → (M.set x o) b = some u → M1 b = some u) : Keep M (M1.del x) := fun b u h => by
  have hb : b ≠ x := fun z => by subst z; rw [hx] at h; cases h
  rw [MH.del_ne hb]
  exact kp b u hb (by rw [MH.set_ne hb]; exact h)
abbrev s_floor_step : Stmt := top 10
abbrev N_floor_step : List Str := ["solid", "standing", "letter"]
theorem sc_floor_step : FnScope N_floor_step ["solid", "standing", "letter"] (defScope s_floor_step) := ⟨rfl, rfl, rfl, by decide +kernel, rfl, by decide +kernel, by decide +kernel⟩
abbrev s_floor_run : Stmt := top 11
abbrev N_floor_run : List Str := ["solid", "standing", "word", "times"]
theorem sc_floor_run : FnScope N_floor_run ["solid", "standing", "word", "times"] (defScope s_floor_run) := ⟨rfl, rfl, rfl, by decide +kernel, rfl, by decide +kernel, by decide +kernel⟩
abbrev s_floor_move : Stmt := top 17
abbrev N_floor_move : List Str := ["solid", "word", "place"]
theorem sc_floor_move : FnScope N_floor_move ["solid", "word"] (defScope s_floor_move) := ⟨rfl, rfl, rfl, by decide +kernel, rfl, by decide +kernel, by decide +kernel⟩
abbrev s_law_stepped : Stmt := top 32
abbrev N_law_stepped : List Str := ["moves", "standing", "letter", "place", "side", "shift", "sides"]
theorem sc_law_stepped : FnScope N_law_stepped ["moves", "standing", "letter"] (defScope s_law_stepped) := ⟨rfl, rfl, rfl, by decide +kernel, rfl, by decide +kernel, by decide +kernel⟩
abbrev s_law_run : Stmt := top 33
abbrev N_law_run : List Str := ["moves", "standing", "word", "letter"]
theorem sc_law_run : FnScope N_law_run ["moves", "standing", "word"] (defScope s_law_run) := ⟨rfl, rfl, rfl, by decide +kernel, rfl, by decide +kernel, by decide +kernel⟩
section
variable {P : Program} {w : World} {K : PySem.W.Frag} {mg : Str → Option Value} {base : Heap}
theorem ok_floor_step {f C mv : Addr} {fd : FuncData} {tk1 tk2 : Tok} (F : Fun K "floor_step" "floor_step" s_floor_step f fd) (T : Bi mg) (c_Floor_step : CalM P w K mg base C "step" 2 ["self", "standing", "letter"] (spStep C)) (c_Floor : CalK P w K mg base C "Floor" 2 ["self", "solid"] (spInit C)) (c_cls : Cls K C) (n_b : NoAttr K C "behind") (n_l : NoAttr K C "letters") : FnOk P w K mg base CX0 4 f fd ["solid", "standing", "letter"] (SpD K w spFStep) := by
  refine F.ok sc_floor_step (fun vs H Q E h => SpD.len (n := 3) (spFStep_len) h) (fun cdv A outer s H vs Q E hr h => ?_)
  have hu := hu_of hr
  have hu16 := hu16_of hr
  refine ⟨_, (pss_one (ps_ret (pe_calM (pe_mk c_Floor (hr.mono (by decide)) (by rfl) (pa_cons (pv 0) pa_nil)) c_cls c_Floor_step (hr.mono (by decide)) (pa_cons (pv 1) (pa_cons (pv 2) pa_nil))))), go h ?_⟩
  clear hu hu16 hr h
  rintro l M k ⟨F, m, n, t, i, rfl, so, ok, hi, hk⟩
  refine sw_ret <| ev_meth <| ev_frzI <| ev_make <| av_cons <| ev_var rfl <| av_nil fun x hx => ⟨x, F, m, n, rfl, MH.set_same, so, fun M1 h1 kp => ⟨rfl, x, C, _, _, rfl, h1, flN, _, rfl, ne_b (by decide +kernel) (by decide +kernel), av_cons <| ev_var rfl <| av_cons <| ev_var rfl <| av_nil ⟨F, m, n, t, i, rfl, so, ok, hi, hk _ (fresh_keep hx kp)⟩⟩⟩
theorem ok_floor_run {f C mv : Addr} {fd : FuncData} {tk1 tk2 : Tok} (F : Fun K "floor_run" "floor_run" s_floor_run f fd) (T : Bi mg) (c_Floor_run : CalM P w K mg base C "run" 5 ["self", "standing", "word", "times"] (spRun C)) (c_Floor : CalK P w K mg base C "Floor" 2 ["self", "solid"] (spInit C)) (c_cls : Cls K C) (n_b : NoAttr K C "behind") (n_l : NoAttr K C "letters") : FnOk P w K mg base CX0 6 f fd ["solid", "standing", "word", "times"] (SpD K w spFRun) := by
  refine F.ok sc_floor_run (fun vs H Q E h => SpD.len (n := 4) (spFRun_len) h) (fun cdv A outer s H vs Q E hr h => ?_)
  have hu := hu_of hr
  have hu16 := hu16_of hr
  refine ⟨_, (pss_one (ps_ret (pe_calM (pe_mk c_Floor (hr.mono (by decide)) (by rfl) (pa_cons (pv 0) pa_nil)) c_cls c_Floor_run (hr.mono (by decide)) (pa_cons (pv 1) (pa_cons (pv 2) (pa_cons (pv 3) pa_nil)))))), go h ?_⟩
  clear hu hu16 hr h
  rintro l M k ⟨F, m, n, t, v, c, rfl, so, ok, hv, hc, hk⟩
  refine sw_ret <| ev_meth <| ev_frzI <| ev_make <| av_cons <| ev_var rfl <| av_nil fun x hx => ⟨x, F, m, n, rfl, MH.set_same, so, fun M1 h1 kp => ⟨rfl, x, C, _, _, rfl, h1, flN, _, rfl, ne_b (by decide +kernel) (by decide +kernel), av_cons <| ev_var rfl <| av_cons <| ev_var rfl <| av_cons <| ev_var rfl <| av_nil ⟨F, m, n, t, v, c, rfl, so, ok, hv, hc, fun M' kp' => hk _ ((fresh_keep hx kp).trans kp')⟩⟩⟩
theorem ok_floor_move {f C mv : Addr} {fd : FuncData} {tk1 tk2 : Tok} (F : Fun K "floor_move" "floor_move" s_floor_move f fd) (T : Bi mg) (c_Floor_word : CalM P w K mg base C "word" 3 ["self", "standing", "word"] (spWord C)) (c_Floor : CalK P w K mg base C "Floor" 2 ["self", "solid"] (spInit C)) (c_cls : Cls K C) (n_b : NoAttr K C "behind") (n_l : NoAttr K C "letters") : FnOk P w K mg base CX0 4 f fd ["solid", "word"] (SpD K w spFMove) := by
  refine F.ok sc_floor_move (fun vs H Q E h => SpD.len (n := 2) (spFMove_len) h) (fun cdv A outer s H vs Q E hr h => ?_)
  have hu := hu_of hr
  have hu16 := hu16_of hr
  refine ⟨_, (pss_cons (ps_set (i := 2) sc_floor_move.nd rfl (Or.inl rfl) (pe_ix ix_tup (pe_calM (pe_mk c_Floor (hr.mono (by decide)) (by rfl) (pa_cons (pv 0) pa_nil)) c_cls c_Floor_word (hr.mono (by decide)) (pa_cons (pe_tup (pa_cons (pe_tup (pa_cons pe_int (pa_cons pe_int (pa_cons pe_int pa_nil)))) (pa_cons pe_int pa_nil))) (pa_cons (pv 1) pa_nil))) pe_int (fun _ _ => rfl)))
(pss_one (ps_ret (pe_tup (pa_cons (pe_ix ix_tup (pv 2) pe_int (fun _ _ => rfl)) (pa_cons (pe_ix ix_tup (pv 2) pe_int (fun _ _ => rfl)) pa_nil)))))), go h ?_⟩
  clear hu hu16 hr h
  rintro l M k ⟨F, m, n, v, rfl, so, hv, hk⟩
  refine sw_seq <| sw_asg <| ev_op <| ev_meth <| ev_frzI <| ev_make <| av_cons <| ev_var rfl <| av_nil fun x hx => ⟨x, F, m, n, rfl, MH.set_same, so, fun M1 h1 kp => ⟨rfl, x, C, _, _, rfl, h1, flN, _, rfl, ne_b (by decide +kernel) (by decide +kernel), ?_⟩⟩
  refine av_cons <| ev_tup <| av_cons <| ev_tup <| av_cons <| ev_int <| av_cons <| ev_int <| av_cons <| ev_int <| av_nil ⟨l3, av_cons <| ev_int <| av_nil ⟨l2, av_cons <| ev_var rfl <| av_nil ⟨F, m, n, st0 0 0, v, rfl, so, ok0 so so.n0 (by decide) (fun _ => rfl), hv, ?_⟩⟩⟩
  refine ev_int <| rd_ixT at0 <| gv_name ?_
  exact sw_ret <| ev_tup <| av_cons <| ev_op <| ev_var rfl <| ev_int <| rd_ixT at0 <| av_cons <| ev_op <| ev_var rfl <| ev_int <| rd_ixT at1 <| av_nil ⟨l2, hk _ (fresh_keep hx kp)⟩
theorem ok_law_stepped {f C mv : Addr} {fd : FuncData} {tk1 tk2 : Tok} (F : Fun K "_law_stepped" "_law_stepped" s_law_stepped f fd) (T : Bi mg)  : FnOk P w K mg base CX0 1 f fd ["moves", "standing", "letter"] (SpD K w spStepped) := by
  refine F.ok sc_law_stepped (fun vs H Q E h => SpD.len (n := 3) (spStepped_len) h) (fun cdv A outer s H vs Q E hr h => ?_)
  have hu := hu_of hr
  have hu16 := hu16_of hr
  refine ⟨_, (pss_cons (ps_asg (pv 1) (pg_tup (by rfl) (pgs_cons (pg_name (i := 3) sc_law_stepped.nd rfl (Or.inl rfl)) (pgs_cons (pg_name (i := 4) sc_law_stepped.nd rfl (Or.inl rfl)) pgs_nil))))
(pss_cons (ps_asg (pe_nget hu16 (pv 0) (pe_tup (pa_cons (pv 2) (pa_cons (pe_ix ix_tup (pv 3) pe_int (fun _ _ => rfl)) pa_nil))) (fun _ _ => rfl)) (pg_tup (by rfl) (pgs_cons (pg_name (i := 5) sc_law_stepped.nd rfl (Or.inl rfl)) (pgs_cons (pg_name (i := 6) sc_law_stepped.nd rfl (Or.inl rfl)) pgs_nil))))
(pss_one (ps_ret (pe_tup (pa_cons (pe_tup (pa_cons (pe_op op_add (pe_ix ix_tup (pv 3) pe_int (fun _ _ => rfl)) (pe_ix ix_tup (pv 5) pe_int (fun _ _ => rfl))) (pa_cons (pe_op op_add (pe_ix ix_tup (pv 3) pe_int (fun _ _ => rfl)) (pe_ix ix_tup (pv 5) pe_int (fun _ _ => rfl))) (pa_cons (pe_ix ix_tup (pv 5) pe_int (fun _ _ => rfl)) pa_nil)))) (pa_cons (pe_ix ix_tup (pv 6) (pv 4) (fun _ _ => rfl)) pa_nil))))))), go h ?_⟩
  clear hu hu16 hr h
  rintro l M k ⟨F, m, n, f, ⟨x, y, kk, s⟩, i, rfl, so, mo, ok, hi, hk⟩
  obtain ⟨kvs, h1, h2⟩ := mo.ex
  have hs : s < n := ok.s
  refine sw_seq <| sw_asg <| ev_var rfl <| gv_tup rfl <| gvs_cons <| gv_name <| gvs_cons <| gv_name <| gvs_nil ?_
  refine sw_seq <| sw_asg <| ev_nget <| ev_var rfl <| ev_tup <| av_cons <| ev_var rfl <| av_cons <| ev_op <| ev_var rfl <| ev_int <| rd_ixT at2 <| av_nil ⟨l2, f, kvs, [.text (lS m i), .num (kk : Nat)], mvD F m n i kk, rfl, h1, rfl, mkK_depth m i kk, h2 i kk hi ok.k ok.k4, ?_⟩
  refine gv_tup rfl <| gvs_cons <| gv_name <| gvs_cons <| gv_name <| gvs_nil ?_
  have hat : atI ((List.range n).map fun s => nD (itr (bh F) (bk m i) (tw (itr (bh F) i s)))) ((s : Nat) : Int) = some (nD (itr (bh F) (bk m i) (tw (itr (bh F) i s)))) := atI_nat (by rw [List.getElem?_map, List.getElem?_range hs]; rfl)
  refine sw_ret <| ev_tup <| av_cons <| ev_tup <| av_cons <| ev_op <| ev_op <| ev_var rfl <| ev_int <| rd_ixT at0 <| ev_op <| ev_var rfl <| ev_int <| rd_ixT at0 <| rd_int <| av_cons <| ev_op <| ev_op <| ev_var rfl <| ev_int <| rd_ixT at1 <| ev_op <| ev_var rfl <| ev_int <| rd_ixT at1 <| rd_int <| av_cons <| ev_op <| ev_var rfl <| ev_int <| rd_ixT at2 <| av_nil ⟨l3, ?_⟩
  exact av_cons <| ev_op <| ev_var rfl <| ev_var rfl <| rd_ixT hat <| av_nil ⟨l2, hk⟩
theorem ok_law_run {f C mv : Addr} {fd : FuncData} {tk1 tk2 : Tok} (F : Fun K "_law_run" "_law_run" s_law_run f fd) (T : Bi mg) (c_law_stepped : Cal P w K mg base "_law_stepped" 1 ["moves", "standing", "letter"] spStepped) : FnOk P w K mg base CX0 2 f fd ["moves", "standing", "word"] (SpD K w spLRun) := by
  refine F.ok sc_law_run (fun vs H Q E h => SpD.len (n := 3) (spLRun_len) h) (fun cdv A outer s H vs Q E hr h => ?_)
  have hu := hu_of hr
  have hu16 := hu16_of hr
  refine ⟨_, (pss_cons (ps_for PassesOwn.never rfl (pi_str (pv 2)) (pg_name (i := 3) sc_law_run.nd rfl (Or.inl rfl))
(pss_one (ps_set (i := 1) sc_law_run.nd rfl (Or.inl rfl) (pe_cal c_law_stepped (hr.mono (by decide)) (by rfl) (pa_cons (pv 0) (pa_cons (pv 1) (pa_cons (pv 3) pa_nil)))))))
(pss_one (ps_ret (pv 1)))), go h ?_⟩
  clear hu hu16 hr h
  rintro l M k ⟨F, m, n, f, t, v, rfl, so, mo, ok, hv, hk⟩
  refine sw_seq <| sw_for <| iv_str <| ev_var rfl ⟨_, rfl, ?_⟩
  rw [wS_signs]
  refine FP.start (fun i ds M' => ∃ o : Option D, ds = [some (.adr f), some (stD (runW m (bh F) t (v.take i))), some (.str (wS m v)), o] ∧ M' = M) ⟨none, rfl, rfl⟩ ?_ ?_
  · rintro j d ds M1 hj ⟨o, rfl, rfl⟩
    rw [List.getElem?_map] at hj
    obtain ⟨i, hi, rfl⟩ := Option.map_eq_some_iff.mp hj
    have hi2 := hv i (List.mem_of_getElem? hi)
    refine gv_name <| sw_asg <| ev_call <| av_cons <| ev_var rfl <| av_cons <| ev_var rfl <| av_cons <| ev_var rfl <| av_nil ⟨F, m, n, f, _, i, rfl, so, mo, runW_ok so _ ok, hi2, gv_name ?_⟩
    refine ⟨some (.str (lS m i)), ?_, rfl⟩
    rw [List.take_succ, hi, runW_app]; rfl
  · rintro ds M1 ⟨o, rfl, rfl⟩
    rw [List.length_map, List.take_length]
    exact sw_ret <| ev_var rfl hk
end
end WK

set_option Elab.async false
set_option linter.all false
set_option maxRecDepth 100000
set_option maxHeartbeats 4000000
namespace WK
open PySem PySem.Spec PyProof.Rows L2 Evl PL
def backKV : List (L2.Key × D) := [(.inr "E", .int 2), (.inr "N", .int 1), (.inr "W", .int 0), (.inr "S", .int 3), (.inr "a", .int 0), (.inr "b", .int 2), (.inr "c", .int 1)]
def backT : List (Str × Int) := [("E", 2), ("N", 1), ("W", 0), ("S", 3), ("a", 0), ("b", 2), ("c", 1)]
theorem backKV_eq : backKV = backT.map fun x => ((Sum.inr x.1 : L2.Key), D.int x.2) := rfl
theorem valM_ints (z : Str) : ∀ l : List (Str × Int), valM (l.map fun x => ((Sum.inr x.1 : L2.Key), D.int x.2)) (Sum.inr z) = (l.lookup z).map D.int
  | [] => rfl
  | x :: r => by
    rw [List.map_cons, valM_cons, List.lookup_cons]
    by_cases e : x.1 = z
    · subst e; simp
    · rw [if_neg (fun h => e (by injection h)), beq_eq_false_iff_ne.mpr fun h => e h.symm]
      exact valM_ints z r
theorem backKV_val {m i : Nat} (hm : m = 3 ∨ m = 4) (hi : i < m) : valM backKV (.inr (lS m i)) = some (nD (bk m i)) := by
  rw [backKV_eq, valM_ints]
  have : backT.lookup (lS m i) = some ((bk m i : Nat) : Int) := by
    rcases hm with e | e <;> subst e
    · rcases (show i = 0 ∨ i = 1 ∨ i = 2 by omega) with e | e | e <;> subst e <;> decide +kernel
    · rcases (show i = 0 ∨ i = 1 ∨ i = 2 ∨ i = 3 by omega) with e | e | e | e <;> subst e <;> decide +kernel
  rw [this]; rfl
theorem backKV_nodup : (backKV.map (·.1)).Nodup := by
  have : (backT.map (·.1)).Nodup := by decide +kernel
  rw [backKV_eq, List.map_map]
  have h := List.pairwise_map.mp this
  exact List.pairwise_map.mpr (h.imp fun h e => h (by injection e))
def p4 : List (Nat × Nat) := [(0, 0), (1, 0), (2, 0), (3, 0)]
def p3 : List (Nat × Nat) := [(0, 0), (0, 1), (1, 0), (1, 1), (2, 0), (2, 1)]
def pM (m : Nat) : List (Nat × Nat) := if m = 4 then p4 else p3
theorem pM_lt {m : Nat} (hm : m = 3 ∨ m = 4) : ∀ x ∈ pM m, x.1 < m := by
  rcases hm with e | e <;> subst e <;> decide
theorem kvM_nodup {m : Nat} (hm : m = 3 ∨ m = 4) (g : Nat → Nat → D) {l : List (Nat × Nat)} (hl : ∀ x ∈ l, x.1 < m) (nd : l.Nodup) : ((kvM m g l).map (·.1)).Nodup := by
  unfold kvM
  rw [List.map_map]
  refine List.pairwise_map.mpr ?_
  refine List.Pairwise.imp_of_mem (fun {a b} ha hb h e => h ?_) nd
  obtain ⟨h1, h2⟩ := mkK_inj hm (hl a ha) (hl b hb) e
  exact Prod.ext h1 h2
abbrev s_law_moves : Stmt := top 31
abbrev N_law_moves : List Str := ["solid", "behind", "many", "letters", "shifts", "back", "found", "at", "letter", "sides", "side", "lap", "last"]
theorem sc_law_moves : FnScope N_law_moves ["solid"] (defScope s_law_moves) := ⟨rfl, rfl, rfl, by decide +kernel, rfl, by decide +kernel, by decide +kernel⟩
section
variable {P : Program} {w : World} {K : PySem.W.Frag} {mg : Str → Option Value} {base : Heap}
theorem ok_law_moves {f C mv : Addr} {fd : FuncData} {tk1 tk2 : Tok} (F : Fun K "_law_moves" "_law_moves" s_law_moves f fd) (T : Bi mg) (c_law_behinds : Cal P w K mg base "_law_behinds" 1 ["sheet"] spBeh) (c_law_twin : Cal P w K mg base "_law_twin" 1 ["side"] spTwin) : FnOk P w K mg base CX0 2 f fd ["solid"] (SpD K w spMoves) := by
  refine F.ok sc_law_moves (fun vs H Q E h => SpD.len (n := 1) (spMoves_len) h) (fun cdv A outer s H vs Q E hr h => ?_)
  have hu := hu_of hr
  have hu16 := hu16_of hr
  refine ⟨_, (pss_cons (ps_set (i := 1) sc_law_moves.nd rfl (Or.inl rfl) (pe_cal c_law_behinds (hr.mono (by decide)) (by rfl) (pa_cons (pv 0) pa_nil)))
(pss_cons (ps_set (i := 2) sc_law_moves.nd rfl (Or.inl rfl) (pe_callB call_lenD (by rfl) T.len (by decide +kernel) (pa_cons (pv 1) pa_nil)))
(pss_cons (ps_set (i := 3) sc_law_moves.nd rfl (Or.inl rfl) (pe_ifExp (pt_cmpR op_eq (pe_callB cb_len (by rfl) T.len (by decide +kernel) (pa_cons (pe_ix ix_tup (pv 0) pe_int (fun _ _ => rfl)) pa_nil)) pe_int (nomark _)) pe_str pe_str))
(pss_cons (ps_set (i := 4) sc_law_moves.nd rfl (Or.inl rfl) (pe_ndisp hu16 (pps_cons (pe_tup (pa_cons pe_str (pa_cons pe_int pa_nil))) (pe_tup (pa_cons pe_int (pa_cons pe_int (pa_cons pe_int pa_nil)))) (pps_cons (pe_tup (pa_cons pe_str (pa_cons pe_int pa_nil))) (pe_tup (pa_cons pe_int (pa_cons pe_int (pa_cons pe_int pa_nil)))) (pps_cons (pe_tup (pa_cons pe_str (pa_cons pe_int pa_nil))) (pe_tup (pa_cons (pe_un un_neg pe_int) (pa_cons pe_int (pa_cons pe_int pa_nil)))) (pps_cons (pe_tup (pa_cons pe_str (pa_cons pe_int pa_nil))) (pe_tup (pa_cons pe_int (pa_cons (pe_un un_neg pe_int) (pa_cons pe_int pa_nil)))) pps_nil)))) (by rfl) (by rfl) (fun z => by cases z) (by decide)))
(pss_cons (ps_if (pt_cmpR op_eq (pv 3) pe_str (nomark _))
(pss_one (ps_set (i := 4) sc_law_moves.nd rfl (Or.inl rfl) (pe_ndisp hu16 (pps_cons (pe_tup (pa_cons pe_str (pa_cons pe_int pa_nil))) (pe_tup (pa_cons pe_int (pa_cons pe_int (pa_cons pe_int pa_nil)))) (pps_cons (pe_tup (pa_cons pe_str (pa_cons pe_int pa_nil))) (pe_tup (pa_cons pe_int (pa_cons pe_int (pa_cons pe_int pa_nil)))) (pps_cons (pe_tup (pa_cons pe_str (pa_cons pe_int pa_nil))) (pe_tup (pa_cons (pe_un un_neg pe_int) (pa_cons pe_int (pa_cons pe_int pa_nil)))) (pps_cons (pe_tup (pa_cons pe_str (pa_cons pe_int pa_nil))) (pe_tup (pa_cons pe_int (pa_cons pe_int (pa_cons pe_int pa_nil)))) (pps_cons (pe_tup (pa_cons pe_str (pa_cons pe_int pa_nil))) (pe_tup (pa_cons pe_int (pa_cons (pe_un un_neg pe_int) (pa_cons pe_int pa_nil)))) (pps_cons (pe_tup (pa_cons pe_str (pa_cons pe_int pa_nil))) (pe_tup (pa_cons pe_int (pa_cons pe_int (pa_cons pe_int pa_nil)))) pps_nil)))))) (by rfl) (by rfl) (fun z => by cases z) (by decide))))
pss_nil)
(pss_cons (ps_set (i := 5) sc_law_moves.nd rfl (Or.inl rfl) (pe_disp (pps_cons pe_str pe_int (pps_cons pe_str pe_int (pps_cons pe_str pe_int (pps_cons pe_str pe_int (pps_cons pe_str pe_int (pps_cons pe_str pe_int (pps_cons pe_str pe_int pps_nil))))))) (by rfl) (by rfl) (fun z => by cases z) (by decide)))
(pss_cons (ps_set (i := 6) sc_law_moves.nd rfl (Or.inl rfl) pe_nnew)
(pss_cons (ps_for PassesOwn.never rfl (pi_enumS (by rfl) T.enumerate (pa_cons (pv 3) pa_nil)) (pg_tup (by rfl) (pgs_cons (pg_name (i := 7) sc_law_moves.nd rfl (Or.inl rfl)) (pgs_cons (pg_name (i := 8) sc_law_moves.nd rfl (Or.inl rfl)) pgs_nil)))
(pss_cons (ps_set (i := 9) sc_law_moves.nd rfl (Or.inl rfl) (pe_lst pa_nil))
(pss_cons (ps_for PassesOwn.never rfl (pi_range1 (by rfl) T.range (pa_cons (pv 2) pa_nil)) (pg_name (i := 10) sc_law_moves.nd rfl (Or.inl rfl))
(pss_cons (ps_for PassesOwn.never rfl (pi_range1 (by rfl) T.range (pa_cons (pv 7) pa_nil)) (pg_name (i := 11) sc_law_moves.nd rfl (Or.inl rfl))
(pss_one (ps_set (i := 10) sc_law_moves.nd rfl (Or.inl rfl) (pe_dget hu (pv 1) (pv 10) (fun _ _ => rfl)))))
(pss_cons (ps_set (i := 10) sc_law_moves.nd rfl (Or.inl rfl) (pe_cal c_law_twin (hr.mono (by decide)) (by rfl) (pa_cons (pv 10) pa_nil)))
(pss_cons (ps_for PassesOwn.never rfl (pi_range1 (by rfl) T.range (pa_cons (pe_dget hu (pv 5) (pv 8) (fun _ _ => rfl)) pa_nil)) (pg_name (i := 11) sc_law_moves.nd rfl (Or.inl rfl))
(pss_one (ps_set (i := 10) sc_law_moves.nd rfl (Or.inl rfl) (pe_dget hu (pv 1) (pv 10) (fun _ _ => rfl)))))
(pss_one (ps_expr (pe_bm PySem.F.plainAttrs_list PySem.F.slot_list_append PySem.F.type_list_append mt_append (pv 9) (pa_cons (pv 10) pa_nil))))))))
(pss_one (ps_for PassesOwn.never rfl (pi_tup (pe_tup (pa_cons pe_int (pa_cons pe_int pa_nil)))) (pg_name (i := 12) sc_law_moves.nd rfl (Or.inl rfl))
(pss_one (ps_if (pt_cmpR (op_nin hu16) (pe_tup (pa_cons (pv 8) (pa_cons (pv 12) pa_nil))) (pv 4) (by rfl))
(pss_one (ps_asg (pe_tup (pa_cons (pe_nget hu16 (pv 4) (pe_tup (pa_cons (pv 8) (pa_cons (pv 12) pa_nil))) (fun _ _ => rfl)) (pa_cons (pe_callTy cb_tuple (by rfl) T.tuple (by decide +kernel) (pa_cons (pv 9) pa_nil)) pa_nil))) (pg_sub (pv 6) (pe_tup (pa_cons (pv 8) (pa_cons (pv 12) pa_nil))) (set_nd hu16))))
pss_nil)))))))
(pss_one (ps_ret (pv 6))))))))))), go h ?_⟩
  clear hu hu16 hr h
  rintro l M k ⟨F, m, n, rfl, so, hk⟩
  have hm := so.m34
  have n64 := so.n64
  have hbl : (kvN (bp F)).length = n := by
    have := congrArg List.length (bp_fst F)
    rw [List.length_map, so.perm.length_eq, List.length_range] at this
    unfold kvN; rw [List.length_map]; exact this
  obtain ⟨f0, hf0⟩ : ∃ f, F[0]? = some f := by
    cases F with
    | nil =>
      have h1 := so.perm.length_eq
      rw [List.length_range] at h1
      have := so.n0
      simp at h1; omega
    | cons f r => exact ⟨f, rfl⟩
  have hfl : f0.length = m := so.sz f0 (List.mem_of_getElem? hf0)
  have hsol0 : atI (F.map fun f => D.tup (f.map nD)) 0 = some (.tup (f0.map nD)) := atI_nat (j := 0) (by rw [List.getElem?_map, hf0]; rfl)
  refine sw_seq <| sw_asg <| ev_call <| av_cons <| ev_var rfl <| av_nil ⟨F, m, n, rfl, so, fun M1 kp1 => gv_name ?_⟩
  refine sw_seq <| sw_asg <| ev_cb <| av_cons <| ev_var rfl <| av_nil <| ra_lenD (kvs := kvN (bp F)) .f <| gv_name ?_
  rw [hbl]
  refine sw_seq <| sw_asg <| EV.mono (k := fun d M' => d = .str (ltS m) ∧ M' = M1) ?_ ?_
  · refine ev_if <| tv_test <| ev_op <| ev_cb <| av_cons <| ev_op <| ev_var rfl <| ev_int <| rd_ixT (l := F.map fun f => D.tup (f.map nD)) hsol0 <| av_nil <| ra_lenT <| ev_int <| rd_eqI ⟨_, rfl, ifd (fun h => ?_) (fun h => ?_)⟩
    · rw [List.length_map, hfl] at h
      have : m = 4 := by omega
      subst this
      exact ev_str ⟨rfl, rfl⟩
    · rw [List.length_map, hfl] at h
      have : m = 3 := by omega
      subst this
      exact ev_str ⟨rfl, rfl⟩
  rintro d M1' ⟨rfl, rfl⟩
  refine gv_name ?_
  refine sw_seq <| sw_asg ?_
  refine ev_ndisp ?_
  repeat (first | (refine ev_tup ?_) | (refine av_cons ?_) | (refine ev_str ?_) | (refine ev_un ?_) | (refine ru_neg ?_) | (refine ev_int ?_) | (refine av_nil ⟨sl (by decide), ?_⟩))
  refine ⟨kvM 4 (shD 4) p4, rfl, by decide, kvM_nodup (.inr rfl) _ (by decide) (by decide), fun x hx => ?_, fun d1 hd1 => gv_name ?_⟩
  · obtain ⟨y, _, rfl⟩ := List.mem_map.mp hx
    exact ⟨⟨_, rfl⟩, mkK_depth _ _ _⟩
  have kd1 : Keep M (M1'.set d1 (.dn (kvM 4 (shD 4) p4))) := kp1.set (kp1.none hd1)
  refine sw_seq ?_
  refine SW.mono (k := { nx := fun ds' M' => ∃ d2, ds' = [some (solidD F), some (kvD (bp F)), some (nD n), some (.str (ltS m)), some (.adr d2), none, none, none, none, none, none, none, none] ∧ M' d2 = some (.dn (kvM m (shD m) (pM m))) ∧ Keep M M', rt := fun _ _ => False }) ?_ ?_ (fun _ _ z => z.elim) (fun _ _ z => z.elim) (fun _ _ z => z.elim)
  · refine sw_if <| tv_test <| ev_op <| ev_var rfl <| ev_str <| rd_eqS ⟨_, rfl, ifd (fun h => ?_) (fun h => sw_next ?_)⟩
    · have : m = 3 := by
        rcases hm with e | e
        · exact e
        · subst e; exact absurd h (by decide +kernel)
      subst this
      refine sw_asg ?_
      refine ev_ndisp ?_
      repeat (first | (refine ev_tup ?_) | (refine av_cons ?_) | (refine ev_str ?_) | (refine ev_un ?_) | (refine ru_neg ?_) | (refine ev_int ?_) | (refine av_nil ⟨sl (by decide), ?_⟩))
      refine ⟨kvM 3 (shD 3) p3, rfl, by decide, kvM_nodup (.inl rfl) _ (by decide) (by decide), fun x hx => ?_, fun d2 hd2 => gv_name ?_⟩
      · obtain ⟨y, _, rfl⟩ := List.mem_map.mp hx
        exact ⟨⟨_, rfl⟩, mkK_depth _ _ _⟩
      · exact ⟨d2, rfl, MH.set_same, kd1.set (kd1.none hd2)⟩
    · have : m = 4 := by
        rcases hm with e | e
        · subst e; exact absurd rfl h
        · exact e
      subst this
      exact ⟨d1, rfl, MH.set_same, kd1⟩
  rintro ds M2 ⟨d2, rfl, hd2, kp2⟩
  refine sw_seq <| sw_asg ?_
  refine ev_disp ?_
  repeat (first | (refine ev_str ?_) | (refine ev_int ?_))
  refine ⟨backKV, rfl, (show 7 ≤ 15 by decide), backKV_nodup, gv_name ?_⟩
  refine sw_seq <| sw_asg <| ev_nnew fun f hf => gv_name ?_
  have hf0 := kp2.none hf
  have nfd : f ≠ d2 := fun z => by subst z; rw [hf] at hd2; cases hd2
  have hlt : ∀ c, c ≤ m → ∀ x ∈ allp m c, x.1 < m := fun c hc x hx => by
    obtain ⟨i, a⟩ := x
    have := (allp_mem.mp hx).1
    show i < m
    omega
  refine sw_seq <| sw_for <| iv_enumS <| av_cons <| ev_var rfl <| av_nil ⟨_, rfl, ?_⟩
  rw [ltS_w hm, wS_signs]
  refine FP.start (fun i ds M' => ∃ o1 o2 o3 o4 o5 o6 : Option D, ds = [some (solidD F), some (kvD (bp F)), some (nD n), some (.str (ltS m)), some (.adr d2), some (.dk (backKV.map (·.1)) (backKV.map (·.2))), some (.adr f), o1, o2, o3, o4, o5, o6] ∧ M' f = some (.dn (kvM m (mvD F m n) (allp m i))) ∧ M' d2 = some (.dn (kvM m (shD m) (pM m))) ∧ Keep M M') ⟨none, none, none, none, none, none, by rw [ltS_w hm]; rfl, MH.set_same, by rw [MH.set_ne nfd.symm]; exact hd2, kp2.set hf0⟩ ?_ ?_
  · rintro i d ds M3 hi ⟨o1, o2, o3, o4, o5, o6, rfl, h1, h2, kp3⟩
    unfold enumD at hi
    rw [List.getElem?_mapIdx, List.getElem?_map] at hi
    obtain ⟨d', hd', rfl⟩ := Option.map_eq_some_iff.mp hi
    obtain ⟨i', hi', rfl⟩ := Option.map_eq_some_iff.mp hd'
    have him : i < m := by
      have := (List.getElem?_eq_some_iff.mp hi').1
      rw [List.length_range] at this; exact this
    have : i' = i := by rw [List.getElem?_range him] at hi'; exact (Option.some.inj hi').symm
    subst this
    have hbk4 : bk m i' < 4 := by rw [bk_eq m i' hm him]; exact Nat.lt_of_lt_of_le (Nat.mod_lt _ (by omega)) (by omega)
    refine gv_tup rfl <| gvs_cons <| gv_name <| gvs_cons <| gv_name <| gvs_nil ?_
    refine sw_seq <| sw_asg <| ev_lstM <| av_nil ⟨Nat.zero_le _, fun a ha => gv_name ?_⟩
    have ha0 := kp3.none ha
    have nad : a ≠ d2 := fun z => by subst z; rw [ha] at h2; cases h2
    have naf : a ≠ f := fun z => by subst z; rw [ha] at h1; cases h1
    refine sw_seq <| sw_for <| iv_range1 <| av_cons <| ev_var rfl <| av_nil ⟨_, rfl, by omega, by omega, FP.start (fun t ds M' => ∃ o4 o5 o6 : Option D, ds = [some (solidD F), some (kvD (bp F)), some (nD n), some (.str (ltS m)), some (.adr d2), some (.dk (backKV.map (·.1)) (backKV.map (·.2))), some (.adr f), some (nD i'), some (.str (lS m i')), some (.adr a), o4, o5, o6] ∧ M' a = some (.lst ((List.range t).map fun s => nD (itr (bh F) (bk m i') (tw (itr (bh F) i' s))))) ∧ M' f = some (.dn (kvM m (mvD F m n) (allp m i'))) ∧ M' d2 = some (.dn (kvM m (shD m) (pM m))) ∧ Keep M M') ⟨o4, o5, o6, rfl, MH.set_same, by rw [MH.set_ne naf.symm]; exact h1, by rw [MH.set_ne nad.symm]; exact h2, kp3.set ha0⟩ ?_ ?_⟩
    · rintro s d ds M4 hs ⟨o4, o5, o6, rfl, g0, g1, g2, kp4⟩
      obtain ⟨hsn, rfl⟩ := rgD_in hs
      have hsn : s < n := by omega
      rw [Int.zero_add]
      refine gv_name ?_
      have inner : ∀ (c u : Nat), c < 1000 → u < n → ∀ (o : Option D) (ks : KS), (∀ o', ks.nx [some (solidD F), some (kvD (bp F)), some (nD n), some (.str (ltS m)), some (.adr d2), some (.dk (backKV.map (·.1)) (backKV.map (·.2))), some (.adr f), some (nD i'), some (.str (lS m i')), some (.adr a), some (nD (itr (bh F) c u)), o', o6] M4) →
          FP K w (gName 11) (tAsg (tDGet (tVar 1) (tVar 10)) (gName 10)) ks (rgD 0 c) [some (solidD F), some (kvD (bp F)), some (nD n), some (.str (ltS m)), some (.adr d2), some (.dk (backKV.map (·.1)) (backKV.map (·.2))), some (.adr f), some (nD i'), some (.str (lS m i')), some (.adr a), some (nD u), o, o6] M4 := by
        intro c u hc hu o ks hk
        refine FP.start (fun j ds M' => ∃ o', ds = [some (solidD F), some (kvD (bp F)), some (nD n), some (.str (ltS m)), some (.adr d2), some (.dk (backKV.map (·.1)) (backKV.map (·.2))), some (.adr f), some (nD i'), some (.str (lS m i')), some (.adr a), some (nD (itr (bh F) j u)), o', o6] ∧ M' = M4) ⟨o, rfl, rfl⟩ ?_ ?_
        · rintro j d ds M5 hj ⟨o', rfl, rfl⟩
          have hmem : itr (bh F) j u ∈ (bp F).map (·.1) := by rw [bp_fst]; exact so.mem.mpr (bhi_lt so hu j)
          refine gv_name <| sw_asg <| ev_dget <| ev_var rfl <| ev_var rfl ⟨kvN (bp F), kN (itr (bh F) j u), _, .f, rfl, kvN_val hmem, gv_name ?_⟩
          exact ⟨some d, by rw [itr_succ]; rfl, rfl⟩
        · rintro ds M5 ⟨o', rfl, rfl⟩
          rw [rgD_len]; exact hk o'
      refine sw_seq <| sw_for <| iv_range1 <| av_cons <| ev_var rfl <| av_nil ⟨_, rfl, by omega, by omega, ?_⟩
      rw [Int.toNat_natCast]
      refine inner i' s (by omega) hsn o5 _ fun o' => ?_
      refine sw_seq <| sw_asg <| ev_call <| av_cons <| ev_var rfl <| av_nil ⟨_, rfl, gv_name ?_⟩
      have hu : tw (itr (bh F) i' s) < n := tw_lt so.ev (bhi_lt so hsn i')
      refine sw_seq <| sw_for <| iv_range1 <| av_cons <| ev_dget <| ev_var rfl <| ev_var rfl ⟨backKV, .inr (lS m i'), _, .f, rfl, backKV_val hm him, av_nil ⟨_, rfl, by omega, by omega, ?_⟩⟩
      rw [Int.toNat_natCast]
      refine inner (bk m i') (tw (itr (bh F) i' s)) (by omega) hu o' _ fun o'' => ?_
      refine sw_drop <| ev_bm <| ev_var rfl ⟨tyd_adr g0, av_cons <| ev_var rfl <| av_nil <| rm_append g0 (by rw [List.length_map, List.length_range]; exact sl' (by omega)) ?_⟩
      refine ⟨_, _, _, rfl, ?_, ?_, ?_, kp4.set ha0⟩
      · rw [MH.set_same, List.range_succ, List.map_append]; rfl
      · rw [MH.set_ne naf.symm]; exact g1
      · rw [MH.set_ne nad.symm]; exact g2
    · rintro ds M4 ⟨o4, o5, o6, rfl, g0, g1, g2, kp4⟩
      rw [rgD_len, Int.toNat_natCast] at g0
      refine sw_for <| iv_tup <| ev_tup <| av_cons <| ev_int <| av_cons <| ev_int <| av_nil ⟨l2, _, rfl, ?_⟩
      have m01 : (i', 0) ∈ pM m ∧ ((i', 1) ∈ pM m ↔ m = 3) := by
        rcases hm with e | e <;> subst e
        · rcases (show i' = 0 ∨ i' = 1 ∨ i' = 2 by omega) with e | e | e <;> subst e <;> decide
        · rcases (show i' = 0 ∨ i' = 1 ∨ i' = 2 ∨ i' = 3 by omega) with e | e | e | e <;> subst e <;> decide
      have sv : ∀ b, (i', b) ∈ pM m → valM (kvM m (shD m) (pM m)) (mkK m i' b) = some (shD m i' b) := fun b hb => by rw [kvM_val hm _ him _ (pM_lt hm), if_pos hb]
      have n0 : (i', 0) ∉ allp m i' := fun z => Nat.lt_irrefl _ (allp_mem.mp z).1
      have n1 : (i', 1) ∉ allp m i' ++ [(i', 0)] := fun z => by
        rcases List.mem_append.mp z with z | z
        · exact Nat.lt_irrefl _ (allp_mem.mp z).1
        · simp at z
      have lt0 := hlt i' (by omega)
      have lt1 : ∀ x ∈ allp m i' ++ [(i', 0)], x.1 < m := fun x hx => by
        rcases List.mem_append.mp hx with z | z
        · exact lt0 x z
        · rw [List.mem_singleton.mp z]; exact him
      have hal : (allp m i').length ≤ 8 := by
        rcases hm with e | e <;> subst e
        · rcases (show i' = 0 ∨ i' = 1 ∨ i' = 2 by omega) with e | e | e <;> subst e <;> decide
        · rcases (show i' = 0 ∨ i' = 1 ∨ i' = 2 ∨ i' = 3 by omega) with e | e | e | e <;> subst e <;> decide
      have eap : allp m (i' + 1) = allp m i' ++ (lasts m).map fun a => (i', a) := by unfold allp; rw [List.range_succ, List.flatMap_append]; simp
      refine gv_name <| sw_if <| tv_test <| ev_op <| ev_tup <| av_cons <| ev_var rfl <| av_cons <| ev_var rfl <| av_nil ⟨l2, ev_var rfl <| rd_nin (kk := [.text (lS m i'), .num ((0 : Nat) : Int)]) rfl g2 (mkK_depth m i' 0) ⟨_, rfl, ?_⟩⟩
      refine ift (by have := sv 0 m01.1; exact (congrArg Option.isSome this).trans rfl) ?_
      refine sw_asg <| ev_tup <| av_cons <| ev_nget <| ev_var rfl <| ev_tup <| av_cons <| ev_var rfl <| av_cons <| ev_var rfl <| av_nil ⟨l2, d2, _, [.text (lS m i'), .num ((0 : Nat) : Int)], shD m i' 0, rfl, g2, rfl, mkK_depth m i' 0, sv 0 m01.1, av_cons <| ev_cb <| av_cons <| ev_var rfl <| av_nil <| ra_tuple (.m g0) <| av_nil ⟨l2, gv_sub <| ev_var rfl <| ev_tup <| av_cons <| ev_var rfl <| av_cons <| ev_var rfl <| av_nil ⟨l2, rs_dn (kk := [.text (lS m i'), .num ((0 : Nat) : Int)]) rfl g1 (mkK_depth m i' 0) (by unfold kvM; rw [List.length_map]; exact sl (by omega)) ?_⟩⟩⟩
      have e0 : putM (kvM m (mvD F m n) (allp m i')) (mkK m i' 0) (.tup [shD m i' 0, .tup ((List.range n).map fun s => nD (itr (bh F) (bk m i') (tw (itr (bh F) i' s))))]) = kvM m (mvD F m n) (allp m i' ++ [(i', 0)]) := kvM_put hm _ him lt0 n0
      have e0' : putM (kvM m (mvD F m n) (allp m i')) (.tup [.text (lS m i'), .num ((0 : Nat) : Int)]) (.tup [shD m i' 0, .tup ((List.range n).map fun s => nD (itr (bh F) (bk m i') (tw (itr (bh F) i' s))))]) = kvM m (mvD F m n) (allp m i' ++ [(i', 0)]) := e0
      rw [e0']
      have g2' : (M4.set f (.dn (kvM m (mvD F m n) (allp m i' ++ [(i', 0)])))) d2 = some (.dn (kvM m (shD m) (pM m))) := by rw [MH.set_ne nfd.symm]; exact g2
      have g0' : (M4.set f (.dn (kvM m (mvD F m n) (allp m i' ++ [(i', 0)])))) a = some (.lst ((List.range n).map fun s => nD (itr (bh F) (bk m i') (tw (itr (bh F) i' s))))) := by rw [MH.set_ne naf]; exact g0
      refine gv_name <| sw_if <| tv_test <| ev_op <| ev_tup <| av_cons <| ev_var rfl <| av_cons <| ev_var rfl <| av_nil ⟨l2, ev_var rfl <| rd_nin (kk := [.text (lS m i'), .num ((1 : Nat) : Int)]) rfl g2' (mkK_depth m i' 1) ⟨_, rfl, ?_⟩⟩
      by_cases h3 : m = 3
      · have h1p := m01.2.mpr h3
        refine ift (by have := sv 1 h1p; exact (congrArg Option.isSome this).trans rfl) ?_
        refine sw_asg <| ev_tup <| av_cons <| ev_nget <| ev_var rfl <| ev_tup <| av_cons <| ev_var rfl <| av_cons <| ev_var rfl <| av_nil ⟨l2, d2, _, [.text (lS m i'), .num ((1 : Nat) : Int)], shD m i' 1, rfl, g2', rfl, mkK_depth m i' 1, sv 1 h1p, av_cons <| ev_cb <| av_cons <| ev_var rfl <| av_nil <| ra_tuple (.m g0') <| av_nil ⟨l2, gv_sub <| ev_var rfl <| ev_tup <| av_cons <| ev_var rfl <| av_cons <| ev_var rfl <| av_nil ⟨l2, rs_dn (kk := [.text (lS m i'), .num ((1 : Nat) : Int)]) rfl MH.set_same (mkK_depth m i' 1) (by unfold kvM; rw [List.length_map, List.length_append]; exact sl (by simp; omega)) ?_⟩⟩⟩
        have e1 : putM (kvM m (mvD F m n) (allp m i' ++ [(i', 0)])) (.tup [.text (lS m i'), .num ((1 : Nat) : Int)]) (.tup [shD m i' 1, .tup ((List.range n).map fun s => nD (itr (bh F) (bk m i') (tw (itr (bh F) i' s))))]) = kvM m (mvD F m n) (allp m i' ++ [(i', 0)] ++ [(i', 1)]) := kvM_put hm _ him lt1 n1
        rw [e1, MH.set_set]
        refine ⟨_, _, _, _, _, _, rfl, ?_, ?_, kp4.set hf0⟩
        · rw [MH.set_same, eap]; unfold lasts; rw [if_neg (by omega), List.append_assoc]; rfl
        · rw [MH.set_ne nfd.symm]; exact g2
      · have h1p : (i', 1) ∉ pM m := fun z => h3 (m01.2.mp z)
        have hn : valM (kvM m (shD m) (pM m)) (mkK m i' 1) = none := by rw [kvM_val hm _ him _ (pM_lt hm), if_neg h1p]
        refine iff' (by exact (congrArg Option.isSome hn).trans rfl) <| sw_next ?_
        refine ⟨_, _, _, _, _, _, rfl, ?_, g2', kp4.set hf0⟩
        rw [MH.set_same, eap]; unfold lasts; rw [if_pos (by omega)]; rfl
  · rintro ds M3 ⟨o1, o2, o3, o4, o5, o6, rfl, h1, h2, kp3⟩
    have e : (enumD ((List.range m).map fun i => D.str (lS m i))).length = m := by unfold enumD; rw [List.length_mapIdx, List.length_map, List.length_range]
    rw [e] at h1
    refine sw_ret <| ev_var rfl <| hk f M3 kp3 ⟨_, h1, fun i a hi ha h4 => ?_⟩
    rw [kvM_val hm _ hi _ (hlt m (Nat.le_refl m)), if_pos (allp_mem.mpr ⟨hi, ?_⟩)]
    unfold lasts
    by_cases e : m = 4
    · rw [if_pos e, h4 e]; simp
    · rw [if_neg e]
      rcases (show a = 0 ∨ a = 1 by omega) with z | z <;> subst z <;> simp
end
end WK

set_option Elab.async false
set_option linter.all false
set_option maxRecDepth 100000
set_option maxHeartbeats 4000000
namespace WK
open PySem PySem.Spec PyProof.Rows L2 Evl PL
/-! ### balls -/
theorem std_eq (t u : Std) : t = u ↔ t.x = u.x ∧ t.y = u.y ∧ t.k = u.k ∧ t.s = u.s := by
  constructor
  · intro e; subst e; exact ⟨rfl, rfl, rfl, rfl⟩
  · rintro ⟨h1, h2, h3, h4⟩
    obtain ⟨x, y, k, s⟩ := t
    obtain ⟨x', y', k', s'⟩ := u
    have h1 : x = x' := h1
    have h2 : y = y' := h2
    have h3 : k = k' := h3
    have h4 : s = s' := h4
    subst h1 h2 h3 h4; rfl
instance : DecidableEq Std := fun t u => decidable_of_iff _ (std_eq t u).symm
def stK (t : Std) : NestedKey := .tup [.tup [.num t.x, .num t.y, .num (t.k : Nat)], .num (t.s : Nat)]
theorem stK_D (t : Std) : keyD (stK t) = stD t := rfl
theorem stK_inj {t u : Std} (h : stK t = stK u) : t = u := by
  injection h with h
  injection h with h1 h2
  injection h1 with h1
  injection h1 with a1 h1
  injection h1 with a2 h1
  injection h1 with a3 h1
  injection h2 with a4 h2
  injection a1 with a1
  injection a2 with a2
  injection a3 with a3
  injection a4 with a4
  exact (std_eq t u).mpr ⟨a1, a2, by omega, by omega⟩
def seenK (l : List Std) : List (NestedKey × D) := l.map fun t => (stK t, .bl true)
theorem seenK_val : ∀ (l : List Std) (g : Std), valM (seenK l) (stK g) = if g ∈ l then some (.bl true) else none
  | [], _ => rfl
  | t :: l, g => by
    show valM ((stK t, D.bl true) :: seenK l) _ = _
    rw [valM_cons, seenK_val l g]
    by_cases e : t = g
    · subst e; rw [if_pos rfl, if_pos List.mem_cons_self]
    · rw [if_neg fun z => e (stK_inj z)]
      by_cases e2 : g ∈ l
      · rw [if_pos e2, if_pos (List.mem_cons_of_mem _ e2)]
      · rw [if_neg e2, if_neg]
        intro z
        rcases List.mem_cons.mp z with z | z
        · exact e z.symm
        · exact e2 z
theorem seenK_put {l : List Std} {g : Std} (h : g ∉ l) : putM (seenK l) (stK g) (.bl true) = seenK (l ++ [g]) := by
  rw [putM_new (by rw [seenK_val, if_neg h])]
  unfold seenK; rw [List.map_append]; rfl
theorem stK_depth (t : Std) : (stK t).depth ≤ 8 := by simp [stK, NestedKey.depth, NestedKey.depthAll]
abbrev SA := List Std × List Std
def bl1 (m : Nat) (b : Nat → Nat) (t : Std) (sa : SA) (i : Nat) : SA := if step m b t i ∈ sa.1 then sa else (sa.1 ++ [step m b t i], sa.2 ++ [step m b t i])
def bl2 (m : Nat) (b : Nat → Nat) (sa : SA) (t : Std) : SA := (List.range m).foldl (bl1 m b t) sa
def ballS (m : Nat) (b : Nat → Nat) (t : Std) : Nat → SA
  | 0 => ([t], [t])
  | c + 1 => (ballS m b t c).2.foldl (bl2 m b) ((ballS m b t c).1, [])
def ballN (m : Nat) (b : Nat → Nat) (t : Std) (c : Nat) : Nat := (ballS m b t c).1.length
structure BOk (m n : Nat) (sa : SA) (r q : Nat) : Prop where
  r : sa.1.length ≤ r
  q : sa.2.length ≤ q
  ok : ∀ t ∈ sa.2, Ok m n t
theorem bl1_ok {F : List (List Nat)} {m n : Nat} (h : Sol F m n) {sa : SA} {r q : Nat} {t : Std} (o : BOk m n sa r q) (ot : Ok m n t) (i : Nat) : BOk m n (bl1 m (bh F) t sa i) (r + 1) (q + 1) := by
  have h1 := o.r
  have h2 := o.q
  unfold bl1
  split
  · exact ⟨by omega, by omega, o.ok⟩
  · refine ⟨by rw [List.length_append]; simp; omega, by rw [List.length_append]; simp; omega, fun u hu => ?_⟩
    rcases List.mem_append.mp hu with z | z
    · exact o.ok u z
    · rw [List.mem_singleton.mp z]; exact step_ok h ot i
def spFBall : PL.Spec := fun l M k => ∃ F m n t c, l = [solidD F, stD t, nD c] ∧ Sol F m n ∧ Ok m n t ∧ c ≤ 4 ∧ ∀ M', Keep M M' → k (nD (ballN m (bh F) t c)) M'
theorem spFBall_len : ∀ l M k, spFBall l M k → l.length = 3 := fun l M k ⟨_, _, _, _, _, h, _⟩ => by rw [h]; rfl
def spLBall : PL.Spec := fun l M k => ∃ F m n f t c, l = [.adr f, .str (ltS m), stD t, nD c] ∧ Sol F m n ∧ MovesOk F m n f M ∧ Ok m n t ∧ c ≤ 4 ∧ ∀ M', Keep M M' → k (nD (ballN m (bh F) t c)) M'
theorem spLBall_len : ∀ l M k, spLBall l M k → l.length = 4 := fun l M k ⟨_, _, _, _, _, _, h, _⟩ => by rw [h]; rfl
/-! ### like words -/
def likeB (m n : Nat) (b : Nat → Nat) (v u : List Nat) : Bool := (lasts m).all fun a => (List.range n).all fun s => decide (runW m b (st0 a s) v = runW m b (st0 a s) u)
theorem like_no {m n : Nat} {b : Nat → Nat} {v u : List Nat} {a s : Nat} (ha : a ∈ lasts m) (hs : s < n) (h : runW m b (st0 a s) v ≠ runW m b (st0 a s) u) : likeB m n b v u = false := by
  cases e : likeB m n b v u with
  | false => rfl
  | true =>
    unfold likeB at e
    have := List.all_eq_true.mp (List.all_eq_true.mp e a ha) s (List.mem_range.mpr hs)
    exact absurd (of_decide_eq_true this) h
theorem like_yes {m n : Nat} {b : Nat → Nat} {v u : List Nat} (h : ∀ a ∈ lasts m, ∀ s, s < n → runW m b (st0 a s) v = runW m b (st0 a s) u) : likeB m n b v u = true :=
  List.all_eq_true.mpr fun a ha => List.all_eq_true.mpr fun s hs => decide_eq_true (h a ha s (List.mem_range.mp hs))
theorem stD_eqv (t u : Std) : PyData.eqv (stD t).py (stD u).py = decide (t = u) := by
  show (((t.x == u.x) && ((t.y == u.y) && ((((t.k : Int)) == (u.k : Int)) && true))) && ((((t.s : Int)) == (u.s : Int)) && true)) = _
  have e1 : (((t.k : Int)) == (u.k : Int)) = decide (t.k = u.k) := by
    by_cases h : t.k = u.k
    · rw [decide_eq_true h, h]; simp
    · rw [decide_eq_false h]; exact beq_eq_false_iff_ne.mpr (by omega)
  have e2 : (((t.s : Int)) == (u.s : Int)) = decide (t.s = u.s) := by
    by_cases h : t.s = u.s
    · rw [decide_eq_true h, h]; simp
    · rw [decide_eq_false h]; exact beq_eq_false_iff_ne.mpr (by omega)
  rw [e1, e2, Bool.and_true, Bool.and_true]
  by_cases h : t = u
  · subst h; simp
  · rw [decide_eq_false h]
    by_cases h1 : t.x = u.x
    · by_cases h2 : t.y = u.y
      · by_cases h3 : t.k = u.k
        · have h4 : t.s ≠ u.s := fun z => h ((std_eq t u).mpr ⟨h1, h2, h3, z⟩)
          rw [decide_eq_false h4, Bool.and_false]
        · rw [decide_eq_false h3]; simp
      · rw [beq_eq_false_iff_ne.mpr h2]; simp
    · rw [beq_eq_false_iff_ne.mpr h1]; simp
def spLike : PL.Spec := fun l M k => ∃ F m n v u, l = [solidD F, .str (wS m v), .str (wS m u)] ∧ Sol F m n ∧ (∀ i ∈ v, i < m) ∧ (∀ i ∈ u, i < m) ∧ ∀ M', Keep M M' → k (.bl (likeB m n (bh F) v u)) M'
theorem spLike_len : ∀ l M k, spLike l M k → l.length = 3 := fun l M k ⟨_, _, _, _, _, h, _⟩ => by rw [h]; rfl
def spLLike : PL.Spec := fun l M k => ∃ F m n f v u, l = [.adr f, solidD F, .str (wS m v), .str (wS m u)] ∧ Sol F m n ∧ MovesOk F m n f M ∧ (∀ i ∈ v, i < m) ∧ (∀ i ∈ u, i < m) ∧ k (.bl (likeB m n (bh F) v u)) M
theorem spLLike_len : ∀ l M k, spLLike l M k → l.length = 4 := fun l M k ⟨_, _, _, _, _, _, h, _⟩ => by rw [h]; rfl
abbrev s_floor_ball : Stmt := top 15
abbrev N_floor_ball : List Str := ["solid", "standing", "steps", "floor", "seen", "rank", "_", "after", "here", "letter", "goal"]
theorem sc_floor_ball : FnScope N_floor_ball ["solid", "standing", "steps"] (defScope s_floor_ball) := ⟨rfl, rfl, rfl, by decide +kernel, rfl, by decide +kernel, by decide +kernel⟩
abbrev s_are_like_floor_words : Stmt := top 16
abbrev N_are_like_floor_words : List Str := ["solid", "one", "other", "floor", "kinds", "k", "side", "here"]
theorem sc_are_like_floor_words : FnScope N_are_like_floor_words ["solid", "one", "other"] (defScope s_are_like_floor_words) := ⟨rfl, rfl, rfl, by decide +kernel, rfl, by decide +kernel, by decide +kernel⟩
abbrev s_law_ball : Stmt := top 37
abbrev N_law_ball : List Str := ["moves", "letters", "standing", "steps", "seen", "rim", "lap", "more", "now", "letter", "then"]
theorem sc_law_ball : FnScope N_law_ball ["moves", "letters", "standing", "steps"] (defScope s_law_ball) := ⟨rfl, rfl, rfl, by decide +kernel, rfl, by decide +kernel, by decide +kernel⟩
abbrev s_law_like : Stmt := top 38
abbrev N_law_like : List Str := ["moves", "solid", "one", "other", "last", "side", "face"]
theorem sc_law_like : FnScope N_law_like ["moves", "solid", "one", "other"] (defScope s_law_like) := ⟨rfl, rfl, rfl, by decide +kernel, rfl, by decide +kernel, by decide +kernel⟩
section
variable {P : Program} {w : World} {K : PySem.W.Frag} {mg : Str → Option Value} {base : Heap}
theorem ok_floor_ball {f C mv : Addr} {fd : FuncData} {tk1 tk2 : Tok} (F : Fun K "floor_ball" "floor_ball" s_floor_ball f fd) (T : Bi mg) (c_Floor : CalK P w K mg base C "Floor" 2 ["self", "solid"] (spInit C)) (c_Floor_step : CalM P w K mg base C "step" 2 ["self", "standing", "letter"] (spStep C)) (c_cls : Cls K C) (n_b : NoAttr K C "behind") (n_l : NoAttr K C "letters") : FnOk P w K mg base CX0 4 f fd ["solid", "standing", "steps"] (SpD K w spFBall) := by
  refine F.ok sc_floor_ball (fun vs H Q E h => SpD.len (n := 3) (spFBall_len) h) (fun cdv A outer s H vs Q E hr h => ?_)
  have hu := hu_of hr
  have hu16 := hu16_of hr
  refine ⟨_, (pss_cons (ps_set (i := 3) sc_floor_ball.nd rfl (Or.inl rfl) (pe_mk c_Floor (hr.mono (by decide)) (by rfl) (pa_cons (pv 0) pa_nil)))
(pss_cons (ps_set (i := 4) sc_floor_ball.nd rfl (Or.inl rfl) (pe_ndisp hu16 (pps_cons (pv 1) pe_bl pps_nil) (by rfl) (by rfl) (fun z => by cases z) (by decide)))
(pss_cons (ps_set (i := 5) sc_floor_ball.nd rfl (Or.inl rfl) (pe_lst (pa_cons (pv 1) pa_nil)))
(pss_cons (ps_for PassesOwn.never rfl (pi_range1 (by rfl) T.range (pa_cons (pv 2) pa_nil)) (pg_name (i := 6) sc_floor_ball.nd rfl (Or.inl rfl))
(pss_cons (ps_set (i := 7) sc_floor_ball.nd rfl (Or.inl rfl) (pe_lst pa_nil))
(pss_cons (ps_for PassesOwn.never rfl (pi_list (pv 5)) (pg_name (i := 8) sc_floor_ball.nd rfl (Or.inl rfl))
(pss_one (ps_for PassesOwn.never rfl (pi_str (pe_fld (pv 3) rfl)) (pg_name (i := 9) sc_floor_ball.nd rfl (Or.inl rfl))
(pss_cons (ps_set (i := 10) sc_floor_ball.nd rfl (Or.inl rfl) (pe_calM (pv 3) c_cls c_Floor_step (hr.mono (by decide)) (pa_cons (pv 8) (pa_cons (pv 9) pa_nil))))
(pss_one (ps_if (pt_cmpR (op_nnotin hu16) (pv 10) (pv 4) (by rfl))
(pss_cons (ps_asg pe_bl (pg_sub (pv 4) (pv 10) (set_nd hu16)))
(pss_one (ps_expr (pe_bm PySem.F.plainAttrs_list PySem.F.slot_list_append PySem.F.type_list_append mt_append (pv 7) (pa_cons (pv 10) pa_nil)))))
pss_nil))))))
(pss_one (ps_set (i := 5) sc_floor_ball.nd rfl (Or.inl rfl) (pv 7))))))
(pss_one (ps_ret (pe_callB call_lenN (by rfl) T.len (by decide +kernel) (pa_cons (pv 4) pa_nil)))))))), go h ?_⟩
  clear hu hu16 hr h
  rintro l M k ⟨F, m, n, t, c, rfl, so, ok, hc, hk⟩
  have hm := so.m34
  refine sw_seq <| sw_asg <| ev_frzI <| ev_make <| av_cons <| ev_var rfl <| av_nil fun x hx => ⟨x, F, m, n, rfl, MH.set_same, so, fun M0 h0 kp => ⟨rfl, x, C, _, _, rfl, h0, gv_name ?_⟩⟩
  have kp0 := fresh_keep hx kp
  generalize M0.del x = M0 at kp0
  refine sw_seq <| sw_asg <| ev_ndisp <| ev_var rfl <| ev_bl ⟨[(stK t, .bl true)], rfl, (show 1 ≤ 15 by decide), by simp, fun x hx => ?_, fun sd hsd => gv_name ?_⟩
  · rw [List.mem_singleton.mp hx]; exact ⟨⟨_, rfl⟩, stK_depth t⟩
  have hsd0 := kp0.none hsd
  refine sw_seq <| sw_asg <| ev_lst <| av_cons <| ev_var rfl <| av_nil ⟨l1, gv_name ?_⟩
  refine sw_seq <| sw_for <| iv_range1 <| av_cons <| ev_var rfl <| av_nil ⟨_, rfl, by omega, by omega, FP.start (fun j ds M' => ∃ o6 o7 o8 o9 o10 : Option D, ds = [some (solidD F), some (stD t), some (nD c), some (floorD C F m), some (.adr sd), some (.lst ((ballS m (bh F) t j).2.map stD)), o6, o7, o8, o9, o10] ∧ M' sd = some (.dn (seenK (ballS m (bh F) t j).1)) ∧ BOk m n (ballS m (bh F) t j) (2 * 4 ^ j) (4 ^ j) ∧ Keep M M') ⟨none, none, none, none, none, rfl, MH.set_same, ⟨show 1 ≤ 2 by decide, show 1 ≤ 1 by decide, fun u hu => by rw [List.mem_singleton.mp hu]; exact ok⟩, kp0.set hsd0⟩ ?_ ?_⟩
  · rintro j d ds M1 hj ⟨o6, o7, o8, o9, o10, rfl, h1, bo, kp1⟩
    obtain ⟨hjc, rfl⟩ := rgD_in hj
    have hjc : j < 4 := by omega
    have pw : 4 ^ j ≤ 64 := by
      rcases (show j = 0 ∨ j = 1 ∨ j = 2 ∨ j = 3 by omega) with e | e | e | e <;> subst e <;> decide
    refine gv_name <| sw_seq <| sw_asg <| ev_lstM <| av_nil ⟨Nat.zero_le _, fun a ha => gv_name ?_⟩
    have ha0 := kp1.none ha
    have nas : a ≠ sd := fun z => by subst z; rw [ha] at h1; cases h1
    generalize hS : ballS m (bh F) t j = S at h1 bo ⊢
    have b1 := bo.r
    have b2 := bo.q
    refine sw_seq <| sw_for <| iv_list <| ev_var rfl ⟨_, .inl rfl, FP.start (fun e ds M' => ∃ o8 o9 o10 : Option D, ds = [some (solidD F), some (stD t), some (nD c), some (floorD C F m), some (.adr sd), some (.lst (S.2.map stD)), some (.int (0 + (j : Nat))), some (.adr a), o8, o9, o10] ∧ M' sd = some (.dn (seenK ((S.2.take e).foldl (bl2 m (bh F)) (S.1, [])).1)) ∧ M' a = some (.lst (((S.2.take e).foldl (bl2 m (bh F)) (S.1, [])).2.map stD)) ∧ BOk m n ((S.2.take e).foldl (bl2 m (bh F)) (S.1, [])) (2 * 4 ^ j + e * m) (e * m) ∧ Keep M M') ⟨o8, o9, o10, rfl, by rw [MH.set_ne nas.symm]; exact h1, MH.set_same, ⟨by simpa using b1, by simp, fun u hu => (by cases hu)⟩, kp1.set ha0⟩ ?_ ?_⟩
    · rintro e d ds M2 he ⟨o8, o9, o10, rfl, g1, g2, bo2, kp2⟩
      rw [List.getElem?_map] at he
      obtain ⟨u, hu, rfl⟩ := Option.map_eq_some_iff.mp he
      have ou := bo.ok u (List.mem_of_getElem? hu)
      have hel : e < S.2.length := (List.getElem?_eq_some_iff.mp hu).1
      have hem : e * m ≤ 252 := Nat.le_trans (Nat.mul_le_mul (show e ≤ 63 by omega) (show m ≤ 4 by omega)) (by decide)
      have enx : (S.2.take (e + 1)).foldl (bl2 m (bh F)) (S.1, []) = bl2 m (bh F) ((S.2.take e).foldl (bl2 m (bh F)) (S.1, [])) u := by rw [List.take_succ, hu, List.foldl_append]; rfl
      generalize (S.2.take e).foldl (bl2 m (bh F)) (S.1, []) = T at g1 g2 bo2 enx
      refine gv_name <| sw_for <| iv_str <| ev_fld <| ev_var rfl ⟨C, _, _, _, rfl, c_cls, n_l, fl_l _ _, _, rfl, ?_⟩
      have hsg : PL.signs (ltS m) = (List.range m).map fun i => D.str (lS m i) := by rw [ltS_w hm, wS_signs]
      rw [hsg]
      refine FP.start (fun i ds M' => ∃ o9 o10 : Option D, ds = [some (solidD F), some (stD t), some (nD c), some (floorD C F m), some (.adr sd), some (.lst (S.2.map stD)), some (.int (0 + (j : Nat))), some (.adr a), some (stD u), o9, o10] ∧ M' sd = some (.dn (seenK ((List.range i).foldl (bl1 m (bh F) u) T).1)) ∧ M' a = some (.lst (((List.range i).foldl (bl1 m (bh F) u) T).2.map stD)) ∧ BOk m n ((List.range i).foldl (bl1 m (bh F) u) T) (2 * 4 ^ j + e * m + i) (e * m + i) ∧ Keep M M') ⟨o9, o10, rfl, g1, g2, bo2, kp2⟩ ?_ ?_
      · rintro i d ds M3 hi ⟨o9, o10, rfl, q1, q2, bo3, kp3⟩
        rw [List.getElem?_map] at hi
        obtain ⟨i', hi', rfl⟩ := Option.map_eq_some_iff.mp hi
        have him : i < m := by
          have := (List.getElem?_eq_some_iff.mp hi').1
          rw [List.length_range] at this; exact this
        have : i' = i := by rw [List.getElem?_range him] at hi'; exact (Option.some.inj hi').symm
        subst this
        have enx3 : (List.range (i' + 1)).foldl (bl1 m (bh F) u) T = bl1 m (bh F) u ((List.range i').foldl (bl1 m (bh F) u) T) i' := by rw [List.range_succ, List.foldl_append]; rfl
        have bo4 := bl1_ok so bo3 ou i'
        generalize (List.range i').foldl (bl1 m (bh F) u) T = U at q1 q2 bo3 bo4 enx3
        have b3 := bo3.r
        have b4 := bo3.q
        refine gv_name <| sw_seq <| sw_asg <| ev_meth <| ev_var rfl ⟨_, _, rfl, ne_b (by decide +kernel) (by decide +kernel), av_cons <| ev_var rfl <| av_cons <| ev_var rfl <| av_nil ⟨F, m, n, u, i', rfl, so, ou, him, gv_name ?_⟩⟩
        refine sw_if <| tv_test <| ev_op <| ev_var rfl <| ev_var rfl <| rd_nnotin (kk := [.tup [.num (step m (bh F) u i').x, .num (step m (bh F) u i').y, .num ((step m (bh F) u i').k : Nat)], .num ((step m (bh F) u i').s : Nat)]) rfl q1 (stK_depth (step m (bh F) u i')) ⟨_, rfl, ?_⟩
        have hv := seenK_val U.1 (step m (bh F) u i')
        by_cases hin : step m (bh F) u i' ∈ U.1
        · rw [if_pos hin] at hv
          have eb : bl1 m (bh F) u U i' = U := by unfold bl1; rw [if_pos hin]
          refine iff' (by exact (congrArg (fun x : Option D => !x.isSome) hv).trans rfl) <| sw_next ?_
          rw [eb] at enx3
          refine ⟨_, _, rfl, by rw [enx3]; exact q1, by rw [enx3]; exact q2, ?_, kp3⟩
          rw [enx3]; rw [eb] at bo4; exact bo4
        · rw [if_neg hin] at hv
          have eb : bl1 m (bh F) u U i' = (U.1 ++ [step m (bh F) u i'], U.2 ++ [step m (bh F) u i']) := by unfold bl1; rw [if_neg hin]
          refine ift (by exact (congrArg (fun x : Option D => !x.isSome) hv).trans rfl) ?_
          refine sw_seq <| sw_asg <| ev_bl <| gv_sub <| ev_var rfl <| ev_var rfl <| rs_dn (kk := [.tup [.num (step m (bh F) u i').x, .num (step m (bh F) u i').y, .num ((step m (bh F) u i').k : Nat)], .num ((step m (bh F) u i').s : Nat)]) rfl q1 (stK_depth (step m (bh F) u i')) (by unfold seenK; rw [List.length_map]; exact sl (by omega)) ?_
          have ep := seenK_put hin
          have ep' : putM (seenK U.1) (.tup [.tup [.num (step m (bh F) u i').x, .num (step m (bh F) u i').y, .num ((step m (bh F) u i').k : Nat)], .num ((step m (bh F) u i').s : Nat)]) (.bl true) = seenK (U.1 ++ [step m (bh F) u i']) := ep
          rw [ep']
          have q2' : (M3.set sd (.dn (seenK (U.1 ++ [step m (bh F) u i'])))) a = some (.lst (U.2.map stD)) := by rw [MH.set_ne nas]; exact q2
          refine sw_drop <| ev_bm <| ev_var rfl ⟨tyd_adr q2', av_cons <| ev_var rfl <| av_nil <| rm_append q2' (by rw [List.length_map]; exact sl' (by omega)) ?_⟩
          rw [eb] at enx3 bo4
          refine ⟨_, _, rfl, ?_, ?_, by rw [enx3]; exact bo4, (kp3.set hsd0).set ha0⟩
          · rw [MH.set_ne nas.symm, MH.set_same, enx3]
          · rw [MH.set_same, enx3, List.map_append]; rfl
      · rintro ds M3 ⟨o9, o10, rfl, q1, q2, bo3, kp3⟩
        rw [List.length_map, List.length_range] at q1 q2 bo3
        have ee : (List.range m).foldl (bl1 m (bh F) u) T = bl2 m (bh F) T u := rfl
        rw [ee, ← enx] at q1 q2 bo3
        have e3 : (e + 1) * m = e * m + m := Nat.succ_mul e m
        exact ⟨_, _, _, rfl, q1, q2, by rw [e3]; exact ⟨by have := bo3.r; omega, by have := bo3.q; omega, bo3.ok⟩, kp3⟩
    · rintro ds M2 ⟨o8, o9, o10, rfl, g1, g2, bo2, kp2⟩
      rw [List.length_map, List.take_length] at g1 g2 bo2
      have ee : S.2.foldl (bl2 m (bh F)) (S.1, []) = ballS m (bh F) t (j + 1) := by rw [← hS]; rfl
      rw [ee] at g1 g2 bo2
      refine sw_asg <| ev_frzL <| ev_var rfl ⟨a, _, rfl, g2, gv_name ?_⟩
      have b3 := bo2.r
      have b4 := bo2.q
      have hlm : S.2.length * m ≤ 4 ^ j * 4 := Nat.mul_le_mul b2 (show m ≤ 4 by omega)
      have ep : (4 : Nat) ^ (j + 1) = 4 ^ j * 4 := Nat.pow_succ 4 j
      exact ⟨_, _, _, _, _, rfl, by rw [MH.del_ne nas.symm]; exact g1, ⟨by rw [ep]; omega, by rw [ep]; omega, bo2.ok⟩, kp2.del ha0⟩
  · rintro ds M1 ⟨o6, o7, o8, o9, o10, rfl, h1, bo, kp1⟩
    rw [rgD_len, Int.toNat_natCast] at h1 bo
    have b1 := bo.r
    have pw : 4 ^ c ≤ 256 := by
      rcases (show c = 0 ∨ c = 1 ∨ c = 2 ∨ c = 3 ∨ c = 4 by omega) with e | e | e | e | e <;> subst e <;> decide
    refine sw_ret <| ev_cb <| av_cons <| ev_var rfl <| av_nil <| ra_lenN h1 (by unfold seenK; rw [List.length_map]; exact sl (by omega)) ?_
    have := hk M1 kp1
    unfold ballN at this
    unfold seenK; rw [List.length_map]; exact this

theorem ok_law_ball {f C mv : Addr} {fd : FuncData} {tk1 tk2 : Tok} (F : Fun K "_law_ball" "_law_ball" s_law_ball f fd) (T : Bi mg) (c_law_stepped : Cal P w K mg base "_law_stepped" 1 ["moves", "standing", "letter"] spStepped) : FnOk P w K mg base CX0 2 f fd ["moves", "letters", "standing", "steps"] (SpD K w spLBall) := by
  refine F.ok sc_law_ball (fun vs H Q E h => SpD.len (n := 4) (spLBall_len) h) (fun cdv A outer s H vs Q E hr h => ?_)
  have hu := hu_of hr
  have hu16 := hu16_of hr
  refine ⟨_, (pss_cons (ps_set (i := 4) sc_law_ball.nd rfl (Or.inl rfl) (pe_ndisp hu16 (pps_cons (pv 2) pe_bl pps_nil) (by rfl) (by rfl) (fun z => by cases z) (by decide)))
(pss_cons (ps_set (i := 5) sc_law_ball.nd rfl (Or.inl rfl) (pe_lst (pa_cons (pv 2) pa_nil)))
(pss_cons (ps_for PassesOwn.never rfl (pi_range1 (by rfl) T.range (pa_cons (pv 3) pa_nil)) (pg_name (i := 6) sc_law_ball.nd rfl (Or.inl rfl))
(pss_cons (ps_set (i := 7) sc_law_ball.nd rfl (Or.inl rfl) (pe_lst pa_nil))
(pss_cons (ps_for PassesOwn.never rfl (pi_list (pv 5)) (pg_name (i := 8) sc_law_ball.nd rfl (Or.inl rfl))
(pss_one (ps_for PassesOwn.never rfl (pi_str (pv 1)) (pg_name (i := 9) sc_law_ball.nd rfl (Or.inl rfl))
(pss_cons (ps_set (i := 10) sc_law_ball.nd rfl (Or.inl rfl) (pe_cal c_law_stepped (hr.mono (by decide)) (by rfl) (pa_cons (pv 0) (pa_cons (pv 8) (pa_cons (pv 9) pa_nil)))))
(pss_one (ps_if (pt_cmpR (op_nnotin hu16) (pv 10) (pv 4) (by rfl))
(pss_cons (ps_asg pe_bl (pg_sub (pv 4) (pv 10) (set_nd hu16)))
(pss_one (ps_expr (pe_bm PySem.F.plainAttrs_list PySem.F.slot_list_append PySem.F.type_list_append mt_append (pv 7) (pa_cons (pv 10) pa_nil)))))
pss_nil))))))
(pss_one (ps_set (i := 5) sc_law_ball.nd rfl (Or.inl rfl) (pv 7))))))
(pss_one (ps_ret (pe_callB call_lenN (by rfl) T.len (by decide +kernel) (pa_cons (pv 4) pa_nil))))))), go h ?_⟩
  clear hu hu16 hr h
  rintro l M k ⟨F, m, n, f, t, c, rfl, so, mo, ok, hc, hk⟩
  have hm := so.m34
  have kp0 := Keep.refl M
  refine sw_seq <| sw_asg <| ev_ndisp <| ev_var rfl <| ev_bl ⟨[(stK t, .bl true)], rfl, (show 1 ≤ 15 by decide), by simp, fun x hx => ?_, fun sd hsd => gv_name ?_⟩
  · rw [List.mem_singleton.mp hx]; exact ⟨⟨_, rfl⟩, stK_depth t⟩
  have hsd0 := kp0.none hsd
  refine sw_seq <| sw_asg <| ev_lst <| av_cons <| ev_var rfl <| av_nil ⟨l1, gv_name ?_⟩
  refine sw_seq <| sw_for <| iv_range1 <| av_cons <| ev_var rfl <| av_nil ⟨_, rfl, by omega, by omega, FP.start (fun j ds M' => ∃ o6 o7 o8 o9 o10 : Option D, ds = [some (.adr f), some (.str (ltS m)), some (stD t), some (nD c), some (.adr sd), some (.lst ((ballS m (bh F) t j).2.map stD)), o6, o7, o8, o9, o10] ∧ M' sd = some (.dn (seenK (ballS m (bh F) t j).1)) ∧ BOk m n (ballS m (bh F) t j) (2 * 4 ^ j) (4 ^ j) ∧ Keep M M') ⟨none, none, none, none, none, rfl, MH.set_same, ⟨show 1 ≤ 2 by decide, show 1 ≤ 1 by decide, fun u hu => by rw [List.mem_singleton.mp hu]; exact ok⟩, kp0.set hsd0⟩ ?_ ?_⟩
  · rintro j d ds M1 hj ⟨o6, o7, o8, o9, o10, rfl, h1, bo, kp1⟩
    obtain ⟨hjc, rfl⟩ := rgD_in hj
    have hjc : j < 4 := by omega
    have pw : 4 ^ j ≤ 64 := by
      rcases (show j = 0 ∨ j = 1 ∨ j = 2 ∨ j = 3 by omega) with e | e | e | e <;> subst e <;> decide
    refine gv_name <| sw_seq <| sw_asg <| ev_lstM <| av_nil ⟨Nat.zero_le _, fun a ha => gv_name ?_⟩
    have ha0 := kp1.none ha
    have nas : a ≠ sd := fun z => by subst z; rw [ha] at h1; cases h1
    generalize hS : ballS m (bh F) t j = S at h1 bo ⊢
    have b1 := bo.r
    have b2 := bo.q
    refine sw_seq <| sw_for <| iv_list <| ev_var rfl ⟨_, .inl rfl, FP.start (fun e ds M' => ∃ o8 o9 o10 : Option D, ds = [some (.adr f), some (.str (ltS m)), some (stD t), some (nD c), some (.adr sd), some (.lst (S.2.map stD)), some (.int (0 + (j : Nat))), some (.adr a), o8, o9, o10] ∧ M' sd = some (.dn (seenK ((S.2.take e).foldl (bl2 m (bh F)) (S.1, [])).1)) ∧ M' a = some (.lst (((S.2.take e).foldl (bl2 m (bh F)) (S.1, [])).2.map stD)) ∧ BOk m n ((S.2.take e).foldl (bl2 m (bh F)) (S.1, [])) (2 * 4 ^ j + e * m) (e * m) ∧ Keep M M') ⟨o8, o9, o10, rfl, by rw [MH.set_ne nas.symm]; exact h1, MH.set_same, ⟨by simpa using b1, by simp, fun u hu => (by cases hu)⟩, kp1.set ha0⟩ ?_ ?_⟩
    · rintro e d ds M2 he ⟨o8, o9, o10, rfl, g1, g2, bo2, kp2⟩
      rw [List.getElem?_map] at he
      obtain ⟨u, hu, rfl⟩ := Option.map_eq_some_iff.mp he
      have ou := bo.ok u (List.mem_of_getElem? hu)
      have hel : e < S.2.length := (List.getElem?_eq_some_iff.mp hu).1
      have hem : e * m ≤ 252 := Nat.le_trans (Nat.mul_le_mul (show e ≤ 63 by omega) (show m ≤ 4 by omega)) (by decide)
      have enx : (S.2.take (e + 1)).foldl (bl2 m (bh F)) (S.1, []) = bl2 m (bh F) ((S.2.take e).foldl (bl2 m (bh F)) (S.1, [])) u := by rw [List.take_succ, hu, List.foldl_append]; rfl
      generalize (S.2.take e).foldl (bl2 m (bh F)) (S.1, []) = T at g1 g2 bo2 enx
      refine gv_name <| sw_for <| iv_str <| ev_var rfl ⟨_, rfl, ?_⟩
      have hsg : PL.signs (ltS m) = (List.range m).map fun i => D.str (lS m i) := by rw [ltS_w hm, wS_signs]
      rw [hsg]
      refine FP.start (fun i ds M' => ∃ o9 o10 : Option D, ds = [some (.adr f), some (.str (ltS m)), some (stD t), some (nD c), some (.adr sd), some (.lst (S.2.map stD)), some (.int (0 + (j : Nat))), some (.adr a), some (stD u), o9, o10] ∧ M' sd = some (.dn (seenK ((List.range i).foldl (bl1 m (bh F) u) T).1)) ∧ M' a = some (.lst (((List.range i).foldl (bl1 m (bh F) u) T).2.map stD)) ∧ BOk m n ((List.range i).foldl (bl1 m (bh F) u) T) (2 * 4 ^ j + e * m + i) (e * m + i) ∧ Keep M M') ⟨o9, o10, rfl, g1, g2, bo2, kp2⟩ ?_ ?_
      · rintro i d ds M3 hi ⟨o9, o10, rfl, q1, q2, bo3, kp3⟩
        rw [List.getElem?_map] at hi
        obtain ⟨i', hi', rfl⟩ := Option.map_eq_some_iff.mp hi
        have him : i < m := by
          have := (List.getElem?_eq_some_iff.mp hi').1
          rw [List.length_range] at this; exact this
        have : i' = i := by rw [List.getElem?_range him] at hi'; exact (Option.some.inj hi').symm
        subst this
        have enx3 : (List.range (i' + 1)).foldl (bl1 m (bh F) u) T = bl1 m (bh F) u ((List.range i').foldl (bl1 m (bh F) u) T) i' := by rw [List.range_succ, List.foldl_append]; rfl
        have bo4 := bl1_ok so bo3 ou i'
        generalize (List.range i').foldl (bl1 m (bh F) u) T = U at q1 q2 bo3 bo4 enx3
        have b3 := bo3.r
        have b4 := bo3.q
        refine gv_name <| sw_seq <| sw_asg <| ev_call <| av_cons <| ev_var rfl <| av_cons <| ev_var rfl <| av_cons <| ev_var rfl <| av_nil ⟨F, m, n, f, u, i', rfl, so, mo.keep kp3, ou, him, gv_name ?_⟩
        refine sw_if <| tv_test <| ev_op <| ev_var rfl <| ev_var rfl <| rd_nnotin (kk := [.tup [.num (step m (bh F) u i').x, .num (step m (bh F) u i').y, .num ((step m (bh F) u i').k : Nat)], .num ((step m (bh F) u i').s : Nat)]) rfl q1 (stK_depth (step m (bh F) u i')) ⟨_, rfl, ?_⟩
        have hv := seenK_val U.1 (step m (bh F) u i')
        by_cases hin : step m (bh F) u i' ∈ U.1
        · rw [if_pos hin] at hv
          have eb : bl1 m (bh F) u U i' = U := by unfold bl1; rw [if_pos hin]
          refine iff' (by exact (congrArg (fun x : Option D => !x.isSome) hv).trans rfl) <| sw_next ?_
          rw [eb] at enx3
          refine ⟨_, _, rfl, by rw [enx3]; exact q1, by rw [enx3]; exact q2, ?_, kp3⟩
          rw [enx3]; rw [eb] at bo4; exact bo4
        · rw [if_neg hin] at hv
          have eb : bl1 m (bh F) u U i' = (U.1 ++ [step m (bh F) u i'], U.2 ++ [step m (bh F) u i']) := by unfold bl1; rw [if_neg hin]
          refine ift (by exact (congrArg (fun x : Option D => !x.isSome) hv).trans rfl) ?_
          refine sw_seq <| sw_asg <| ev_bl <| gv_sub <| ev_var rfl <| ev_var rfl <| rs_dn (kk := [.tup [.num (step m (bh F) u i').x, .num (step m (bh F) u i').y, .num ((step m (bh F) u i').k : Nat)], .num ((step m (bh F) u i').s : Nat)]) rfl q1 (stK_depth (step m (bh F) u i')) (by unfold seenK; rw [List.length_map]; exact sl (by omega)) ?_
          have ep := seenK_put hin
          have ep' : putM (seenK U.1) (.tup [.tup [.num (step m (bh F) u i').x, .num (step m (bh F) u i').y, .num ((step m (bh F) u i').k : Nat)], .num ((step m (bh F) u i').s : Nat)]) (.bl true) = seenK (U.1 ++ [step m (bh F) u i']) := ep
          rw [ep']
          have q2' : (M3.set sd (.dn (seenK (U.1 ++ [step m (bh F) u i'])))) a = some (.lst (U.2.map stD)) := by rw [MH.set_ne nas]; exact q2
          refine sw_drop <| ev_bm <| ev_var rfl ⟨tyd_adr q2', av_cons <| ev_var rfl <| av_nil <| rm_append q2' (by rw [List.length_map]; exact sl' (by omega)) ?_⟩
          rw [eb] at enx3 bo4
          refine ⟨_, _, rfl, ?_, ?_, by rw [enx3]; exact bo4, (kp3.set hsd0).set ha0⟩
          · rw [MH.set_ne nas.symm, MH.set_same, enx3]
          · rw [MH.set_same, enx3, List.map_append]; rfl
      · rintro ds M3 ⟨o9, o10, rfl, q1, q2, bo3, kp3⟩
        rw [List.length_map, List.length_range] at q1 q2 bo3
        have ee : (List.range m).foldl (bl1 m (bh F) u) T = bl2 m (bh F) T u := rfl
        rw [ee, ← enx] at q1 q2 bo3
        have e3 : (e + 1) * m = e * m + m := Nat.succ_mul e m
        exact ⟨_, _, _, rfl, q1, q2, by rw [e3]; exact ⟨by have := bo3.r; omega, by have := bo3.q; omega, bo3.ok⟩, kp3⟩
    · rintro ds M2 ⟨o8, o9, o10, rfl, g1, g2, bo2, kp2⟩
      rw [List.length_map, List.take_length] at g1 g2 bo2
      have ee : S.2.foldl (bl2 m (bh F)) (S.1, []) = ballS m (bh F) t (j + 1) := by rw [← hS]; rfl
      rw [ee] at g1 g2 bo2
      refine sw_asg <| ev_frzL <| ev_var rfl ⟨a, _, rfl, g2, gv_name ?_⟩
      have b3 := bo2.r
      have b4 := bo2.q
      have hlm : S.2.length * m ≤ 4 ^ j * 4 := Nat.mul_le_mul b2 (show m ≤ 4 by omega)
      have ep : (4 : Nat) ^ (j + 1) = 4 ^ j * 4 := Nat.pow_succ 4 j
      exact ⟨_, _, _, _, _, rfl, by rw [MH.del_ne nas.symm]; exact g1, ⟨by rw [ep]; omega, by rw [ep]; omega, bo2.ok⟩, kp2.del ha0⟩
  · rintro ds M1 ⟨o6, o7, o8, o9, o10, rfl, h1, bo, kp1⟩
    rw [rgD_len, Int.toNat_natCast] at h1 bo
    have b1 := bo.r
    have pw : 4 ^ c ≤ 256 := by
      rcases (show c = 0 ∨ c = 1 ∨ c = 2 ∨ c = 3 ∨ c = 4 by omega) with e | e | e | e | e <;> subst e <;> decide
    refine sw_ret <| ev_cb <| av_cons <| ev_var rfl <| av_nil <| ra_lenN h1 (by unfold seenK; rw [List.length_map]; exact sl (by omega)) ?_
    have := hk M1 kp1
    unfold ballN at this
    unfold seenK; rw [List.length_map]; exact this

theorem ok_are_like_floor_words {f C mv : Addr} {fd : FuncData} {tk1 tk2 : Tok} (F : Fun K "are_like_floor_words" "are_like_floor_words" s_are_like_floor_words f fd) (T : Bi mg) (c_Floor : CalK P w K mg base C "Floor" 2 ["self", "solid"] (spInit C)) (c_sides_of : Cal P w K mg base "sides_of" 2 ["sheet"] spSides) (c_floor_word : Cal P w K mg base "floor_word" 1 ["solid"] spFWord) (c_Floor_word : CalM P w K mg base C "word" 3 ["self", "standing", "word"] (spWord C)) (c_cls : Cls K C) (n_b : NoAttr K C "behind") (n_l : NoAttr K C "letters") : FnOk P w K mg base CX0 4 f fd ["solid", "one", "other"] (SpD K w spLike) := by
  refine F.ok sc_are_like_floor_words (fun vs H Q E h => SpD.len (n := 3) (spLike_len) h) (fun cdv A outer s H vs Q E hr h => ?_)
  have hu := hu_of hr
  have hu16 := hu16_of hr
  refine ⟨_, (pss_cons (ps_set (i := 3) sc_are_like_floor_words.nd rfl (Or.inl rfl) (pe_mk c_Floor (hr.mono (by decide)) (by rfl) (pa_cons (pv 0) pa_nil)))
(pss_cons (ps_set (i := 4) sc_are_like_floor_words.nd rfl (Or.inl rfl) (pe_ifExp (pt_cmpR op_eq (pe_cal c_floor_word (hr.mono (by decide)) (by rfl) (pa_cons (pv 0) pa_nil)) pe_str (nomark _)) (pe_tup (pa_cons pe_int pa_nil)) (pe_tup (pa_cons pe_int (pa_cons pe_int pa_nil)))))
(pss_cons (ps_for PassesOwn.never rfl (pi_tup (pv 4)) (pg_name (i := 5) sc_are_like_floor_words.nd rfl (Or.inl rfl))
(pss_one (ps_for PassesOwn.never rfl (pi_tup (pe_cal c_sides_of (hr.mono (by decide)) (by rfl) (pa_cons (pv 0) pa_nil))) (pg_name (i := 6) sc_are_like_floor_words.nd rfl (Or.inl rfl))
(pss_cons (ps_set (i := 7) sc_are_like_floor_words.nd rfl (Or.inl rfl) (pe_tup (pa_cons (pe_tup (pa_cons pe_int (pa_cons pe_int (pa_cons (pv 5) pa_nil)))) (pa_cons (pv 6) pa_nil))))
(pss_one (ps_if (pt_cmpR (op_neD hr.units) (pe_calM (pv 3) c_cls c_Floor_word (hr.mono (by decide)) (pa_cons (pv 7) (pa_cons (pv 1) pa_nil))) (pe_calM (pv 3) c_cls c_Floor_word (hr.mono (by decide)) (pa_cons (pv 7) (pa_cons (pv 2) pa_nil))) (nomark _))
(pss_one (ps_ret pe_bl))
pss_nil))))))
(pss_one (ps_ret pe_bl))))), go h ?_⟩
  clear hu hu16 hr h
  rintro l M k ⟨F, m, n, v, u, rfl, so, hv, hu, hk⟩
  have hm := so.m34
  refine sw_seq <| sw_asg <| ev_frzI <| ev_make <| av_cons <| ev_var rfl <| av_nil fun x hx => ⟨x, F, m, n, rfl, MH.set_same, so, fun M0 h0 kp => ⟨rfl, x, C, _, _, rfl, h0, gv_name ?_⟩⟩
  have kp0 := fresh_keep hx kp
  generalize M0.del x = M0 at kp0
  refine sw_seq <| sw_asg <| EV.mono (k := fun d M' => d = .tup ((lasts m).map nD) ∧ M' = M0) ?_ ?_
  · refine ev_if <| tv_test <| ev_op <| ev_call <| av_cons <| ev_var rfl <| av_nil ⟨F, m, n, rfl, so, ev_str <| rd_eqS ⟨_, rfl, ifd (fun h => ?_) (fun h => ?_)⟩⟩
    · have : m = 4 := by
        rcases hm with e | e
        · subst e; exact absurd h (by decide +kernel)
        · exact e
      subst this
      exact ev_tup <| av_cons <| ev_int <| av_nil ⟨l1, rfl, rfl⟩
    · have : m = 3 := by
        rcases hm with e | e
        · exact e
        · subst e; exact absurd rfl h
      subst this
      exact ev_tup <| av_cons <| ev_int <| av_cons <| ev_int <| av_nil ⟨l2, rfl, rfl⟩
  rintro d M1 ⟨rfl, rfl⟩
  refine gv_name ?_
  refine sw_seq <| sw_for <| iv_tup <| ev_var rfl ⟨_, rfl, FP.start (fun i ds M' => ∃ o5 o6 o7 : Option D, ds = [some (solidD F), some (.str (wS m v)), some (.str (wS m u)), some (floorD C F m), some (.tup ((lasts m).map nD)), o5, o6, o7] ∧ (∀ a ∈ (lasts m).take i, ∀ s, s < n → runW m (bh F) (st0 a s) v = runW m (bh F) (st0 a s) u) ∧ Keep M M') ⟨none, none, none, rfl, fun a ha => (by cases ha), kp0⟩ ?_ ?_⟩
  · rintro i d ds M2 hi ⟨o5, o6, o7, rfl, hal, kp2⟩
    rw [List.getElem?_map] at hi
    obtain ⟨a, hai, rfl⟩ := Option.map_eq_some_iff.mp hi
    have ham := List.mem_of_getElem? hai
    have ha1 : a ≤ 1 ∧ (m = 4 → a = 0) := by
      unfold lasts at ham
      by_cases e : m = 4
      · rw [if_pos e] at ham; simp at ham; omega
      · rw [if_neg e] at ham; simp at ham; omega
    refine gv_name <| sw_for <| iv_tup <| ev_call <| av_cons <| ev_var rfl <| av_nil ⟨F, m, n, rfl, so, fun M3 kp3 => ⟨_, rfl, FP.start (fun s ds M' => ∃ o6 o7 : Option D, ds = [some (solidD F), some (.str (wS m v)), some (.str (wS m u)), some (floorD C F m), some (.tup ((lasts m).map nD)), some (nD a), o6, o7] ∧ (∀ s', s' < s → runW m (bh F) (st0 a s') v = runW m (bh F) (st0 a s') u) ∧ Keep M M') ⟨o6, o7, rfl, fun s hs => absurd hs (Nat.not_lt_zero s), kp2.trans kp3⟩ ?_ ?_⟩⟩
    · rintro s d ds M4 hs ⟨o6, o7, rfl, hsl, kp4⟩
      rw [List.getElem?_map] at hs
      obtain ⟨s', hs', rfl⟩ := Option.map_eq_some_iff.mp hs
      have hsn : s < n := by
        have := (List.getElem?_eq_some_iff.mp hs').1
        rw [List.length_range] at this; exact this
      have : s' = s := by rw [List.getElem?_range hsn] at hs'; exact (Option.some.inj hs').symm
      subst this
      have o0 := ok0 so hsn ha1.1 ha1.2
      refine gv_name <| sw_seq <| sw_asg <| ev_tup <| av_cons <| ev_tup <| av_cons <| ev_int <| av_cons <| ev_int <| av_cons <| ev_var rfl <| av_nil ⟨l3, av_cons <| ev_var rfl <| av_nil ⟨l2, gv_name ?_⟩⟩
      refine sw_if <| tv_test <| ev_op <| ev_meth <| ev_var rfl ⟨_, _, rfl, ne_b (by decide +kernel) (by decide +kernel), av_cons <| ev_var rfl <| av_cons <| ev_var rfl <| av_nil ⟨F, m, n, st0 a s', v, rfl, so, o0, hv, ev_meth <| ev_var rfl ⟨_, _, rfl, ne_b (by decide +kernel) (by decide +kernel), av_cons <| ev_var rfl <| av_cons <| ev_var rfl <| av_nil ⟨F, m, n, st0 a s', u, rfl, so, o0, hu, rd_neD rfl rfl rfl rfl ⟨_, rfl, ?_⟩⟩⟩⟩⟩
      rw [stD_eqv]
      refine ifn (fun hne => ?_) (fun he => sw_next ?_)
      · have := hk M4 kp4
        rw [like_no ham hsn hne] at this
        exact sw_ret <| ev_bl this
      · refine ⟨_, _, rfl, fun s'' h => ?_, kp4⟩
        by_cases e : s'' = s'
        · rw [e]; exact he
        · exact hsl s'' (by omega)
    · rintro ds M4 ⟨o6, o7, rfl, hsl, kp4⟩
      rw [List.length_map, List.length_range] at hsl
      refine ⟨_, _, _, rfl, fun b hb => ?_, kp4⟩
      rw [List.take_succ, hai] at hb
      rcases List.mem_append.mp hb with z | z
      · exact hal b z
      · have : b = a := by simpa using z
        rw [this]; exact hsl
  · rintro ds M2 ⟨o5, o6, o7, rfl, hal, kp2⟩
    rw [List.length_map, List.take_length] at hal
    have := hk M2 kp2
    rw [like_yes hal] at this
    exact sw_ret <| ev_bl this
theorem ok_law_like {f C mv : Addr} {fd : FuncData} {tk1 tk2 : Tok} (F : Fun K "_law_like" "_law_like" s_law_like f fd) (T : Bi mg) (c_law_run : Cal P w K mg base "_law_run" 2 ["moves", "standing", "word"] spLRun) : FnOk P w K mg base CX0 3 f fd ["moves", "solid", "one", "other"] (SpD K w spLLike) := by
  refine F.ok sc_law_like (fun vs H Q E h => SpD.len (n := 4) (spLLike_len) h) (fun cdv A outer s H vs Q E hr h => ?_)
  have hu := hu_of hr
  have hu16 := hu16_of hr
  refine ⟨_, (pss_cons (ps_for PassesOwn.never rfl (pi_range1 (by rfl) T.range (pa_cons (pe_ifExp (pt_cmpR op_eq (pe_callB cb_len (by rfl) T.len (by decide +kernel) (pa_cons (pe_ix ix_tup (pv 1) pe_int (fun _ _ => rfl)) pa_nil)) pe_int (nomark _)) pe_int pe_int) pa_nil)) (pg_name (i := 4) sc_law_like.nd rfl (Or.inl rfl))
(pss_one (ps_for PassesOwn.never rfl (pi_range1 (by rfl) T.range (pa_cons (pe_callB (cr_sum rfl) (by rfl) T.sum (by decide +kernel) (pa_cons (pe_lc (own := [("face", 6)]) (g := gName 6) (by rfl) sc_law_like.nd (pi_tup (pv 1)) (blkOk_by (own := [("face", 6)]) (N := N_law_like) (sc := defScope s_law_like) (by decide +kernel)) (fun _ _ _ _ _ => (pg_name (i := 6) sc_law_like.nd rfl (Or.inl rfl))) (fun _ _ _ _ _ => pts_nil) (fun _ _ _ _ _ => (pe_callB (cb_lenK rfl) (by rfl) T.len (by decide +kernel) (pa_cons (pv 6) pa_nil)))) pa_nil)) pa_nil)) (pg_name (i := 5) sc_law_like.nd rfl (Or.inl rfl))
(pss_one (ps_if (pt_cmpR (op_neD hr.units) (pe_cal c_law_run (hr.mono (by decide)) (by rfl) (pa_cons (pv 0) (pa_cons (pe_tup (pa_cons (pe_tup (pa_cons pe_int (pa_cons pe_int (pa_cons (pv 4) pa_nil)))) (pa_cons (pv 5) pa_nil))) (pa_cons (pv 2) pa_nil)))) (pe_cal c_law_run (hr.mono (by decide)) (by rfl) (pa_cons (pv 0) (pa_cons (pe_tup (pa_cons (pe_tup (pa_cons pe_int (pa_cons pe_int (pa_cons (pv 4) pa_nil)))) (pa_cons (pv 5) pa_nil))) (pa_cons (pv 3) pa_nil)))) (nomark _))
(pss_one (ps_ret pe_bl))
pss_nil)))))
(pss_one (ps_ret pe_bl))), go h ?_⟩
  clear hu hu16 hr h
  rintro l M k ⟨F, m, n, f, v, u, rfl, so, mo, hv, hu, hk⟩
  have hm := so.m34
  have n64 := so.n64
  obtain ⟨f0, hf0⟩ : ∃ f, F[0]? = some f := by
    cases F with
    | nil =>
      have h1 := so.perm.length_eq
      rw [List.length_range] at h1
      have := so.n0
      simp at h1; omega
    | cons f r => exact ⟨f, rfl⟩
  have hfl : f0.length = m := so.sz f0 (List.mem_of_getElem? hf0)
  have hsol0 : atI (F.map fun f => D.tup (f.map nD)) 0 = some (.tup (f0.map nD)) := atI_nat (j := 0) (by rw [List.getElem?_map, hf0]; rfl)
  have hFn : F.length * m = n := by
    have h1 := so.perm.length_eq
    rw [List.length_range] at h1
    have h2 := made_sum so.sz
    have h3 : ((F.map fun f => (f.length : Int))).sum = ((F.flatten.length : Nat) : Int) := by
      clear h1 h2 hf0 hfl hsol0 hk mo so
      induction F with
      | nil => rfl
      | cons f r ih => rw [List.map_cons, List.sum_cons, ih, List.flatten_cons, List.length_append]; omega
    rw [h3, h1] at h2
    omega
  have hlas : (lasts m).length = (if m = 4 then 1 else 2) ∧ ∀ i, i < (lasts m).length → (lasts m)[i]? = some i := by
    rcases hm with e | e <;> subst e
    · exact ⟨rfl, fun i hi => by rcases (show i = 0 ∨ i = 1 by have : i < 2 := hi; omega) with e | e <;> subst e <;> rfl⟩
    · exact ⟨rfl, fun i hi => by have : i = 0 := by have : i < 1 := hi; omega
                                 subst this; rfl⟩
  refine sw_seq <| sw_for <| iv_range1 <| av_cons <| EV.mono (k := fun d M' => d = nD (lasts m).length ∧ M' = M) ?_ ?_
  · refine ev_if <| tv_test <| ev_op <| ev_cb <| av_cons <| ev_op <| ev_var rfl <| ev_int <| rd_ixT (l := F.map fun f => D.tup (f.map nD)) hsol0 <| av_nil <| ra_lenT <| ev_int <| rd_eqI ⟨_, rfl, ifd (fun h => ?_) (fun h => ?_)⟩
    · rw [List.length_map, hfl] at h
      have : m = 4 := by omega
      subst this
      exact ev_int ⟨rfl, rfl⟩
    · rw [List.length_map, hfl] at h
      have : m = 3 := by omega
      subst this
      exact ev_int ⟨rfl, rfl⟩
  rintro d M1 ⟨rfl, rfl⟩
  refine av_nil ⟨_, rfl, by omega, by have := hlas.1; rw [this]; split <;> omega, ?_⟩
  rw [Int.toNat_natCast]
  refine FP.start (fun i ds M' => ∃ o5 o6 : Option D, ds = [some (.adr f), some (solidD F), some (.str (wS m v)), some (.str (wS m u)), o5, o6, none] ∧ (∀ a, a < i → a ∈ lasts m → ∀ s, s < n → runW m (bh F) (st0 a s) v = runW m (bh F) (st0 a s) u) ∧ M' = M1) ⟨none, none, rfl, fun a ha => absurd ha (Nat.not_lt_zero a), rfl⟩ ?_ ?_
  · rintro a d ds M2 hi ⟨o5, o6, rfl, hal, rfl⟩
    obtain ⟨hal2, rfl⟩ := rgD_in hi
    have ham : a ∈ lasts m := List.mem_of_getElem? (hlas.2 a hal2)
    have ha1 : a ≤ 1 ∧ (m = 4 → a = 0) := by
      unfold lasts at ham
      by_cases e : m = 4
      · rw [if_pos e] at ham; simp at ham; omega
      · rw [if_neg e] at ham; simp at ham; omega
    refine gv_name <| sw_for <| iv_range1 <| av_cons <| ev_cb <| av_cons <| ev_lc gw_name <| iv_tup <| ev_var rfl ⟨_, rfl, LP.map (fun j _ => .int ((F.getD j []).length : Nat)) (by rw [List.length_map]; exact sl (by have := Nat.le_mul_of_pos_right F.length so.m0; omega)) (fun j d hj => ?_) ?_⟩
    · rw [List.getElem?_map] at hj
      obtain ⟨g, hg, rfl⟩ := Option.map_eq_some_iff.mp hj
      have e : F.getD j [] = g := by rw [List.getD_eq_getElem?_getD, hg]; rfl
      exact gv_name <| tv_yes ⟨rfl, ev_cb <| av_cons <| ev_var rfl <| av_nil <| ra_lenT ⟨by rw [e, List.length_map], rfl⟩⟩
    have e1 : (F.map fun f => D.tup (f.map nD)).mapIdx (fun j _ => D.int ((F.getD j []).length : Nat)) = (F.map fun f => (f.length : Int)).map D.int := by
      apply List.ext_getElem?
      intro i
      rw [List.getElem?_mapIdx, List.getElem?_map, List.map_map, List.getElem?_map]
      cases hi : F[i]? with
      | none => rfl
      | some f => rw [List.getD_eq_getElem?_getD, hi]; rfl
    rw [e1]
    refine av_nil <| ra_sum .f <| av_nil ⟨_, rfl, ?_, ?_, ?_⟩
    · rw [made_sum so.sz]; omega
    · rw [made_sum so.sz, hFn]; omega
    rw [made_sum so.sz, hFn, Int.toNat_natCast]
    refine FP.start (fun s ds M' => ∃ o6 : Option D, ds = [some (.adr f), some (solidD F), some (.str (wS m v)), some (.str (wS m u)), some (nD a), o6, none] ∧ (∀ s', s' < s → runW m (bh F) (st0 a s') v = runW m (bh F) (st0 a s') u) ∧ M' = M2) ⟨o6, by rw [Int.zero_add]; rfl, fun s hs => absurd hs (Nat.not_lt_zero s), rfl⟩ ?_ ?_
    · rintro s d ds M4 hs ⟨o6, rfl, hsl, rfl⟩
      obtain ⟨hsn, rfl⟩ := rgD_in hs
      rw [Int.zero_add]
      have o0 := ok0 so hsn ha1.1 ha1.2
      refine gv_name <| sw_if <| tv_test <| ev_op <| ev_call <| av_cons <| ev_var rfl <| av_cons <| ev_tup <| av_cons <| ev_tup <| av_cons <| ev_int <| av_cons <| ev_int <| av_cons <| ev_var rfl <| av_nil ⟨l3, av_cons <| ev_var rfl <| av_nil ⟨l2, av_cons <| ev_var rfl <| av_nil ⟨F, m, n, f, st0 a s, v, rfl, so, mo, o0, hv, ?_⟩⟩⟩
      refine ev_call <| av_cons <| ev_var rfl <| av_cons <| ev_tup <| av_cons <| ev_tup <| av_cons <| ev_int <| av_cons <| ev_int <| av_cons <| ev_var rfl <| av_nil ⟨l3, av_cons <| ev_var rfl <| av_nil ⟨l2, av_cons <| ev_var rfl <| av_nil ⟨F, m, n, f, st0 a s, u, rfl, so, mo, o0, hu, rd_neD rfl rfl rfl rfl ⟨_, rfl, ?_⟩⟩⟩⟩
      rw [stD_eqv]
      refine ifn (fun hne => ?_) (fun he => sw_next ?_)
      · rw [like_no ham hsn hne] at hk
        exact sw_ret <| ev_bl hk
      · refine ⟨_, rfl, fun s'' h => ?_, rfl⟩
        by_cases e : s'' = s
        · rw [e]; exact he
        · exact hsl s'' (by omega)
    · rintro ds M4 ⟨o6, rfl, hsl, rfl⟩
      rw [rgD_len] at hsl
      refine ⟨_, _, rfl, fun b hb hbm => ?_, rfl⟩
      by_cases e : b = a
      · rw [e]; exact hsl
      · exact hal b (by omega) hbm
  · rintro ds M2 ⟨o5, o6, rfl, hal, rfl⟩
    rw [rgD_len] at hal
    have hall : ∀ a ∈ lasts m, ∀ s, s < n → runW m (bh F) (st0 a s) v = runW m (bh F) (st0 a s) u := fun a ha => hal a (by
      obtain ⟨i, hi, e⟩ := List.getElem_of_mem ha
      have := hlas.2 i hi
      rw [List.getElem?_eq_getElem hi, e] at this
      have := Option.some.inj this
      omega) ha
    rw [like_yes hall] at hk
    exact sw_ret <| ev_bl hk
end
end WK

set_option Elab.async false
set_option linter.all false
set_option maxRecDepth 100000
set_option maxHeartbeats 4000000
namespace WK
open PySem PySem.Spec PyProof.Rows L2 Evl PL
theorem plain_st (t : Std) : plain (stD t) = true := rfl
theorem sz_st (t : Std) : sz (stD t) < 1000 := by show 6 < 1000; decide
section
variable {K : PySem.W.Frag} {w : World} {ds : DS} {M : MH} {F : List (List Nat)} {m n : Nat}
theorem sol_first (so : Sol F m n) : atI (F.map fun f => D.tup (f.map nD)) 0 = some (.tup ((F.getD 0 []).map nD)) ∧ (F.getD 0 []).length = m := by
  obtain ⟨f0, hf0⟩ : ∃ f, F[0]? = some f := by
    cases F with
    | nil =>
      have h1 := so.perm.length_eq
      rw [List.length_range] at h1
      have := so.n0
      simp at h1; omega
    | cons f r => exact ⟨f, rfl⟩
  have e : F.getD 0 [] = f0 := by rw [List.getD_eq_getElem?_getD, hf0]; rfl
  rw [e]
  exact ⟨atI_nat (j := 0) (by rw [List.getElem?_map, hf0]; rfl), so.sz f0 (List.mem_of_getElem? hf0)⟩
theorem sol_len (so : Sol F m n) : F.length * m = n := by
  have h1 := so.perm.length_eq
  rw [List.length_range] at h1
  have h2 := made_sum so.sz
  have h3 : ∀ F : List (List Nat), ((F.map fun f => (f.length : Int))).sum = ((F.flatten.length : Nat) : Int) := fun F => by
    induction F with
    | nil => rfl
    | cons f r ih => rw [List.map_cons, List.sum_cons, ih, List.flatten_cons, List.length_append]; omega
  rw [h3, h1] at h2
  omega
theorem ev_letters {j : Nat} {q : D → MH → Prop} (so : Sol F m n) (hj : ds[j]? = some (some (solidD F))) (hk : q (.str (ltS m)) M) :
    EV K w (tIf (tTest (tOp rEq (tCB (PL.rLen K) (tCons (tOp (rIxT K) (tVar j) (tC (.int 0))) tNil)) (tC (.int 4)))) (tC (.str "ENWS")) (tC (.str "abc"))) ds M q := by
  obtain ⟨h0, hfl⟩ := sol_first so
  refine ev_if <| tv_test <| ev_op <| ev_cb <| av_cons <| ev_op <| ev_var hj <| ev_int <| rd_ixT (l := F.map fun f => D.tup (f.map nD)) h0 <| av_nil <| ra_lenT <| ev_int <| rd_eqI ⟨_, rfl, ifd (fun h => ?_) (fun h => ?_)⟩
  · rw [List.length_map, hfl] at h
    have : m = 4 := by omega
    subst this
    exact ev_str hk
  · rw [List.length_map, hfl] at h
    have : m = 3 := by have := so.m34; omega
    subst this
    exact ev_str hk
theorem ev_sumlen {j v : Nat} {q : D → MH → Prop} (so : Sol F m n) (hj : ds[j]? = some (some (solidD F))) (hv : v < ds.length) (hk : q (nD n) M) :
    EV K w (tCB (rSum K) (tCons (tLc (iTup K (tVar j)) (gName v) tYes (tCB (PL.rLen K) (tCons (tVar v) tNil)) [v]) tNil)) ds M q := by
  have n64 := so.n64
  have hFn := sol_len so
  refine ev_cb <| av_cons <| ev_lc gw_name <| iv_tup <| ev_var hj ⟨_, rfl, LP.map (fun j _ => .int ((F.getD j []).length : Nat)) (by rw [List.length_map]; exact sl (by have := Nat.le_mul_of_pos_right F.length so.m0; omega)) (fun j d hj => ?_) ?_⟩
  · rw [List.getElem?_map] at hj
    obtain ⟨g, hg, rfl⟩ := Option.map_eq_some_iff.mp hj
    have e : F.getD j [] = g := by rw [List.getD_eq_getElem?_getD, hg]; rfl
    have hs : ((wipeD ds [v]).set v (some (D.tup (g.map nD))))[v]? = some (some (D.tup (g.map nD))) := List.getElem?_set_self (by show v < (ds.set v none).length; rw [List.length_set]; exact hv)
    exact gv_name <| tv_yes ⟨rfl, ev_cb <| av_cons <| ev_var hs <| av_nil <| ra_lenT ⟨by rw [e, List.length_map], rfl⟩⟩
  have e1 : (F.map fun f => D.tup (f.map nD)).mapIdx (fun j _ => D.int ((F.getD j []).length : Nat)) = (F.map fun f => (f.length : Int)).map D.int := by
    apply List.ext_getElem?
    intro i
    rw [List.getElem?_mapIdx, List.getElem?_map, List.map_map, List.getElem?_map]
    cases hi : F[i]? with
    | none => rfl
    | some f => rw [List.getD_eq_getElem?_getD, hi]; rfl
  rw [e1]
  refine av_nil <| ra_sum .f ?_
  rw [made_sum so.sz, hFn]; exact hk
end
theorem cube_sol : Sol cubeF 4 24 := ⟨.inr rfl, by decide +kernel, by decide +kernel, by decide, by decide, by decide⟩
theorem knot_sol : Sol knotF 4 4 := ⟨.inr rfl, by decide +kernel, by decide +kernel, by decide, by decide, by decide⟩
theorem tetra_sol : Sol tetraF 3 12 := ⟨.inl rfl, by decide +kernel, by decide +kernel, by decide, by decide, by decide⟩
def spHand : PL.Spec := fun l M k => ∃ d, l = [d] ∧ ∀ M', Keep M M' → k (.bl true) M'
theorem spHand_len : ∀ l M k, spHand l M k → l.length = 1 := fun l M k ⟨_, h, _⟩ => by rw [h]; rfl
theorem sE : ("E" : Str) = lS 4 0 := by decide +kernel
theorem sN : ("N" : Str) = lS 4 1 := by decide +kernel
theorem sA : ("a" : Str) = lS 3 0 := by decide +kernel
theorem sEE : ("EEEE" : Str) = wS 4 [0, 0, 0, 0] := by decide +kernel
theorem sAA : ("abcabc" : Str) = wS 3 [0, 1, 2, 0, 1, 2] := by decide +kernel
theorem hd1 : step 4 (bh cubeF) (st0 0 0) 0 = ⟨1, 0, 0, 10⟩ := by decide +kernel
theorem hd2 : lapS 4 (bh cubeF) [0, 0, 0, 0] (st0 0 0) 1 = ⟨4, 0, 0, 0⟩ := by decide +kernel
theorem hd3 : step 4 (bh knotF) (st0 0 0) 0 = ⟨1, 0, 0, 0⟩ := by decide +kernel
theorem hd4 : step 4 (bh knotF) (st0 0 0) 1 = ⟨0, 1, 0, 0⟩ := by decide +kernel
theorem hd5 : lapS 3 (bh tetraF) [0, 1, 2, 0, 1, 2] (st0 0 0) 1 = st0 0 0 := by decide +kernel
theorem hd6 : step 3 (bh tetraF) (st0 0 0) 0 = ⟨0, 0, 1, 1⟩ := by decide +kernel
/-! what stays through a law's run -/
structure Bd3 (p q : Addr) (F : List (List Nat)) (m n : Nat) (f : Addr) (M M' : MH) : Prop where
  dk : DkOk p q M'
  fr : Fr p q M M'
  mo : MovesOk F m n f M'
theorem Bd3.keep {p q : Addr} {F : List (List Nat)} {m n : Nat} {f : Addr} {M M' M'' : MH} (b : Bd3 p q F m n f M M') (kp : Keep M' M'') : Bd3 p q F m n f M M'' := ⟨b.dk.keep kp, b.fr.trans kp.fr, b.mo.keep kp⟩
theorem Bd3.deal {p q : Addr} {F : List (List Nat)} {m n : Nat} {f : Addr} {M M' M'' : MH} (b : Bd3 p q F m n f M M') (d : DkOk p q M'') (fr : Fr p q M' M'') : Bd3 p q F m n f M M'' := ⟨d, b.fr.trans fr, b.mo.fr fr b.dk⟩
theorem lap_id {m : Nat} {b : Nat → Nat} {w : List Nat} {t : Std} (h : runW m b t w = t) : ∀ c, lapS m b w t c = t
  | 0 => rfl
  | c + 1 => by rw [lapS_succ, lap_id h c, h]
def spAsked : PL.Spec := fun l M k => ∃ p q F m n mn tm, l = [.adr p, solidD F, nD mn, nD tm] ∧ Sol F m n ∧ mn ≤ 150 ∧ tm ≤ 9 ∧ DkOk p q M ∧ ∀ M', DkOk p q M' → Fr p q M M' → k (.bl true) M'
theorem spAsked_len : ∀ l M k, spAsked l M k → l.length = 4 := fun l M k ⟨_, _, _, _, _, _, _, h, _⟩ => by rw [h]; rfl
abbrev s_law_asked : Stmt := top 36
abbrev N_law_asked : List Str := ["deck", "solid", "many", "times", "letters", "moves", "far", "last", "side", "standing", "now", "word", "letter", "then", "due", "at", "half", "other", "there", "moved", "face"]
theorem sc_law_asked : FnScope N_law_asked ["deck", "solid", "many", "times"] (defScope s_law_asked) := ⟨rfl, rfl, rfl, by decide +kernel, rfl, by decide +kernel, by decide +kernel⟩
abbrev s_law_hand : Stmt := top 40
abbrev N_law_hand : List Str := ["deck", "cube", "home", "knot", "tetra"]
theorem sc_law_hand : FnScope N_law_hand ["deck"] (defScope s_law_hand) := ⟨rfl, rfl, rfl, by decide +kernel, rfl, by decide +kernel, by decide +kernel⟩
section
variable {P : Program} {w : World} {K : PySem.W.Frag} {mg : Str → Option Value} {base : Heap}
theorem ok_law_hand {f C mv : Addr} {fd : FuncData} {tk1 tk2 : Tok} (F : Fun K "_law_hand" "_law_hand" s_law_hand f fd) (T : Bi mg) (c_law_same : Cal P w K mg base "_law_same" 1 ["told", "due"] spSame) (c_floor_run : Cal P w K mg base "floor_run" 6 ["solid", "standing", "word", "times"] spFRun) (c_floor_step : Cal P w K mg base "floor_step" 4 ["solid", "standing", "letter"] spFStep) : FnOk P w K mg base CX0 7 f fd ["deck"] (SpD K w spHand) := by
  refine F.ok sc_law_hand (fun vs H Q E h => SpD.len (n := 1) (spHand_len) h) (fun cdv A outer s H vs Q E hr h => ?_)
  have hu := hu_of hr
  have hu16 := hu16_of hr
  refine ⟨_, (pss_cons (ps_set (i := 1) sc_law_hand.nd rfl (Or.inl rfl) (pe_tup (pa_cons (pe_tup (pa_cons pe_int (pa_cons pe_int (pa_cons pe_int (pa_cons pe_int pa_nil))))) (pa_cons (pe_tup (pa_cons pe_int (pa_cons pe_int (pa_cons pe_int (pa_cons pe_int pa_nil))))) (pa_cons (pe_tup (pa_cons pe_int (pa_cons pe_int (pa_cons pe_int (pa_cons pe_int pa_nil))))) (pa_cons (pe_tup (pa_cons pe_int (pa_cons pe_int (pa_cons pe_int (pa_cons pe_int pa_nil))))) (pa_cons (pe_tup (pa_cons pe_int (pa_cons pe_int (pa_cons pe_int (pa_cons pe_int pa_nil))))) (pa_cons (pe_tup (pa_cons pe_int (pa_cons pe_int (pa_cons pe_int (pa_cons pe_int pa_nil))))) pa_nil))))))))
(pss_cons (ps_set (i := 2) sc_law_hand.nd rfl (Or.inl rfl) (pe_tup (pa_cons (pe_tup (pa_cons pe_int (pa_cons pe_int (pa_cons pe_int pa_nil)))) (pa_cons pe_int pa_nil))))
(pss_cons (ps_if (PW.pt (pw_or (pt_not (pt_val (pe_cal c_law_same (hr.mono (by decide)) (by rfl) (pa_cons (pe_cal c_floor_step (hr.mono (by decide)) (by rfl) (pa_cons (pv 1) (pa_cons (pv 2) (pa_cons pe_str pa_nil)))) (pa_cons (pe_tup (pa_cons (pe_tup (pa_cons pe_int (pa_cons pe_int (pa_cons pe_int pa_nil)))) (pa_cons pe_int pa_nil))) pa_nil))))) (pw_or1 (pt_not (pt_val (pe_cal c_law_same (hr.mono (by decide)) (by rfl) (pa_cons (pe_cal c_floor_run (hr.mono (by decide)) (by rfl) (pa_cons (pv 1) (pa_cons (pv 2) (pa_cons pe_str (pa_cons pe_int pa_nil))))) (pa_cons (pe_tup (pa_cons (pe_tup (pa_cons pe_int (pa_cons pe_int (pa_cons pe_int pa_nil)))) (pa_cons pe_int pa_nil))) pa_nil))))))))
(pss_one (ps_ret pe_bl))
pss_nil)
(pss_cons (ps_set (i := 3) sc_law_hand.nd rfl (Or.inl rfl) (pe_tup (pa_cons (pe_tup (pa_cons pe_int (pa_cons pe_int (pa_cons pe_int (pa_cons pe_int pa_nil))))) pa_nil)))
(pss_cons (ps_if (pt_not (pt_val (pe_cal c_law_same (hr.mono (by decide)) (by rfl) (pa_cons (pe_tup (pa_cons (pe_cal c_floor_step (hr.mono (by decide)) (by rfl) (pa_cons (pv 3) (pa_cons (pv 2) (pa_cons pe_str pa_nil)))) (pa_cons (pe_cal c_floor_step (hr.mono (by decide)) (by rfl) (pa_cons (pv 3) (pa_cons (pv 2) (pa_cons pe_str pa_nil)))) pa_nil))) (pa_cons (pe_tup (pa_cons (pe_tup (pa_cons (pe_tup (pa_cons pe_int (pa_cons pe_int (pa_cons pe_int pa_nil)))) (pa_cons pe_int pa_nil))) (pa_cons (pe_tup (pa_cons (pe_tup (pa_cons pe_int (pa_cons pe_int (pa_cons pe_int pa_nil)))) (pa_cons pe_int pa_nil))) pa_nil))) pa_nil)))))
(pss_one (ps_ret pe_bl))
pss_nil)
(pss_cons (ps_set (i := 4) sc_law_hand.nd rfl (Or.inl rfl) (pe_tup (pa_cons (pe_tup (pa_cons pe_int (pa_cons pe_int (pa_cons pe_int pa_nil)))) (pa_cons (pe_tup (pa_cons pe_int (pa_cons pe_int (pa_cons pe_int pa_nil)))) (pa_cons (pe_tup (pa_cons pe_int (pa_cons pe_int (pa_cons pe_int pa_nil)))) (pa_cons (pe_tup (pa_cons pe_int (pa_cons pe_int (pa_cons pe_int pa_nil)))) pa_nil))))))
(pss_one (ps_ret (pe_and (pe_cal c_law_same (hr.mono (by decide)) (by rfl) (pa_cons (pe_cal c_floor_run (hr.mono (by decide)) (by rfl) (pa_cons (pv 4) (pa_cons (pv 2) (pa_cons pe_str (pa_cons pe_int pa_nil))))) (pa_cons (pv 2) pa_nil))) (pe_one (pe_cal c_law_same (hr.mono (by decide)) (by rfl) (pa_cons (pe_cal c_floor_step (hr.mono (by decide)) (by rfl) (pa_cons (pv 4) (pa_cons (pv 2) (pa_cons pe_str pa_nil)))) (pa_cons (pe_tup (pa_cons (pe_tup (pa_cons pe_int (pa_cons pe_int (pa_cons pe_int pa_nil)))) (pa_cons pe_int pa_nil))) pa_nil))))))))))))), go h ?_⟩
  clear hu hu16 hr h
  rintro l M k ⟨d, rfl, hk⟩
  have o4 : ∀ {F : List (List Nat)} {n : Nat}, Sol F 4 n → Ok 4 n (st0 0 0) := fun so => ok0 so so.n0 (by decide) fun _ => rfl
  have o3 : ∀ {F : List (List Nat)} {n : Nat}, Sol F 3 n → Ok 3 n (st0 0 0) := fun so => ok0 so so.n0 (by decide) fun _ => rfl
  refine sw_seq <| sw_asg ?_
  repeat (first | (refine ev_tup ?_) | (refine av_cons ?_) | (refine ev_int ?_) | (refine av_nil ⟨sl (by decide), ?_⟩))
  refine gv_name (d := solidD cubeF) ?_
  refine sw_seq <| sw_asg ?_
  repeat (first | (refine ev_tup ?_) | (refine av_cons ?_) | (refine ev_int ?_) | (refine av_nil ⟨sl (by decide), ?_⟩))
  refine gv_name (d := stD (st0 0 0)) ?_
  refine sw_seq <| sw_if <| tv_or <| tv_not <| tv_B <| ev_call <| av_cons <| ev_call <| av_cons <| ev_var rfl <| av_cons <| ev_var rfl <| av_cons <| ev_str <| av_nil ⟨cubeF, 4, 24, st0 0 0, 0, by rw [sE], cube_sol, o4 cube_sol, by decide, fun M1 kp1 => ?_⟩
  repeat (first | (refine ev_tup ?_) | (refine av_cons ?_) | (refine ev_int ?_) | (refine av_nil ⟨sl (by decide), ?_⟩))
  refine av_nil ⟨stD ⟨1, 0, 0, 10⟩, by rw [hd1]; rfl, plain_st _, sz_st _, fun M2 kp2 => ⟨true, rfl, iff' rfl ?_⟩⟩
  refine tv_not <| tv_B <| ev_call <| av_cons <| ev_call <| av_cons <| ev_var rfl <| av_cons <| ev_var rfl <| av_cons <| ev_str <| av_cons <| ev_int <| av_nil ⟨cubeF, 4, 24, st0 0 0, [0, 0, 0, 0], 1, by rw [sEE]; rfl, cube_sol, o4 cube_sol, by decide, by decide, fun M3 kp3 => ?_⟩
  repeat (first | (refine ev_tup ?_) | (refine av_cons ?_) | (refine ev_int ?_) | (refine av_nil ⟨sl (by decide), ?_⟩))
  refine av_nil ⟨stD ⟨4, 0, 0, 0⟩, by rw [hd2]; rfl, plain_st _, sz_st _, fun M4 kp4 => ⟨true, rfl, iff' rfl <| sw_next ?_⟩⟩
  refine sw_seq <| sw_asg ?_
  repeat (first | (refine ev_tup ?_) | (refine av_cons ?_) | (refine ev_int ?_) | (refine av_nil ⟨sl (by decide), ?_⟩))
  refine gv_name (d := solidD knotF) ?_
  refine sw_seq <| sw_if <| tv_not <| tv_B <| ev_call <| av_cons <| ev_tup <| av_cons <| ev_call <| av_cons <| ev_var rfl <| av_cons <| ev_var rfl <| av_cons <| ev_str <| av_nil ⟨knotF, 4, 4, st0 0 0, 0, by rw [sE], knot_sol, o4 knot_sol, by decide, fun M5 kp5 => ?_⟩
  refine av_cons <| ev_call <| av_cons <| ev_var rfl <| av_cons <| ev_var rfl <| av_cons <| ev_str <| av_nil ⟨knotF, 4, 4, st0 0 0, 1, by rw [sN], knot_sol, o4 knot_sol, by decide, fun M6 kp6 => ?_⟩
  refine av_nil ⟨l2, ?_⟩
  repeat (first | (refine ev_tup ?_) | (refine av_cons ?_) | (refine ev_int ?_) | (refine av_nil ⟨sl (by decide), ?_⟩))
  refine av_nil ⟨.tup [stD ⟨1, 0, 0, 0⟩, stD ⟨0, 1, 0, 0⟩], by rw [hd3, hd4]; rfl, rfl, (show 13 < 1000 by decide), fun M7 kp7 => ⟨true, rfl, iff' rfl <| sw_next ?_⟩⟩
  refine sw_seq <| sw_asg ?_
  repeat (first | (refine ev_tup ?_) | (refine av_cons ?_) | (refine ev_int ?_) | (refine av_nil ⟨sl (by decide), ?_⟩))
  refine gv_name (d := solidD tetraF) ?_
  refine sw_ret <| ev_andV <| ev_call <| av_cons <| ev_call <| av_cons <| ev_var rfl <| av_cons <| ev_var rfl <| av_cons <| ev_str <| av_cons <| ev_int <| av_nil ⟨tetraF, 3, 12, st0 0 0, [0, 1, 2, 0, 1, 2], 1, by rw [sAA]; rfl, tetra_sol, o3 tetra_sol, by decide, by decide, fun M8 kp8 => ?_⟩
  refine av_cons <| ev_var rfl <| av_nil ⟨stD (st0 0 0), by rw [hd5], plain_st _, sz_st _, fun M9 kp9 => ⟨true, rfl, ift rfl ?_⟩⟩
  refine ev_call <| av_cons <| ev_call <| av_cons <| ev_var rfl <| av_cons <| ev_var rfl <| av_cons <| ev_str <| av_nil ⟨tetraF, 3, 12, st0 0 0, 0, by rw [sA], tetra_sol, o3 tetra_sol, by decide, fun M10 kp10 => ?_⟩
  repeat (first | (refine ev_tup ?_) | (refine av_cons ?_) | (refine ev_int ?_) | (refine av_nil ⟨sl (by decide), ?_⟩))
  refine av_nil ⟨stD ⟨0, 0, 1, 1⟩, by rw [hd6]; rfl, plain_st _, sz_st _, fun M11 kp11 => ?_⟩
  exact hk _ ((((((((((kp1.trans kp2).trans kp3).trans kp4).trans kp5).trans kp6).trans kp7).trans kp8).trans kp9).trans kp10).trans kp11)
theorem ok_law_asked {f C mv : Addr} {fd : FuncData} {tk1 tk2 : Tok} (F : Fun K "_law_asked" "_law_asked" s_law_asked f fd) (T : Bi mg) (c_law_moves : Cal P w K mg base "_law_moves" 2 ["solid"] spMoves) (c_law_deal : Cal P w K mg base "_law_deal" 1 ["deck", "many"] spDeal) (c_law_text : Cal P w K mg base "_law_text" 3 ["deck", "letters", "many"] spText) (c_law_run : Cal P w K mg base "_law_run" 2 ["moves", "standing", "word"] spLRun) (c_floor_run : Cal P w K mg base "floor_run" 6 ["solid", "standing", "word", "times"] spFRun) (c_law_stepped : Cal P w K mg base "_law_stepped" 1 ["moves", "standing", "letter"] spStepped) (c_law_same : Cal P w K mg base "_law_same" 1 ["told", "due"] spSame) (c_floor_step : Cal P w K mg base "floor_step" 4 ["solid", "standing", "letter"] spFStep) (c_law_back : Cal P w K mg base "_law_back" 1 ["word"] spBack) : FnOk P w K mg base CX0 7 f fd ["deck", "solid", "many", "times"] (SpD K w spAsked) := by
  refine F.ok sc_law_asked (fun vs H Q E h => SpD.len (n := 4) (spAsked_len) h) (fun cdv A outer s H vs Q E hr h => ?_)
  have hu := hu_of hr
  have hu16 := hu16_of hr
  refine ⟨_, (pss_cons (ps_set (i := 4) sc_law_asked.nd rfl (Or.inl rfl) (pe_ifExp (pt_cmpR op_eq (pe_callB cb_len (by rfl) T.len (by decide +kernel) (pa_cons (pe_ix ix_tup (pv 1) pe_int (fun _ _ => rfl)) pa_nil)) pe_int (nomark _)) pe_str pe_str))
(pss_cons (ps_set (i := 5) sc_law_asked.nd rfl (Or.inl rfl) (pe_cal c_law_moves (hr.mono (by decide)) (by rfl) (pa_cons (pv 1) pa_nil)))
(pss_cons (ps_set (i := 6) sc_law_asked.nd rfl (Or.inl rfl) (pe_ix ix_tup (pe_tup (pa_cons pe_int (pa_cons pe_int (pa_cons (pe_un un_neg pe_int) (pa_cons (pe_op op_pow pe_int pe_int) (pa_cons (pe_un un_neg (pe_op op_pow pe_int pe_int)) (pa_cons (pe_op op_pow pe_int pe_int) pa_nil))))))) (pe_cal c_law_deal (hr.mono (by decide)) (by rfl) (pa_cons (pv 0) (pa_cons pe_int pa_nil))) (fun _ _ => rfl)))
(pss_cons (ps_set (i := 7) sc_law_asked.nd rfl (Or.inl rfl) (pe_ifExp (pt_cmpR op_eq (pv 4) pe_str (nomark _)) (pe_cal c_law_deal (hr.mono (by decide)) (by rfl) (pa_cons (pv 0) (pa_cons pe_int pa_nil))) pe_int))
(pss_cons (ps_set (i := 8) sc_law_asked.nd rfl (Or.inl rfl) (pe_cal c_law_deal (hr.mono (by decide)) (by rfl) (pa_cons (pv 0) (pa_cons (pe_callB (cr_sum rfl) (by rfl) T.sum (by decide +kernel) (pa_cons (pe_lc (own := [("face", 20)]) (g := gName 20) (by rfl) sc_law_asked.nd (pi_tup (pv 1)) (blkOk_by (own := [("face", 20)]) (N := N_law_asked) (sc := defScope s_law_asked) (by decide +kernel)) (fun _ _ _ _ _ => (pg_name (i := 20) sc_law_asked.nd rfl (Or.inl rfl))) (fun _ _ _ _ _ => pts_nil) (fun _ _ _ _ _ => (pe_callB (cb_lenK rfl) (by rfl) T.len (by decide +kernel) (pa_cons (pv 20) pa_nil)))) pa_nil)) pa_nil))))
(pss_cons (ps_set (i := 9) sc_law_asked.nd rfl (Or.inl rfl) (pe_tup (pa_cons (pe_tup (pa_cons (pv 6) (pa_cons (pe_op op_sub (pe_cal c_law_deal (hr.mono (by decide)) (by rfl) (pa_cons (pv 0) (pa_cons pe_int pa_nil))) pe_int) (pa_cons (pv 7) pa_nil)))) (pa_cons (pv 8) pa_nil))))
(pss_cons (ps_set (i := 10) sc_law_asked.nd rfl (Or.inl rfl) (pv 9))
(pss_cons (ps_set (i := 11) sc_law_asked.nd rfl (Or.inl rfl) (pe_cal c_law_text (hr.mono (by decide)) (by rfl) (pa_cons (pv 0) (pa_cons (pv 4) (pa_cons (pv 2) pa_nil)))))
(pss_cons (ps_for PassesOwn.never rfl (pi_str (pe_op op_add_str (pv 4) (pe_slice sl_str (pv 11) po_none (po_some pe_int)))) (pg_name (i := 12) sc_law_asked.nd rfl (Or.inl rfl))
(pss_cons (ps_set (i := 13) sc_law_asked.nd rfl (Or.inl rfl) (pe_cal c_law_stepped (hr.mono (by decide)) (by rfl) (pa_cons (pv 5) (pa_cons (pv 10) (pa_cons (pv 12) pa_nil)))))
(pss_cons (ps_if (pt_not (pt_val (pe_cal c_law_same (hr.mono (by decide)) (by rfl) (pa_cons (pe_cal c_floor_step (hr.mono (by decide)) (by rfl) (pa_cons (pv 1) (pa_cons (pv 10) (pa_cons (pv 12) pa_nil)))) (pa_cons (pv 13) pa_nil)))))
(pss_one (ps_ret pe_bl))
pss_nil)
(pss_one (ps_set (i := 10) sc_law_asked.nd rfl (Or.inl rfl) (pe_ifExp (pt_cmpR op_lt (pe_callB call_abs (by rfl) T.abs (by decide +kernel) (pa_cons (pe_ix ix_tup (pe_ix ix_tup (pv 13) pe_int (fun _ _ => rfl)) pe_int (fun _ _ => rfl)) pa_nil)) (pe_op op_pow pe_int pe_int) (nomark _)) (pv 13) (pv 9)))))))
(pss_cons (ps_set (i := 14) sc_law_asked.nd rfl (Or.inl rfl) (pe_cal c_law_run (hr.mono (by decide)) (by rfl) (pa_cons (pv 5) (pa_cons (pv 9) (pa_cons (pe_op op_mulS (pv 11) (pv 3)) pa_nil)))))
(pss_cons (ps_if (pt_not (pt_val (pe_cal c_law_same (hr.mono (by decide)) (by rfl) (pa_cons (pe_cal c_floor_run (hr.mono (by decide)) (by rfl) (pa_cons (pv 1) (pa_cons (pv 9) (pa_cons (pv 11) (pa_cons (pv 3) pa_nil))))) (pa_cons (pv 14) pa_nil)))))
(pss_one (ps_ret pe_bl))
pss_nil)
(pss_cons (ps_if (pt_not (pt_val (pe_cal c_law_same (hr.mono (by decide)) (by rfl) (pa_cons (pe_cal c_floor_run (hr.mono (by decide)) (by rfl) (pa_cons (pv 1) (pa_cons (pv 9) (pa_cons (pe_op op_add_str (pv 11) (pe_cal c_law_back (hr.mono (by decide)) (by rfl) (pa_cons (pv 11) pa_nil))) (pa_cons (pe_op op_add pe_int (pe_cal c_law_deal (hr.mono (by decide)) (by rfl) (pa_cons (pv 0) (pa_cons pe_int pa_nil)))) pa_nil))))) (pa_cons (pv 9) pa_nil)))))
(pss_one (ps_ret pe_bl))
pss_nil)
(pss_cons (ps_set (i := 15) sc_law_asked.nd rfl (Or.inl rfl) (pe_cal c_law_deal (hr.mono (by decide)) (by rfl) (pa_cons (pv 0) (pa_cons (pe_op op_add (pe_callB cb_len (by rfl) T.len (by decide +kernel) (pa_cons (pv 11) pa_nil)) pe_int) pa_nil))))
(pss_cons (ps_set (i := 16) sc_law_asked.nd rfl (Or.inl rfl) (pe_cal c_law_run (hr.mono (by decide)) (by rfl) (pa_cons (pv 5) (pa_cons (pv 9) (pa_cons (pe_slice sl_str (pv 11) po_none (po_some (pv 15))) pa_nil)))))
(pss_cons (ps_if (PW.pt (pw_and (pt_cmpR op_le (pe_callB call_abs (by rfl) T.abs (by decide +kernel) (pa_cons (pe_ix ix_tup (pe_ix ix_tup (pv 16) pe_int (fun _ _ => rfl)) pe_int (fun _ _ => rfl)) pa_nil)) (pe_op op_pow pe_int pe_int) (nomark _)) (pw_and1 (pt_not (pt_val (pe_cal c_law_same (hr.mono (by decide)) (by rfl) (pa_cons (pe_cal c_floor_run (hr.mono (by decide)) (by rfl) (pa_cons (pv 1) (pa_cons (pv 16) (pa_cons (pe_slice sl_str (pv 11) (po_some (pv 15)) po_none) (pa_cons pe_int pa_nil))))) (pa_cons (pe_cal c_law_run (hr.mono (by decide)) (by rfl) (pa_cons (pv 5) (pa_cons (pv 9) (pa_cons (pv 11) pa_nil)))) pa_nil))))))))
(pss_one (ps_ret pe_bl))
pss_nil)
(pss_cons (ps_set (i := 17) sc_law_asked.nd rfl (Or.inl rfl) (pe_tup (pa_cons (pe_tup (pa_cons (pe_op op_sub pe_int (pe_cal c_law_deal (hr.mono (by decide)) (by rfl) (pa_cons (pv 0) (pa_cons pe_int pa_nil)))) (pa_cons (pe_op op_pow pe_int pe_int) (pa_cons (pv 7) pa_nil)))) (pa_cons (pv 8) pa_nil))))
(pss_cons (ps_set (i := 18) sc_law_asked.nd rfl (Or.inl rfl) (pe_cal c_floor_run (hr.mono (by decide)) (by rfl) (pa_cons (pv 1) (pa_cons (pv 17) (pa_cons (pv 11) (pa_cons (pv 3) pa_nil))))))
(pss_cons (ps_set (i := 19) sc_law_asked.nd rfl (Or.inl rfl) (pe_tup (pa_cons (pe_tup (pa_cons (pe_op op_add (pe_op op_sub (pe_ix ix_tup (pe_ix ix_tup (pv 14) pe_int (fun _ _ => rfl)) pe_int (fun _ _ => rfl)) (pv 6)) (pe_ix ix_tup (pe_ix ix_tup (pv 17) pe_int (fun _ _ => rfl)) pe_int (fun _ _ => rfl))) (pa_cons (pe_op op_add (pe_op op_sub (pe_ix ix_tup (pe_ix ix_tup (pv 14) pe_int (fun _ _ => rfl)) pe_int (fun _ _ => rfl)) (pe_ix ix_tup (pe_ix ix_tup (pv 9) pe_int (fun _ _ => rfl)) pe_int (fun _ _ => rfl))) (pe_op op_pow pe_int pe_int)) (pa_cons (pe_ix ix_tup (pe_ix ix_tup (pv 14) pe_int (fun _ _ => rfl)) pe_int (fun _ _ => rfl)) pa_nil)))) (pa_cons (pe_ix ix_tup (pv 14) pe_int (fun _ _ => rfl)) pa_nil))))
(pss_one (ps_ret (pe_and (pe_cal c_law_same (hr.mono (by decide)) (by rfl) (pa_cons (pv 18) (pa_cons (pv 19) pa_nil))) (pe_and (pe_cal c_law_same (hr.mono (by decide)) (by rfl) (pa_cons (pe_cal c_floor_run (hr.mono (by decide)) (by rfl) (pa_cons (pv 1) (pa_cons (pv 9) (pa_cons (pv 11) (pa_cons pe_int pa_nil))))) (pa_cons (pv 9) pa_nil))) (pe_one (pe_cal c_law_same (hr.mono (by decide)) (by rfl) (pa_cons (pe_cal c_floor_run (hr.mono (by decide)) (by rfl) (pa_cons (pv 1) (pa_cons (pv 9) (pa_cons pe_str (pa_cons (pv 3) pa_nil))))) (pa_cons (pv 9) pa_nil)))))))))))))))))))))))))), go h ?_⟩
  clear hu hu16 hr h
  rintro l M k ⟨p, q, F, m, n, mn, tm, rfl, so, hmn, htm, dk, hk⟩
  have hm := so.m34
  have n64 := so.n64
  refine sw_seq <| sw_asg <| ev_letters so rfl <| gv_name ?_
  refine sw_seq <| sw_asg <| ev_call <| av_cons <| ev_var rfl <| av_nil ⟨F, m, n, rfl, so, fun f M1 kp1 mo1 => gv_name ?_⟩
  have bd1 : Bd3 p q F m n f M M1 := ⟨dk.keep kp1, kp1.fr, mo1⟩
  -- far
  refine sw_seq <| sw_asg <| EV.mono (k := fun d M' => ∃ z : Int, d = .int z ∧ Bd3 p q F m n f M M') ?_ ?_
  · refine ev_op <| ev_tup <| av_cons <| ev_int <| av_cons <| ev_int <| av_cons <| ev_un <| ev_int <| ru_neg <| av_cons <| ev_op <| ev_int <| ev_int <| rd_pow ⟨by decide, by decide, by decide⟩ <| av_cons <| ev_un <| ev_op <| ev_int <| ev_int <| rd_pow ⟨by decide, by decide, by decide⟩ <| ru_neg <| av_cons <| ev_op <| ev_int <| ev_int <| rd_pow ⟨by decide, by decide, by decide⟩ <| av_nil ⟨sl (show 6 ≤ 1000000 by decide), ?_⟩
    refine ev_call <| av_cons <| ev_var rfl <| av_cons <| ev_int <| av_nil ⟨p, q, _, rfl, by decide, by decide, bd1.dk, fun r M2 r0 r1 dk2 fr2 => ?_⟩
    obtain ⟨j, hj, hr⟩ : ∃ j : Nat, j < 6 ∧ r = (j : Int) := ⟨r.toNat, by omega, by omega⟩
    subst hr
    have b2 := bd1.deal dk2 fr2
    rcases (show j = 0 ∨ j = 1 ∨ j = 2 ∨ j = 3 ∨ j = 4 ∨ j = 5 by omega) with e | e | e | e | e | e <;> subst e <;> exact rd_ixT (atI_nat rfl) ⟨_, rfl, b2⟩
  rintro d M2 ⟨far, rfl, bd2⟩
  refine gv_name ?_
  -- last
  refine sw_seq <| sw_asg <| EV.mono (k := fun d M' => ∃ a : Nat, d = nD a ∧ a ≤ 1 ∧ (m = 4 → a = 0) ∧ Bd3 p q F m n f M M') ?_ ?_
  · refine ev_if <| tv_test <| ev_op <| ev_var rfl <| ev_str <| rd_eqS ⟨_, rfl, ifd (fun h => ?_) (fun h => ?_)⟩
    · refine ev_call <| av_cons <| ev_var rfl <| av_cons <| ev_int <| av_nil ⟨p, q, _, rfl, by decide, by decide, bd2.dk, fun r M3 r0 r1 dk3 fr3 => ?_⟩
      obtain ⟨a, ha, hr⟩ : ∃ j : Nat, j ≤ 1 ∧ r = (j : Int) := ⟨r.toNat, by omega, by omega⟩
      subst hr
      refine ⟨a, rfl, ha, fun e => ?_, bd2.deal dk3 fr3⟩
      subst e; exact absurd h (by decide +kernel)
    · exact ev_int ⟨0, rfl, by decide, fun _ => rfl, bd2⟩
  rintro d M3 ⟨a, rfl, ha1, ha4, bd3⟩
  refine gv_name ?_
  -- side
  refine sw_seq <| sw_asg <| ev_call <| av_cons <| ev_var rfl <| av_cons <| ev_sumlen so rfl (show 20 < 21 by decide) <| av_nil ⟨p, q, _, rfl, by have := so.n0; omega, by omega, bd3.dk, fun r M4 r0 r1 dk4 fr4 => gv_name ?_⟩
  obtain ⟨s, hs, hr⟩ : ∃ j : Nat, j < n ∧ r = (j : Int) := ⟨r.toNat, by omega, by omega⟩
  subst hr
  have bd4 := bd3.deal dk4 fr4
  -- standing
  refine sw_seq <| sw_asg <| ev_tup <| av_cons <| ev_tup <| av_cons <| ev_var rfl <| av_cons <| ev_op <| ev_call <| av_cons <| ev_var rfl <| av_cons <| ev_int <| av_nil ⟨p, q, _, rfl, by decide, by decide, bd4.dk, fun y M5 _ _ dk5 fr5 => ev_int <| rd_int <| av_cons <| ev_var rfl <| av_nil ⟨l3, av_cons <| ev_var rfl <| av_nil ⟨l2, ?_⟩⟩⟩
  have bd5 := bd4.deal dk5 fr5
  refine gv_name (d := stD ⟨far, y - 3, a, s⟩) ?_
  have ok0 : Ok m n ⟨far, y - 3, a, s⟩ := ⟨hs, ha1, ha4⟩
  generalize y - 3 = y at ok0 ⊢
  refine sw_seq <| sw_asg <| ev_var rfl <| gv_name ?_
  refine sw_seq <| sw_asg <| ev_call <| av_cons <| ev_var rfl <| av_cons <| ev_var rfl <| av_cons <| ev_var rfl <| av_nil ⟨p, q, m, mn, rfl, hm, by omega, bd5.dk, fun v M6 hvl hv dk6 fr6 => gv_name ?_⟩
  have bd6 := bd5.deal dk6 fr6
  have w4 : cutS (wS m v) none (some 4) = wS m (v.take 4) := wS_to m v 4
  -- letter by letter
  refine sw_seq <| sw_for <| iv_str <| ev_op <| ev_var rfl <| ev_sl <| ev_var rfl <| ov_none <| ov_some <| ev_int ⟨_, rfl, rsl_str (by rw [wS_len]; exact sl (by omega)) <| rd_cats ?_ ⟨_, rfl, ?_⟩⟩
  · rw [ltS_w hm, w4, wS_len, wS_len, List.length_range, List.length_take]; exact sl (by omega)
  have hsg : PL.signs (ltS m ++ cutS (wS m v) none (some 4)) = (List.range m ++ v.take 4).map fun i => D.str (lS m i) := by rw [ltS_w hm, w4, wS_app, wS_signs]
  rw [hsg]
  have hvl4 : ∀ i ∈ List.range m ++ v.take 4, i < m := fun i hi => by
    rcases List.mem_append.mp hi with z | z
    · exact List.mem_range.mp z
    · exact hv i (List.mem_of_mem_take z)
  refine FP.start (fun j ds M' => ∃ (t : Std) (o12 o13 : Option D), ds = [some (.adr p), some (solidD F), some (nD mn), some (nD tm), some (.str (ltS m)), some (.adr f), some (.int far), some (nD a), some (nD s), some (stD ⟨far, y, a, s⟩), some (stD t), some (.str (wS m v)), o12, o13, none, none, none, none, none, none, none] ∧ Ok m n t ∧ Bd3 p q F m n f M M') ⟨_, none, none, rfl, ok0, bd6⟩ ?_ ?_
  · rintro j d ds M7 hj ⟨t, o12, o13, rfl, okt, bd7⟩
    rw [List.getElem?_map] at hj
    obtain ⟨i, hi, rfl⟩ := Option.map_eq_some_iff.mp hj
    have him := hvl4 i (List.mem_of_getElem? hi)
    refine gv_name <| sw_seq <| sw_asg <| ev_call <| av_cons <| ev_var rfl <| av_cons <| ev_var rfl <| av_cons <| ev_var rfl <| av_nil ⟨F, m, n, f, t, i, rfl, so, bd7.mo, okt, him, gv_name ?_⟩
    have oks := step_ok so okt i
    refine sw_seq <| sw_if <| tv_not <| tv_B <| ev_call <| av_cons <| ev_call <| av_cons <| ev_var rfl <| av_cons <| ev_var rfl <| av_cons <| ev_var rfl <| av_nil ⟨F, m, n, t, i, rfl, so, okt, him, fun M8 kp8 => av_cons <| ev_var rfl <| av_nil ⟨_, rfl, plain_st _, sz_st _, fun M9 kp9 => ⟨true, rfl, iff' rfl <| sw_next ?_⟩⟩⟩
    have bd9 := (bd7.keep kp8).keep kp9
    generalize step m (bh F) t i = t2 at oks ⊢
    refine sw_asg <| EV.mono (k := fun d M' => ∃ t', d = stD t' ∧ Ok m n t' ∧ M' = M9) ?_ ?_
    · refine ev_if <| tv_test <| ev_op <| ev_cb <| av_cons <| ev_op <| ev_op <| ev_var rfl <| ev_int <| rd_ixT at0 <| ev_int <| rd_ixT at0 <| av_nil <| ra_abs <| ev_op <| ev_int <| ev_int <| rd_pow ⟨by decide, by decide, by decide⟩ <| rd_intb ⟨_, rfl, ifd (fun _ => ?_) (fun _ => ?_)⟩
      · exact ev_var rfl ⟨t2, rfl, oks, rfl⟩
      · exact ev_var rfl ⟨_, rfl, ok0, rfl⟩
    · rintro d M9' ⟨t', rfl, okt', rfl⟩
      exact gv_name ⟨t', _, _, rfl, okt', bd9⟩
  rintro ds M7 ⟨t, o12, o13, rfl, okt, bd7⟩
  clear bd1 bd2 bd3 bd4 bd5 bd6 okt
  obtain ⟨S0, hS⟩ : ∃ S0, S0 = (⟨far, y, a, s⟩ : Std) := ⟨_, rfl⟩
  rw [← hS] at ok0 ⊢
  have hrep : ∀ i ∈ (List.replicate tm v).flatten, i < m := fun i hi => by
    obtain ⟨x, hx, hix⟩ := List.mem_flatten.mp hi
    rw [List.eq_of_mem_replicate hx] at hix; exact hv i hix
  -- due
  refine sw_seq <| sw_asg <| ev_call <| av_cons <| ev_var rfl <| av_cons <| ev_var rfl <| av_cons <| ev_op <| ev_var rfl <| ev_var rfl <| rd_mulS ⟨by omega, by omega⟩ (by rw [wS_len]; omega) <| av_nil ⟨F, m, n, f, S0, (List.replicate tm v).flatten, by rw [wS_rep], so, bd7.mo, ok0, hrep, gv_name ?_⟩
  rw [runW_rep]
  have okd := lapS_ok so v ok0 tm
  refine sw_seq <| sw_if <| tv_not <| tv_B <| ev_call <| av_cons <| ev_call <| av_cons <| ev_var rfl <| av_cons <| ev_var rfl <| av_cons <| ev_var rfl <| av_cons <| ev_var rfl <| av_nil ⟨F, m, n, S0, v, tm, rfl, so, ok0, hv, by omega, fun M8 kp8 => av_cons <| ev_var rfl <| av_nil ⟨_, rfl, plain_st _, sz_st _, fun M9 kp9 => ⟨true, rfl, iff' rfl <| sw_next ?_⟩⟩⟩
  have bd9 := (bd7.keep kp8).keep kp9
  -- there and back
  have hbk : ∀ i ∈ v ++ bkW m v, i < m := fun i hi => by
    rcases List.mem_append.mp hi with z | z
    · exact hv i z
    · obtain ⟨j, hj, rfl⟩ := List.mem_map.mp z
      exact opp_lt hm (hv j (List.mem_reverse.mp hj))
  refine sw_seq <| sw_if <| tv_not <| tv_B <| ev_call <| av_cons <| ev_call <| av_cons <| ev_var rfl <| av_cons <| ev_var rfl <| av_cons <| ev_op <| ev_var rfl <| ev_call <| av_cons <| ev_var rfl <| av_nil ⟨m, v, rfl, hm, hv, by omega, rd_cats ?_ ?_⟩
  · rw [wS_len, wS_len]; unfold bkW; rw [List.length_map, List.length_reverse]; exact sl (by omega)
  refine av_cons <| ev_op <| ev_int <| ev_call <| av_cons <| ev_var rfl <| av_cons <| ev_int <| av_nil ⟨p, q, _, rfl, by decide, by decide, bd9.dk, fun r M10 r0 r1 dk10 fr10 => rd_int <| av_nil ⟨F, m, n, S0, v ++ bkW m v, (1 + r).toNat, ?_, so, ok0, hbk, by omega, fun M11 kp11 => ?_⟩⟩
  · rw [← wS_app]
    show [_, _, _, D.int (1 + r)] = [_, _, _, D.int (((1 + r).toNat : Nat) : Int)]
    rw [show (((1 + r).toNat : Nat) : Int) = 1 + r by omega]
  rw [lap_id (run_back so v ok0 hv)]
  refine av_cons <| ev_var rfl <| av_nil ⟨_, rfl, plain_st _, sz_st _, fun M12 kp12 => ⟨true, rfl, iff' rfl <| sw_next ?_⟩⟩
  have bd12 := ((bd9.deal dk10 fr10).keep kp11).keep kp12
  clear bd7 bd9
  -- cut in two
  refine sw_seq <| sw_asg <| ev_call <| av_cons <| ev_var rfl <| av_cons <| ev_op <| ev_cb <| av_cons <| ev_var rfl <| av_nil <| ra_lenS (by rw [wS_len]; exact sl (by omega)) <| ev_int <| rd_int <| av_nil ⟨p, q, _, rfl, by rw [wS_len]; omega, by rw [wS_len]; omega, bd12.dk, fun r M13 r0 r1 dk13 fr13 => gv_name ?_⟩
  obtain ⟨c, hr⟩ : ∃ j : Nat, r = (j : Int) := ⟨r.toNat, by omega⟩
  subst hr
  have bd13 := bd12.deal dk13 fr13
  clear bd12
  have hvt : ∀ i ∈ v.take c, i < m := fun i hi => hv i (List.mem_of_mem_take hi)
  have hvd : ∀ i ∈ v.drop c, i < m := fun i hi => hv i (List.mem_of_mem_drop hi)
  refine sw_seq <| sw_asg <| ev_call <| av_cons <| ev_var rfl <| av_cons <| ev_var rfl <| av_cons <| ev_sl <| ev_var rfl <| ov_none <| ov_some <| ev_var rfl ⟨_, rfl, rsl_str (by rw [wS_len]; exact sl (by omega)) <| av_nil ⟨F, m, n, f, S0, v.take c, by rw [wS_to], so, bd13.mo, ok0, hvt, gv_name ?_⟩⟩
  have okh := runW_ok so (v.take c) ok0
  refine sw_seq ?_
  refine SW.mono (k := { nx := fun ds' M' => ds' = [some (.adr p), some (solidD F), some (nD mn), some (nD tm), some (.str (ltS m)), some (.adr f), some (.int far), some (nD a), some (nD s), some (stD S0), some (stD t), some (.str (wS m v)), o12, o13, some (stD (lapS m (bh F) v S0 tm)), some (nD c), some (stD (runW m (bh F) S0 (v.take c))), none, none, none, none] ∧ Bd3 p q F m n f M M', rt := fun _ _ => False }) ?_ ?_ (fun _ _ z => z.elim) (fun _ _ z => z.elim) (fun _ _ z => z.elim)
  · refine sw_if <| tv_and <| tv_test <| ev_op <| ev_cb <| av_cons <| ev_op <| ev_op <| ev_var rfl <| ev_int <| rd_ixT at0 <| ev_int <| rd_ixT at0 <| av_nil <| ra_abs <| ev_op <| ev_int <| ev_int <| rd_pow ⟨by decide, by decide, by decide⟩ <| rd_intb ⟨_, rfl, ifd (fun _ => ?_) (fun _ => iteF <| sw_next ⟨rfl, bd13⟩)⟩
    refine tv_not <| tv_B <| ev_call <| av_cons <| ev_call <| av_cons <| ev_var rfl <| av_cons <| ev_var rfl <| av_cons <| ev_sl <| ev_var rfl <| ov_some <| ev_var rfl ⟨_, rfl, ov_none <| rsl_str (by rw [wS_len]; exact sl (by omega)) <| av_cons <| ev_int <| av_nil ⟨F, m, n, runW m (bh F) S0 (v.take c), v.drop c, 1, by rw [wS_from]; rfl, so, okh, hvd, by decide, fun M14 kp14 => ?_⟩⟩
    have e1 : lapS m (bh F) (v.drop c) (runW m (bh F) S0 (v.take c)) 1 = runW m (bh F) S0 v := by
      show runW m (bh F) (runW m (bh F) S0 (v.take c)) (v.drop c) = _
      rw [← runW_app, List.take_append_drop]
    rw [e1]
    have bd14 := bd13.keep kp14
    refine av_cons <| ev_call <| av_cons <| ev_var rfl <| av_cons <| ev_var rfl <| av_cons <| ev_var rfl <| av_nil ⟨F, m, n, f, S0, v, rfl, so, bd14.mo, ok0, hv, av_nil ⟨_, rfl, plain_st _, sz_st _, fun M15 kp15 => ⟨true, rfl, iff' rfl <| sw_next ?_⟩⟩⟩
    exact ⟨rfl, bd14.keep kp15⟩
  rintro ds M16 ⟨rfl, bd16⟩
  clear bd13
  -- from another place
  refine sw_seq <| sw_asg <| ev_tup <| av_cons <| ev_tup <| av_cons <| ev_op <| ev_int <| ev_call <| av_cons <| ev_var rfl <| av_cons <| ev_int <| av_nil ⟨p, q, _, rfl, by decide, by decide, bd16.dk, fun r M17 r0 r1 dk17 fr17 => rd_int <| av_cons <| ev_op <| ev_int <| ev_int <| rd_pow ⟨by decide, by decide, by decide⟩ <| av_cons <| ev_var rfl <| av_nil ⟨l3, av_cons <| ev_var rfl <| av_nil ⟨l2, ?_⟩⟩⟩
  refine gv_name (d := stD ⟨3 - r, 10 ^ 12, a, s⟩) ?_
  have bd17 := bd16.deal dk17 fr17
  clear bd16
  have oko : Ok m n ⟨3 - r, 10 ^ 12, a, s⟩ := ⟨hs, ha1, ha4⟩
  refine sw_seq <| sw_asg <| ev_call <| av_cons <| ev_var rfl <| av_cons <| ev_var rfl <| av_cons <| ev_var rfl <| av_cons <| ev_var rfl <| av_nil ⟨F, m, n, _, v, tm, rfl, so, oko, hv, by omega, fun M18 kp18 => gv_name ?_⟩
  have bd18 := bd17.keep kp18
  clear bd17
  have emv : lapS m (bh F) v ⟨3 - r, 10 ^ 12, a, s⟩ tm = WK.mv (lapS m (bh F) v S0 tm) (3 - r - S0.x) (10 ^ 12 - S0.y) := by
    have e : (⟨3 - r, 10 ^ 12, a, s⟩ : Std) = WK.mv S0 (3 - r - S0.x) (10 ^ 12 - S0.y) := by
      rw [hS]
      show (⟨_, _, _, _⟩ : Std) = ⟨far + (3 - r - far), y + (10 ^ 12 - y), a, s⟩
      rw [show far + (3 - r - far) = 3 - r by omega, show y + (10 ^ 12 - y) = 10 ^ 12 by omega]
    rw [e, lapS_mv]
  have hfx : far = S0.x := by rw [hS]
  refine sw_seq <| sw_asg <| ev_tup <| av_cons <| ev_tup <| av_cons <| ev_op <| ev_op <| ev_op <| ev_op <| ev_var rfl <| ev_int <| rd_ixT at0 ?_
  refine ev_int <| rd_ixT at0 ?_
  refine ev_var rfl <| rd_int <| ev_op <| ev_op <| ev_var rfl <| ev_int <| rd_ixT at0 ?_
  refine ev_int <| rd_ixT at0 <| rd_int ?_
  refine av_cons <| ev_op <| ev_op <| ev_op <| ev_op <| ev_var rfl <| ev_int <| rd_ixT at0 ?_
  refine ev_int <| rd_ixT at1 ?_
  refine ev_op <| ev_op <| ev_var rfl <| ev_int <| rd_ixT at0 ?_
  refine ev_int <| rd_ixT at1 <| rd_int ?_
  refine ev_op <| ev_int <| ev_int <| rd_pow ⟨by decide, by decide, by decide⟩ <| rd_int ?_
  refine av_cons <| ev_op <| ev_op <| ev_var rfl <| ev_int <| rd_ixT at0 ?_
  refine ev_int <| rd_ixT at2 <| av_nil ⟨l3, ?_⟩
  refine av_cons <| ev_op <| ev_var rfl <| ev_int <| rd_ixT at1 <| av_nil ⟨l2, ?_⟩
  have emoved : D.tup [D.tup [.int ((lapS m (bh F) v S0 tm).x - far + (3 - r)), .int ((lapS m (bh F) v S0 tm).y - S0.y + 10 ^ (12 : Int).toNat), nD (lapS m (bh F) v S0 tm).k], nD (lapS m (bh F) v S0 tm).s] = stD (lapS m (bh F) v ⟨3 - r, 10 ^ 12, a, s⟩ tm) := by
    rw [emv, hfx]
    show D.tup [D.tup [.int _, .int _, _], _] = D.tup [D.tup [.int _, .int _, _], _]
    rw [show (lapS m (bh F) v S0 tm).x - S0.x + (3 - r) = (lapS m (bh F) v S0 tm).x + (3 - r - S0.x) by omega, show (lapS m (bh F) v S0 tm).y - S0.y + 10 ^ (12 : Int).toNat = (lapS m (bh F) v S0 tm).y + (10 ^ 12 - S0.y) by show _ - _ + 10 ^ 12 = _; omega]
    rfl
  have hmg : ∀ (x : D) {q : DS → MH → Prop} {ds : DS} {M : MH}, x = stD (lapS m (bh F) v ⟨3 - r, 10 ^ 12, a, s⟩ tm) → q (ds.set 19 (some (stD (lapS m (bh F) v ⟨3 - r, 10 ^ 12, a, s⟩ tm)))) M → GV K w (gName 19) x ds M q := fun x q ds M e h => by rw [e]; exact gv_name h
  refine hmg _ emoved ?_
  refine sw_ret <| ev_andV <| ev_call <| av_cons <| ev_var rfl <| av_cons <| ev_var rfl <| av_nil ⟨_, rfl, plain_st _, sz_st _, fun M19 kp19 => ⟨true, rfl, ift rfl ?_⟩⟩
  refine ev_andV <| ev_call <| av_cons <| ev_call <| av_cons <| ev_var rfl <| av_cons <| ev_var rfl <| av_cons <| ev_var rfl <| av_cons <| ev_int <| av_nil ⟨F, m, n, S0, v, 0, rfl, so, ok0, hv, by decide, fun M20 kp20 => av_cons <| ev_var rfl <| av_nil ⟨stD S0, rfl, plain_st _, sz_st _, fun M21 kp21 => ⟨true, rfl, ift rfl ?_⟩⟩⟩
  refine ev_call <| av_cons <| ev_call <| av_cons <| ev_var rfl <| av_cons <| ev_var rfl <| av_cons <| ev_str <| av_cons <| ev_var rfl <| av_nil ⟨F, m, n, S0, [], tm, rfl, so, ok0, fun i hi => (by cases hi), by omega, fun M22 kp22 => ?_⟩
  rw [lap_id (show runW m (bh F) S0 [] = S0 from rfl)]
  refine av_cons <| ev_var rfl <| av_nil ⟨stD S0, rfl, plain_st _, sz_st _, fun M23 kp23 => ?_⟩
  have bd := ((((bd18.keep kp19).keep kp20).keep kp21).keep kp22).keep kp23
  exact hk _ bd.dk bd.fr
end
end WK

set_option Elab.async false
set_option linter.all false
set_option maxRecDepth 100000
set_option maxHeartbeats 4000000
namespace WK
open PySem PySem.Spec PyProof.Rows L2 Evl PL
def spMore : PL.Spec := fun l M k => ∃ p q F m n v, l = [.adr p, solidD F, .str (wS m v)] ∧ Sol F m n ∧ (∀ i ∈ v, i < m) ∧ v.length ≤ 6 ∧ DkOk p q M ∧ ∀ M', DkOk p q M' → Fr p q M M' → k (.bl true) M'
theorem spMore_len : ∀ l M k, spMore l M k → l.length = 3 := fun l M k ⟨_, _, _, _, _, _, h, _⟩ => by rw [h]; rfl
def spLaw : PL.Spec := fun l M k => ∃ (ns : List Int), l = [.scr (ns.map D.int)] ∧ ∀ M', k (.bl true) M'
theorem spLaw_len : ∀ l M k, spLaw l M k → l.length = 1 := fun l M k ⟨_, h, _⟩ => by rw [h]; rfl
abbrev s_law_more : Stmt := top 39
abbrev N_law_more : List Str := ["deck", "solid", "word", "letters", "moves", "place", "at", "letter", "others", "other", "standing", "steps", "face"]
theorem sc_law_more : FnScope N_law_more ["deck", "solid", "word"] (defScope s_law_more) := ⟨rfl, rfl, rfl, by decide +kernel, rfl, by decide +kernel, by decide +kernel⟩
abbrev s_law : Stmt := top 41
abbrev N_law : List Str := ["script", "deck", "solid", "lap"]
theorem sc_law : FnScope N_law ["script"] (defScope s_law) := ⟨rfl, rfl, rfl, by decide +kernel, rfl, by decide +kernel, by decide +kernel⟩
section
variable {P : Program} {w : World} {K : PySem.W.Frag} {mg : Str → Option Value} {base : Heap}
theorem ok_law_more {f C mv : Addr} {fd : FuncData} {tk1 tk2 : Tok} (F : Fun K "_law_more" "_law_more" s_law_more f fd) (T : Bi mg) (c_law_moves : Cal P w K mg base "_law_moves" 2 ["solid"] spMoves) (c_law_deal : Cal P w K mg base "_law_deal" 1 ["deck", "many"] spDeal) (c_law_same : Cal P w K mg base "_law_same" 1 ["told", "due"] spSame) (c_law_run : Cal P w K mg base "_law_run" 2 ["moves", "standing", "word"] spLRun) (c_floor_ball : Cal P w K mg base "floor_ball" 4 ["solid", "standing", "steps"] spFBall) (c_law_ball : Cal P w K mg base "_law_ball" 2 ["moves", "letters", "standing", "steps"] spLBall) (c_floor_move : Cal P w K mg base "floor_move" 4 ["solid", "word"] spFMove) (c_law_shuffled : Cal P w K mg base "_law_shuffled" 2 ["deck", "things"] spShuf) (c_law_back : Cal P w K mg base "_law_back" 1 ["word"] spBack) (c_are_like_floor_words : Cal P w K mg base "are_like_floor_words" 4 ["solid", "one", "other"] spLike) (c_law_like : Cal P w K mg base "_law_like" 3 ["moves", "solid", "one", "other"] spLLike) : FnOk P w K mg base CX0 5 f fd ["deck", "solid", "word"] (SpD K w spMore) := by
  refine F.ok sc_law_more (fun vs H Q E h => SpD.len (n := 3) (spMore_len) h) (fun cdv A outer s H vs Q E hr h => ?_)
  have hu := hu_of hr
  have hu16 := hu16_of hr
  refine ⟨_, (pss_cons (ps_set (i := 3) sc_law_more.nd rfl (Or.inl rfl) (pe_ifExp (pt_cmpR op_eq (pe_callB cb_len (by rfl) T.len (by decide +kernel) (pa_cons (pe_ix ix_tup (pv 1) pe_int (fun _ _ => rfl)) pa_nil)) pe_int (nomark _)) pe_str pe_str))
(pss_cons (ps_set (i := 4) sc_law_more.nd rfl (Or.inl rfl) (pe_cal c_law_moves (hr.mono (by decide)) (by rfl) (pa_cons (pv 1) pa_nil)))
(pss_cons (ps_set (i := 5) sc_law_more.nd rfl (Or.inl rfl) (pe_ix ix_tup (pe_cal c_law_run (hr.mono (by decide)) (by rfl) (pa_cons (pv 4) (pa_cons (pe_tup (pa_cons (pe_tup (pa_cons pe_int (pa_cons pe_int (pa_cons pe_int pa_nil)))) (pa_cons pe_int pa_nil))) (pa_cons (pv 2) pa_nil)))) pe_int (fun _ _ => rfl)))
(pss_cons (ps_if (pt_not (pt_val (pe_cal c_law_same (hr.mono (by decide)) (by rfl) (pa_cons (pe_cal c_floor_move (hr.mono (by decide)) (by rfl) (pa_cons (pv 1) (pa_cons (pv 2) pa_nil))) (pa_cons (pe_tup (pa_cons (pe_ix ix_tup (pv 5) pe_int (fun _ _ => rfl)) (pa_cons (pe_ix ix_tup (pv 5) pe_int (fun _ _ => rfl)) pa_nil))) pa_nil)))))
(pss_one (ps_ret pe_bl))
pss_nil)
(pss_cons (ps_set (i := 6) sc_law_more.nd rfl (Or.inl rfl) (pe_cal c_law_deal (hr.mono (by decide)) (by rfl) (pa_cons (pv 0) (pa_cons (pe_op op_add (pe_callB cb_len (by rfl) T.len (by decide +kernel) (pa_cons (pv 2) pa_nil)) pe_int) pa_nil))))
(pss_cons (ps_set (i := 7) sc_law_more.nd rfl (Or.inl rfl) (pe_ix ix_seq (pv 3) (pe_cal c_law_deal (hr.mono (by decide)) (by rfl) (pa_cons (pv 0) (pa_cons (pe_callB cb_len (by rfl) T.len (by decide +kernel) (pa_cons (pv 3) pa_nil)) pa_nil))) (fun _ _ => rfl)))
(pss_cons (ps_set (i := 8) sc_law_more.nd rfl (Or.inl rfl) (pe_lst (pa_cons (pe_op op_add_str (pe_op op_add_str (pe_op op_add_str (pe_slice sl_str (pv 2) po_none (po_some (pv 6))) (pv 7)) (pe_cal c_law_back (hr.mono (by decide)) (by rfl) (pa_cons (pv 7) pa_nil))) (pe_slice sl_str (pv 2) (po_some (pv 6)) po_none)) (pa_cons (pe_bm PySem.F.plainAttrs_str PySem.F.slot_str_join PySem.F.type_str_join mt_joinA pe_str (pa_cons (pe_cal c_law_shuffled (hr.mono (by decide)) (by rfl) (pa_cons (pv 0) (pa_cons (pe_callTy (cb_listS rfl) (by rfl) T.list (by decide +kernel) (pa_cons (pv 2) pa_nil)) pa_nil))) pa_nil)) (pa_cons (pe_op op_mulS (pv 2) pe_int) (pa_cons (pe_op op_add_str (pv 2) (pv 7)) (pa_cons (pe_revS (pv 2)) pa_nil)))))))
(pss_cons (ps_for PassesOwn.never rfl (pi_tup (pe_tup (pa_cons (pe_ix ix_list (pv 8) pe_int (fun _ _ => rfl)) (pa_cons (pe_ix ix_list (pv 8) (pe_op op_add pe_int (pe_cal c_law_deal (hr.mono (by decide)) (by rfl) (pa_cons (pv 0) (pa_cons pe_int pa_nil)))) (fun _ _ => rfl)) pa_nil)))) (pg_name (i := 9) sc_law_more.nd rfl (Or.inl rfl))
(pss_one (ps_if (pt_not (pt_val (pe_cal c_law_same (hr.mono (by decide)) (by rfl) (pa_cons (pe_cal c_are_like_floor_words (hr.mono (by decide)) (by rfl) (pa_cons (pv 1) (pa_cons (pv 2) (pa_cons (pv 9) pa_nil)))) (pa_cons (pe_cal c_law_like (hr.mono (by decide)) (by rfl) (pa_cons (pv 4) (pa_cons (pv 1) (pa_cons (pv 2) (pa_cons (pv 9) pa_nil))))) pa_nil)))))
(pss_one (ps_ret pe_bl))
pss_nil)))
(pss_cons (ps_set (i := 10) sc_law_more.nd rfl (Or.inl rfl) (pe_tup (pa_cons (pe_tup (pa_cons (pe_op op_sub (pe_cal c_law_deal (hr.mono (by decide)) (by rfl) (pa_cons (pv 0) (pa_cons pe_int pa_nil))) pe_int) (pa_cons (pe_op op_pow pe_int pe_int) (pa_cons (pe_ifExp (pt_cmpR op_eq (pv 3) pe_str (nomark _)) (pe_cal c_law_deal (hr.mono (by decide)) (by rfl) (pa_cons (pv 0) (pa_cons pe_int pa_nil))) pe_int) pa_nil)))) (pa_cons (pe_cal c_law_deal (hr.mono (by decide)) (by rfl) (pa_cons (pv 0) (pa_cons (pe_callB (cr_sum rfl) (by rfl) T.sum (by decide +kernel) (pa_cons (pe_lc (own := [("face", 12)]) (g := gName 12) (by rfl) sc_law_more.nd (pi_tup (pv 1)) (blkOk_by (own := [("face", 12)]) (N := N_law_more) (sc := defScope s_law_more) (by decide +kernel)) (fun _ _ _ _ _ => (pg_name (i := 12) sc_law_more.nd rfl (Or.inl rfl))) (fun _ _ _ _ _ => pts_nil) (fun _ _ _ _ _ => (pe_callB (cb_lenK rfl) (by rfl) T.len (by decide +kernel) (pa_cons (pv 12) pa_nil)))) pa_nil)) pa_nil))) pa_nil))))
(pss_cons (ps_set (i := 11) sc_law_more.nd rfl (Or.inl rfl) (pe_cal c_law_deal (hr.mono (by decide)) (by rfl) (pa_cons (pv 0) (pa_cons pe_int pa_nil))))
(pss_one (ps_ret (pe_cal c_law_same (hr.mono (by decide)) (by rfl) (pa_cons (pe_cal c_floor_ball (hr.mono (by decide)) (by rfl) (pa_cons (pv 1) (pa_cons (pv 10) (pa_cons (pv 11) pa_nil)))) (pa_cons (pe_cal c_law_ball (hr.mono (by decide)) (by rfl) (pa_cons (pv 4) (pa_cons (pv 3) (pa_cons (pv 10) (pa_cons (pv 11) pa_nil))))) pa_nil))))))))))))))), go h ?_⟩
  clear hu hu16 hr h
  rintro l M k ⟨p, q, F, m, n, v, rfl, so, hv, hvl, dk, hk⟩
  have hm := so.m34
  have n64 := so.n64
  have hlen : (ltS m).length = m := by rw [ltS_w hm, wS_len, List.length_range]
  refine sw_seq <| sw_asg <| ev_letters so rfl <| gv_name ?_
  refine sw_seq <| sw_asg <| ev_call <| av_cons <| ev_var rfl <| av_nil ⟨F, m, n, rfl, so, fun f M1 kp1 mo1 => gv_name ?_⟩
  have bd1 : Bd3 p q F m n f M M1 := ⟨dk.keep kp1, kp1.fr, mo1⟩
  -- the move
  refine sw_seq <| sw_asg <| ev_op <| ev_call <| av_cons <| ev_var rfl <| av_cons <| ev_tup <| av_cons <| ev_tup <| av_cons <| ev_int <| av_cons <| ev_int <| av_cons <| ev_int <| av_nil ⟨l3, av_cons <| ev_int <| av_nil ⟨l2, av_cons <| ev_var rfl <| av_nil ⟨F, m, n, f, st0 0 0, v, rfl, so, bd1.mo, ok0 so so.n0 (by decide) (fun _ => rfl), hv, ?_⟩⟩⟩
  refine ev_int <| rd_ixT at0 <| gv_name ?_
  refine sw_seq <| sw_if <| tv_not <| tv_B <| ev_call <| av_cons <| ev_call <| av_cons <| ev_var rfl <| av_cons <| ev_var rfl <| av_nil ⟨F, m, n, v, rfl, so, hv, fun M2 kp2 => ?_⟩
  refine av_cons <| ev_tup <| av_cons <| ev_op <| ev_var rfl <| ev_int <| rd_ixT at0 <| av_cons <| ev_op <| ev_var rfl <| ev_int <| rd_ixT at1 <| av_nil ⟨l2, ?_⟩
  refine av_nil ⟨_, rfl, rfl, (show 3 < 1000 by decide), fun M3 kp3 => ⟨true, rfl, iff' rfl <| sw_next ?_⟩⟩
  have bd3 := (bd1.keep kp2).keep kp3
  clear bd1
  -- at, letter
  refine sw_seq <| sw_asg <| ev_call <| av_cons <| ev_var rfl <| av_cons <| ev_op <| ev_cb <| av_cons <| ev_var rfl <| av_nil <| ra_lenS (by rw [wS_len]; exact sl (by omega)) <| ev_int <| rd_int <| av_nil ⟨p, q, _, rfl, by rw [wS_len]; omega, by rw [wS_len]; omega, bd3.dk, fun r M4 r0 r1 dk4 fr4 => gv_name ?_⟩
  obtain ⟨c, hr⟩ : ∃ j : Nat, r = (j : Int) := ⟨r.toNat, by omega⟩
  subst hr
  have bd4 := bd3.deal dk4 fr4
  clear bd3
  refine sw_seq <| sw_asg <| ev_op <| ev_var rfl <| ev_call <| av_cons <| ev_var rfl <| av_cons <| ev_cb <| av_cons <| ev_var rfl <| av_nil <| ra_lenS (by rw [hlen]; exact sl (by omega)) <| av_nil ⟨p, q, _, rfl, by rw [hlen]; omega, by rw [hlen]; omega, bd4.dk, fun r M5 r0 r1 dk5 fr5 => ?_⟩
  rw [hlen] at r1
  obtain ⟨i, hi, hr⟩ : ∃ j : Nat, j < m ∧ r = (j : Int) := ⟨r.toNat, by omega, by omega⟩
  subst hr
  have bd5 := bd4.deal dk5 fr5
  clear bd4
  refine rd_seqS (c := lc m i) (by rw [hlen]; exact sl (by omega)) ?_ <| gv_name (d := .str (wS m [i])) ?_
  · rw [ltS_w hm, wS_get m _ (by rw [List.length_range]; exact hi), List.getD_eq_getElem?_getD, List.getElem?_range hi]; rfl
  have hi1 : ∀ j ∈ [i], j < m := fun j hj => by rw [List.mem_singleton.mp hj]; exact hi
  -- other words
  refine sw_seq <| sw_asg <| EV.mono (k := fun d M' => ∃ vs : List (List Nat), d = .lst (vs.map fun u => D.str (wS m u)) ∧ vs.length = 5 ∧ (∀ u ∈ vs, ∀ j ∈ u, j < m) ∧ Bd3 p q F m n f M M') ?_ ?_
  · refine ev_lst <| av_cons <| ev_op <| ev_op <| ev_op <| ev_sl <| ev_var rfl <| ov_none <| ov_some <| ev_var rfl ⟨_, rfl, rsl_str (by rw [wS_len]; exact sl (by omega)) ?_⟩
    rw [wS_to]
    refine ev_var rfl <| rd_cats (by rw [wS_len, wS_len, List.length_take]; exact sl (by simp; omega)) ?_
    rw [wS_app]
    refine ev_call <| av_cons <| ev_var rfl <| av_nil ⟨m, [i], rfl, hm, hi1, (show 1 ≤ 1000 by decide), rd_cats (by rw [wS_len, wS_len]; unfold bkW; rw [List.length_append, List.length_take, List.length_map, List.length_reverse]; exact sl (by simp; omega)) ?_⟩
    rw [wS_app]
    refine ev_sl <| ev_var rfl <| ov_some <| ev_var rfl ⟨_, rfl, ov_none <| rsl_str (by rw [wS_len]; exact sl (by omega)) ?_⟩
    rw [wS_from]
    refine rd_cats (by rw [wS_len, wS_len]; unfold bkW; rw [List.length_append, List.length_append, List.length_take, List.length_map, List.length_reverse, List.length_drop]; exact sl (by simp; omega)) ?_
    rw [wS_app]
    refine av_cons <| ev_bm <| ev_str ⟨tyd_str, av_cons <| ev_call <| av_cons <| ev_var rfl <| av_cons <| ev_cb <| av_cons <| ev_var rfl <| av_nil <| ra_listS (by rw [wS_len]; exact sl (by omega)) <| av_nil ⟨p, q, _, _, rfl, .inl .f, by rw [wS_signs, List.length_map]; omega, bd5.dk, fun ys M6 hys dk6 fr6 => ?_⟩⟩
    rw [wS_signs] at hys
    obtain ⟨zs, hz, rfl⟩ := perm_map_inv hys _ rfl
    have hzm : ∀ j ∈ zs, j < m := fun j hj => hv j (hz.mem_iff.mp hj)
    have bd6 := bd5.deal dk6 fr6
    have e1 : (zs.map fun i => D.str (lS m i)) = (zs.map (lS m)).map D.str := by rw [List.map_map]; rfl
    rw [e1]
    have hll : ∀ l : List Nat, ((l.map (lS m)).map (·.length)).sum = l.length := fun l => by
      induction l with
      | nil => rfl
      | cons a l ih => rw [List.map_cons, List.map_cons, List.sum_cons, ih, List.length_cons]; show 1 + _ = _; omega
    refine av_nil <| rm_join .f ?_ ?_
    · rw [hll, hz.length_eq]
      show _ + _ * 0 ≤ _
      omega
    rw [join_eqE, join_signs]
    refine av_cons <| ev_op <| ev_var rfl <| ev_int <| rd_mulS (by decide) (by rw [wS_len]; omega) ?_
    rw [show repS (wS m v) 2 = wS m (List.replicate 2 v).flatten from wS_rep m v 2]
    refine av_cons <| ev_op <| ev_var rfl <| ev_var rfl <| rd_cats (by rw [wS_len, wS_len]; exact sl (by simp; omega)) ?_
    rw [wS_app]
    refine av_cons <| ev_revS <| ev_var rfl ⟨_, rfl, by rw [wS_len]; exact sl (by omega), ?_⟩
    rw [wS_rev]
    refine av_nil ⟨sl (show 5 ≤ 1000000 by decide), [v.take c ++ [i] ++ bkW m [i] ++ v.drop c, zs, (List.replicate 2 v).flatten, v ++ [i], v.reverse], rfl, rfl, fun u hu j hj => ?_, bd6⟩
    have hbk : ∀ j ∈ bkW m [i], j < m := fun j hj => by
      have : j = opp m i := by unfold bkW at hj; simpa using hj
      rw [this]; exact opp_lt hm hi
    simp only [List.mem_cons, List.not_mem_nil, or_false] at hu
    rcases hu with e | e | e | e | e <;> subst e
    · simp only [List.mem_append] at hj
      rcases hj with ((z | z) | z) | z
      · exact hv j (List.mem_of_mem_take z)
      · exact hi1 j z
      · exact hbk j z
      · exact hv j (List.mem_of_mem_drop z)
    · exact hzm j hj
    · obtain ⟨x, hx, hjx⟩ := List.mem_flatten.mp hj
      rw [List.eq_of_mem_replicate hx] at hjx; exact hv j hjx
    · rcases List.mem_append.mp hj with z | z
      · exact hv j z
      · exact hi1 j z
    · exact hv j (List.mem_reverse.mp hj)
  rintro d M6 ⟨vs, rfl, hvs5, hvs, bd6⟩
  clear bd5
  refine gv_name ?_
  have one : ∀ (j : Nat), j < 5 → ∃ u : List Nat, (∀ i ∈ u, i < m) ∧ atI (vs.map fun u => D.str (wS m u)) (j : Int) = some (.str (wS m u)) := fun j hj => by
    have hj' : j < vs.length := by omega
    exact ⟨vs[j], hvs _ (List.getElem_mem hj'), atI_nat (by rw [List.getElem?_map, List.getElem?_eq_getElem hj']; rfl)⟩
  obtain ⟨u0, hu0, ha0⟩ := one 0 (by decide)
  refine sw_seq <| sw_for <| iv_tup <| ev_tup <| av_cons <| ev_op <| ev_var rfl <| ev_int <| rd_ixL ha0 <| av_cons <| ev_op <| ev_var rfl <| ev_op <| ev_int <| ev_call <| av_cons <| ev_var rfl <| av_cons <| ev_int <| av_nil ⟨p, q, _, rfl, by decide, by decide, bd6.dk, fun r M7 r0 r1 dk7 fr7 => rd_int ?_⟩
  have bd7 := bd6.deal dk7 fr7
  clear bd6
  obtain ⟨u1, hu1, ha1⟩ := one (1 + r).toNat (by omega)
  rw [show (((1 + r).toNat : Nat) : Int) = 1 + r by omega] at ha1
  refine rd_ixL ha1 <| av_nil ⟨l2, _, rfl, ?_⟩
  refine FP.start (fun j ds M' => ∃ o9 : Option D, ds = [some (.adr p), some (solidD F), some (.str (wS m v)), some (.str (ltS m)), some (.adr f), some (.tup [.int (runW m (bh F) (st0 0 0) v).x, .int (runW m (bh F) (st0 0 0) v).y, nD (runW m (bh F) (st0 0 0) v).k]), some (nD c), some (.str (wS m [i])), some (.lst (vs.map fun u => D.str (wS m u))), o9, none, none, none] ∧ Bd3 p q F m n f M M') ⟨none, rfl, bd7⟩ ?_ ?_
  · rintro j d ds M8 hj ⟨o9, rfl, bd8⟩
    obtain ⟨u, hu, rfl⟩ : ∃ u : List Nat, (∀ i ∈ u, i < m) ∧ d = .str (wS m u) := by
      cases j with
      | zero => exact ⟨u0, hu0, (Option.some.inj hj).symm⟩
      | succ j =>
        cases j with
        | zero => exact ⟨u1, hu1, (Option.some.inj hj).symm⟩
        | succ j => simp at hj
    refine gv_name <| sw_if <| tv_not <| tv_B <| ev_call <| av_cons <| ev_call <| av_cons <| ev_var rfl <| av_cons <| ev_var rfl <| av_cons <| ev_var rfl <| av_nil ⟨F, m, n, v, u, rfl, so, hv, hu, fun M9 kp9 => ?_⟩
    have bd9 := bd8.keep kp9
    refine av_cons <| ev_call <| av_cons <| ev_var rfl <| av_cons <| ev_var rfl <| av_cons <| ev_var rfl <| av_cons <| ev_var rfl <| av_nil ⟨F, m, n, f, v, u, rfl, so, bd9.mo, hv, hu, av_nil ⟨_, rfl, rfl, (show 1 < 1000 by decide), fun M10 kp10 => ⟨true, rfl, iff' rfl <| sw_next ⟨_, rfl, bd9.keep kp10⟩⟩⟩⟩
  rintro ds M8 ⟨o9, rfl, bd8⟩
  -- the balls
  refine sw_seq <| sw_asg <| ev_tup <| av_cons <| ev_tup <| av_cons <| ev_op <| ev_call <| av_cons <| ev_var rfl <| av_cons <| ev_int <| av_nil ⟨p, q, _, rfl, by decide, by decide, bd8.dk, fun x M9 _ _ dk9 fr9 => ev_int <| rd_int <| av_cons <| ev_op <| ev_int <| ev_int <| rd_pow ⟨by decide, by decide, by decide⟩ <| av_cons <| EV.mono (k := fun d M' => ∃ a : Nat, d = nD a ∧ a ≤ 1 ∧ (m = 4 → a = 0) ∧ Bd3 p q F m n f M M') ?_ ?_⟩
  · have bd9 := bd8.deal dk9 fr9
    refine ev_if <| tv_test <| ev_op <| ev_var rfl <| ev_str <| rd_eqS ⟨_, rfl, ifd (fun h => ?_) (fun h => ?_)⟩
    · refine ev_call <| av_cons <| ev_var rfl <| av_cons <| ev_int <| av_nil ⟨p, q, _, rfl, by decide, by decide, bd9.dk, fun r M3 r0 r1 dk3 fr3 => ?_⟩
      obtain ⟨a, ha, hr⟩ : ∃ j : Nat, j ≤ 1 ∧ r = (j : Int) := ⟨r.toNat, by omega, by omega⟩
      subst hr
      refine ⟨a, rfl, ha, fun e => ?_, bd9.deal dk3 fr3⟩
      subst e; exact absurd h (by decide +kernel)
    · exact ev_int ⟨0, rfl, by decide, fun _ => rfl, bd9⟩
  rintro d M10 ⟨a, rfl, ha1, ha4, bd10⟩
  refine av_nil ⟨l3, av_cons <| ev_call <| av_cons <| ev_var rfl <| av_cons <| ev_sumlen so rfl (show 12 < 13 by decide) <| av_nil ⟨p, q, _, rfl, by have := so.n0; omega, by omega, bd10.dk, fun r M11 r0 r1 dk11 fr11 => av_nil ⟨l2, ?_⟩⟩⟩
  obtain ⟨s, hs, hr⟩ : ∃ j : Nat, j < n ∧ r = (j : Int) := ⟨r.toNat, by omega, by omega⟩
  subst hr
  have bd11 := bd10.deal dk11 fr11
  refine gv_name (d := stD ⟨x - 2, 10 ^ 9, a, s⟩) ?_
  have okt : Ok m n ⟨x - 2, 10 ^ 9, a, s⟩ := ⟨hs, ha1, ha4⟩
  generalize (⟨x - 2, 10 ^ 9, a, s⟩ : Std) = t at okt ⊢
  refine sw_seq <| sw_asg <| ev_call <| av_cons <| ev_var rfl <| av_cons <| ev_int <| av_nil ⟨p, q, _, rfl, by decide, by decide, bd11.dk, fun r M12 r0 r1 dk12 fr12 => gv_name ?_⟩
  obtain ⟨cc, hcc, hr⟩ : ∃ j : Nat, j ≤ 4 ∧ r = (j : Int) := ⟨r.toNat, by omega, by omega⟩
  subst hr
  have bd12 := bd11.deal dk12 fr12
  refine sw_ret <| ev_call <| av_cons <| ev_call <| av_cons <| ev_var rfl <| av_cons <| ev_var rfl <| av_cons <| ev_var rfl <| av_nil ⟨F, m, n, t, cc, rfl, so, okt, hcc, fun M13 kp13 => ?_⟩
  have bd13 := bd12.keep kp13
  refine av_cons <| ev_call <| av_cons <| ev_var rfl <| av_cons <| ev_var rfl <| av_cons <| ev_var rfl <| av_cons <| ev_var rfl <| av_nil ⟨F, m, n, f, t, cc, rfl, so, bd13.mo, okt, hcc, fun M14 kp14 => av_nil ⟨_, rfl, rfl, (show 1 < 1000 by decide), fun M15 kp15 => ?_⟩⟩
  have bd := (bd13.keep kp14).keep kp15
  exact hk _ bd.dk bd.fr
theorem ok_law {f C mv : Addr} {fd : FuncData} {tk1 tk2 : Tok} (F : Fun K "law" "law" s_law f fd) (T : Bi mg) (c_law_deck : Cal P w K mg base "_law_deck" 1 ["script"] spDeck) (c_law_made : Cal P w K mg base "_law_made" 4 ["deck"] spMade) (c_law_floored : Cal P w K mg base "_law_floored" 5 ["deck", "most"] spFloored) (c_law_more : Cal P w K mg base "_law_more" 5 ["deck", "solid", "word"] spMore) (c_law_deal : Cal P w K mg base "_law_deal" 1 ["deck", "many"] spDeal) (c_law_asked : Cal P w K mg base "_law_asked" 7 ["deck", "solid", "many", "times"] spAsked) (c_law_hand : Cal P w K mg base "_law_hand" 7 ["deck"] spHand) (c_law_text : Cal P w K mg base "_law_text" 3 ["deck", "letters", "many"] spText) : FnOk P w K mg base CX0 8 f fd ["script"] (SpD K w spLaw) := by
  refine F.ok sc_law (fun vs H Q E h => SpD.len (n := 1) (spLaw_len) h) (fun cdv A outer s H vs Q E hr h => ?_)
  have hu := hu_of hr
  have hu16 := hu16_of hr
  refine ⟨_, (pss_cons (ps_set (i := 1) sc_law.nd rfl (Or.inl rfl) (pe_cal c_law_deck (hr.mono (by decide)) (by rfl) (pa_cons (pv 0) pa_nil)))
(pss_cons (ps_if (PW.pt (pw_or (pt_not (pt_val (pe_cal c_law_hand (hr.mono (by decide)) (by rfl) (pa_cons (pv 1) pa_nil)))) (pw_or1 (pt_not (pt_val (pe_cal c_law_asked (hr.mono (by decide)) (by rfl) (pa_cons (pv 1) (pa_cons (pe_cal c_law_made (hr.mono (by decide)) (by rfl) (pa_cons (pv 1) pa_nil)) (pa_cons (pe_cal c_law_deal (hr.mono (by decide)) (by rfl) (pa_cons (pv 1) (pa_cons pe_int pa_nil))) (pa_cons (pe_cal c_law_deal (hr.mono (by decide)) (by rfl) (pa_cons (pv 1) (pa_cons pe_int pa_nil))) pa_nil))))))))))
(pss_one (ps_ret pe_bl))
pss_nil)
(pss_cons (ps_set (i := 2) sc_law.nd rfl (Or.inl rfl) (pe_ifExp (pt_cmpR op_eq (pe_cal c_law_deal (hr.mono (by decide)) (by rfl) (pa_cons (pv 1) (pa_cons pe_int pa_nil))) pe_int (nomark _)) (pe_cal c_law_made (hr.mono (by decide)) (by rfl) (pa_cons (pv 1) pa_nil)) (pe_cal c_law_floored (hr.mono (by decide)) (by rfl) (pa_cons (pv 1) (pa_cons pe_int pa_nil)))))
(pss_cons (ps_if (pt_not (pt_val (pe_cal c_law_more (hr.mono (by decide)) (by rfl) (pa_cons (pv 1) (pa_cons (pv 2) (pa_cons (pe_cal c_law_text (hr.mono (by decide)) (by rfl) (pa_cons (pv 1) (pa_cons (pe_ifExp (pt_cmpR op_eq (pe_callB cb_len (by rfl) T.len (by decide +kernel) (pa_cons (pe_ix ix_tup (pv 2) pe_int (fun _ _ => rfl)) pa_nil)) pe_int (nomark _)) pe_str pe_str) (pa_cons (pe_cal c_law_deal (hr.mono (by decide)) (by rfl) (pa_cons (pv 1) (pa_cons pe_int pa_nil))) pa_nil)))) pa_nil))))))
(pss_one (ps_ret pe_bl))
pss_nil)
(pss_cons (ps_for PassesOwn.never rfl (pi_range1 (by rfl) T.range (pa_cons pe_int pa_nil)) (pg_name (i := 3) sc_law.nd rfl (Or.inl rfl))
(pss_one (ps_if (pt_not (pt_val (pe_cal c_law_asked (hr.mono (by decide)) (by rfl) (pa_cons (pv 1) (pa_cons (pe_cal c_law_floored (hr.mono (by decide)) (by rfl) (pa_cons (pv 1) (pa_cons pe_int pa_nil))) (pa_cons (pe_cal c_law_deal (hr.mono (by decide)) (by rfl) (pa_cons (pv 1) (pa_cons pe_int pa_nil))) (pa_cons (pe_cal c_law_deal (hr.mono (by decide)) (by rfl) (pa_cons (pv 1) (pa_cons pe_int pa_nil))) pa_nil)))))))
(pss_one (ps_ret pe_bl))
pss_nil)))
(pss_cons (ps_if (pt_cmpR op_eq (pe_cal c_law_deal (hr.mono (by decide)) (by rfl) (pa_cons (pv 1) (pa_cons pe_int pa_nil))) pe_int (nomark _))
(pss_one (ps_ret (pe_cal c_law_asked (hr.mono (by decide)) (by rfl) (pa_cons (pv 1) (pa_cons (pe_cal c_law_floored (hr.mono (by decide)) (by rfl) (pa_cons (pv 1) (pa_cons pe_int pa_nil))) (pa_cons pe_int (pa_cons pe_int pa_nil)))))))
pss_nil)
(pss_one (ps_ret pe_bl)))))))), go h ?_⟩
  clear hu hu16 hr h
  rintro l M k ⟨ns, rfl, hk⟩
  refine sw_seq <| sw_asg <| ev_call <| av_cons <| ev_var rfl <| av_nil ⟨ns, rfl, fun p q M1 dk1 kp1 => gv_name ?_⟩
  refine sw_seq <| sw_if <| tv_or <| tv_not <| tv_B <| ev_call <| av_cons <| ev_var rfl <| av_nil ⟨_, rfl, fun M2 kp2 => ⟨true, rfl, iff' rfl ?_⟩⟩
  have dk2 := dk1.keep kp2
  refine tv_not <| tv_B <| ev_call <| av_cons <| ev_var rfl <| av_cons <| ev_call <| av_cons <| ev_var rfl <| av_nil ⟨p, q, rfl, dk2, fun F m n M3 so dk3 fr3 => ?_⟩
  refine av_cons <| ev_call <| av_cons <| ev_var rfl <| av_cons <| ev_int <| av_nil ⟨p, q, _, rfl, by decide, by decide, dk3, fun r M4 r0 r1 dk4 fr4 => ?_⟩
  obtain ⟨a, ha, hr⟩ : ∃ j : Nat, j < 13 ∧ r = (j : Int) := ⟨r.toNat, by omega, by omega⟩
  subst hr
  refine av_cons <| ev_call <| av_cons <| ev_var rfl <| av_cons <| ev_int <| av_nil ⟨p, q, _, rfl, by decide, by decide, dk4, fun r M5 r0 r1 dk5 fr5 => ?_⟩
  obtain ⟨b, hb, hr⟩ : ∃ j : Nat, j < 10 ∧ r = (j : Int) := ⟨r.toNat, by omega, by omega⟩
  subst hr
  refine av_nil ⟨p, q, F, m, n, a, b, rfl, so, by omega, by omega, dk5, fun M6 dk6 fr6 => ⟨true, rfl, iff' rfl <| sw_next ?_⟩⟩
  clear so
  -- more of a solid
  refine sw_seq <| sw_asg <| EV.mono (k := fun d M' => ∃ F m n, d = solidD F ∧ Sol F m n ∧ DkOk p q M') ?_ ?_
  · refine ev_if <| tv_test <| ev_op <| ev_call <| av_cons <| ev_var rfl <| av_cons <| ev_int <| av_nil ⟨p, q, _, rfl, by decide, by decide, dk6, fun r M7 r0 r1 dk7 fr7 => ev_int <| rd_eqI ⟨_, rfl, ifd (fun _ => ?_) (fun _ => ?_)⟩⟩
    · exact ev_call <| av_cons <| ev_var rfl <| av_nil ⟨p, q, rfl, dk7, fun F m n M8 so dk8 fr8 => ⟨F, m, n, rfl, so, dk8⟩⟩
    · exact ev_call <| av_cons <| ev_var rfl <| av_cons <| ev_int <| av_nil ⟨p, q, _, rfl, by decide, by decide, dk7, fun F m n M8 so dk8 fr8 => ⟨F, m, n, rfl, so, dk8⟩⟩
  rintro d M7 ⟨F, m, n, rfl, so, dk7⟩
  refine gv_name ?_
  refine sw_seq <| sw_if <| tv_not <| tv_B <| ev_call <| av_cons <| ev_var rfl <| av_cons <| ev_var rfl <| av_cons <| ev_call <| av_cons <| ev_var rfl <| av_cons <| ev_letters so rfl <| av_cons <| ev_call <| av_cons <| ev_var rfl <| av_cons <| ev_int <| av_nil ⟨p, q, _, rfl, by decide, by decide, dk7, fun r M8 r0 r1 dk8 fr8 => ?_⟩
  obtain ⟨c, hc, hr⟩ : ∃ j : Nat, j < 7 ∧ r = (j : Int) := ⟨r.toNat, by omega, by omega⟩
  subst hr
  refine av_nil ⟨p, q, m, c, rfl, so.m34, by omega, dk8, fun v M9 hvl hv dk9 fr9 => av_nil ⟨p, q, F, m, n, v, rfl, so, hv, by omega, dk9, fun M10 dk10 fr10 => ⟨true, rfl, iff' rfl <| sw_next ?_⟩⟩⟩
  -- twice, greater
  refine sw_seq <| sw_for <| iv_range1 <| av_cons <| ev_int <| av_nil ⟨_, rfl, by decide, by decide, FP.start (fun j ds M' => ∃ o3 : Option D, ds = [some (.scr (ns.map D.int)), some (.adr p), some (solidD F), o3] ∧ DkOk p q M') ⟨none, rfl, dk10⟩ ?_ ?_⟩
  · rintro j d ds M11 hj ⟨o3, rfl, dk11⟩
    refine gv_name <| sw_if <| tv_not <| tv_B <| ev_call <| av_cons <| ev_var rfl <| av_cons <| ev_call <| av_cons <| ev_var rfl <| av_cons <| ev_int <| av_nil ⟨p, q, _, rfl, by decide, by decide, dk11, fun F m n M12 so dk12 fr12 => ?_⟩
    refine av_cons <| ev_call <| av_cons <| ev_var rfl <| av_cons <| ev_int <| av_nil ⟨p, q, _, rfl, by decide, by decide, dk12, fun r M4 r0 r1 dk4 fr4 => ?_⟩
    obtain ⟨a, ha, hr⟩ : ∃ j : Nat, j < 13 ∧ r = (j : Int) := ⟨r.toNat, by omega, by omega⟩
    subst hr
    refine av_cons <| ev_call <| av_cons <| ev_var rfl <| av_cons <| ev_int <| av_nil ⟨p, q, _, rfl, by decide, by decide, dk4, fun r M5 r0 r1 dk5 fr5 => ?_⟩
    obtain ⟨b, hb, hr⟩ : ∃ j : Nat, j < 10 ∧ r = (j : Int) := ⟨r.toNat, by omega, by omega⟩
    subst hr
    exact av_nil ⟨p, q, F, m, n, a, b, rfl, so, by omega, by omega, dk5, fun M6 dk6 fr6 => ⟨true, rfl, iff' rfl <| sw_next ⟨_, rfl, dk6⟩⟩⟩
  rintro ds M11 ⟨o3, rfl, dk11⟩
  refine sw_seq <| sw_if <| tv_test <| ev_op <| ev_call <| av_cons <| ev_var rfl <| av_cons <| ev_int <| av_nil ⟨p, q, _, rfl, by decide, by decide, dk11, fun r M12 r0 r1 dk12 fr12 => ev_int <| rd_eqI ⟨_, rfl, ifd (fun _ => ?_) (fun _ => sw_next ?_)⟩⟩
  · refine sw_ret <| ev_call <| av_cons <| ev_var rfl <| av_cons <| ev_call <| av_cons <| ev_var rfl <| av_cons <| ev_int <| av_nil ⟨p, q, _, rfl, by decide, by decide, dk12, fun F m n M13 so dk13 fr13 => av_cons <| ev_int <| av_cons <| ev_int <| av_nil ⟨p, q, F, m, n, 150, 3, rfl, so, by decide, by decide, dk13, fun M14 _ _ => hk M14⟩⟩
  · exact sw_ret <| ev_bl <| hk M12
end
end WK

set_option Elab.async false
set_option linter.all false
set_option maxRecDepth 100000
set_option maxHeartbeats 4000000
namespace WK
open PySem PySem.Spec PyProof.Rows L2 Evl PL
theorem sqt2 {K : PySem.W.Frag} {a : Addr} {i j : Int} {y : Option Addr} {q r : Tok} {z : Nat} {x : Array (Option Value)} (p : K.lookup a = some ⟨.type "tuple", y, .seq #[.int i q, .int j r] z, x⟩) (H : Hp) : SqT K H a ([i, j].map V.int) :=
  .inr ⟨_, _, _, p, rfl, rfl, (show 2 ≤ sizeLine by decide), .cons ⟨_, rfl⟩ (.cons ⟨_, rfl⟩ .nil)⟩
theorem ktab_of {K : PySem.W.Frag} {w : World} {mv t1 t2 t3 t4 : Addr} {kt1 kt2 kt3 kt4 : Tok} {kh1 kh2 kh3 kh4 : Int} {nn : Nat} {q1 q2 q3 q4 q5 q6 q7 q8 : Tok} {z1 z2 z3 z4 : Nat} {y1 y2 y3 y4 : Option Addr} {x1 x2 x3 x4 : Array (Option Value)}
    (lm : K.lookup mv = some ⟨.type "dict", none, .dict #[{ hash := kh1, key := .str "E" kt1, val := .ref t1 }, { hash := kh2, key := .str "N" kt2, val := .ref t2 }, { hash := kh3, key := .str "W" kt3, val := .ref t3 }, { hash := kh4, key := .str "S" kt4, val := .ref t4 }] nn, #[]⟩)
    (kl : PySem.W.KeysLit w.params [{ hash := kh1, key := .str "E" kt1, val := .ref t1 }, { hash := kh2, key := .str "N" kt2, val := .ref t2 }, { hash := kh3, key := .str "W" kt3, val := .ref t3 }, { hash := kh4, key := .str "S" kt4, val := .ref t4 }])
    (p1 : K.lookup t1 = some ⟨.type "tuple", y1, .seq #[.int 1 q1, .int 0 q2] z1, x1⟩) (p2 : K.lookup t2 = some ⟨.type "tuple", y2, .seq #[.int 0 q3, .int 1 q4] z2, x2⟩)
    (p3 : K.lookup t3 = some ⟨.type "tuple", y3, .seq #[.int (-1) q5, .int 0 q6] z3, x3⟩) (p4 : K.lookup t4 = some ⟨.type "tuple", y4, .seq #[.int 0 q7, .int (-1) q8] z4, x4⟩) : KTab K w mv sqMoves := by
  have ns : ∀ z : Str, PySem.W.nsIn K mv z = some (if z = "E" then some (.ref t1) else if z = "N" then some (.ref t2) else if z = "W" then some (.ref t3) else if z = "S" then some (.ref t4) else none) := fun z => by
    have bq : ∀ a : Str, (a == z) = decide (z = a) := fun a => by
      by_cases h : z = a
      · subst h; simp
      · rw [decide_eq_false h]; exact beq_eq_false_iff_ne.mpr fun e => h e.symm
    have pe : ∀ (a : Str) (hh : Int) (t : Tok) (v : Value), ({ hash := hh, key := .str a t, val := v } : DictEntry).key.isStr z = decide (z = a) := fun a _ _ _ => bq a
    unfold PySem.W.nsIn
    rw [lm]
    show (match List.find? (fun x : DictEntry => x.key.isStr z) ([{ hash := kh1, key := .str "E" kt1, val := .ref t1 }, { hash := kh2, key := .str "N" kt2, val := .ref t2 }, { hash := kh3, key := .str "W" kt3, val := .ref t3 }, { hash := kh4, key := .str "S" kt4, val := .ref t4 }] : List DictEntry) with | some (e : DictEntry) => some (some e.val) | none => if List.any ([{ hash := kh1, key := .str "E" kt1, val := .ref t1 }, { hash := kh2, key := .str "N" kt2, val := .ref t2 }, { hash := kh3, key := .str "W" kt3, val := .ref t3 }, { hash := kh4, key := .str "S" kt4, val := .ref t4 }] : List DictEntry) (fun x : DictEntry => x.refKey) = true then none else some none) = _
    by_cases h1 : z = "E"
    · rw [List.find?_cons_of_pos (by rw [pe]; exact decide_eq_true h1), if_pos h1]
    · rw [List.find?_cons_of_neg (by rw [pe, decide_eq_false h1]; decide), if_neg h1]
      by_cases h2 : z = "N"
      · rw [List.find?_cons_of_pos (by rw [pe]; exact decide_eq_true h2), if_pos h2]
      · rw [List.find?_cons_of_neg (by rw [pe, decide_eq_false h2]; decide), if_neg h2]
        by_cases h3 : z = "W"
        · rw [List.find?_cons_of_pos (by rw [pe]; exact decide_eq_true h3), if_pos h3]
        · rw [List.find?_cons_of_neg (by rw [pe, decide_eq_false h3]; decide), if_neg h3]
          by_cases h4 : z = "S"
          · rw [List.find?_cons_of_pos (by rw [pe]; exact decide_eq_true h4), if_pos h4]
          · rw [List.find?_cons_of_neg (by rw [pe, decide_eq_false h4]; decide), if_neg h4]; rfl
  have fin : ∀ (z : Str) (a : Addr) (ms : List Int), PySem.W.nsIn K mv z = some (some (.ref a)) → (∀ H, SqT K H a (ms.map V.int)) → (∃ r, PySem.W.nsIn K mv z = some (some r)) ∧ ∃ a, KDct K w mv z (.ref a) ∧ ∀ H, SqT K H a (ms.map V.int) := fun z a ms h s =>
    ⟨⟨_, h⟩, a, ⟨_, _, _, lm, kl, h, rfl⟩, s⟩
  refine ⟨fun z ms h => ?_, fun z h => ?_⟩
  · unfold sqMoves at h
    by_cases h1 : z = "E"
    · rw [if_pos h1] at h; cases h
      exact fin z t1 _ (by rw [ns z, if_pos h1]) (sqt2 p1)
    · rw [if_neg h1] at h
      by_cases h2 : z = "N"
      · rw [if_pos h2] at h; cases h
        exact fin z t2 _ (by rw [ns z, if_neg h1, if_pos h2]) (sqt2 p2)
      · rw [if_neg h2] at h
        by_cases h3 : z = "W"
        · rw [if_pos h3] at h; cases h
          exact fin z t3 _ (by rw [ns z, if_neg h1, if_neg h2, if_pos h3]) (sqt2 p3)
        · rw [if_neg h3] at h
          by_cases h4 : z = "S"
          · rw [if_pos h4] at h; cases h
            exact fin z t4 _ (by rw [ns z, if_neg h1, if_neg h2, if_neg h3, if_pos h4]) (sqt2 p4)
          · rw [if_neg h4] at h; cases h
  · unfold sqMoves at h
    rw [ns z]
    by_cases h1 : z = "E"
    · rw [if_pos h1] at h; cases h
    · rw [if_neg h1] at h ⊢
      by_cases h2 : z = "N"
      · rw [if_pos h2] at h; cases h
      · rw [if_neg h2] at h ⊢
        by_cases h3 : z = "W"
        · rw [if_pos h3] at h; cases h
        · rw [if_neg h3] at h ⊢
          by_cases h4 : z = "S"
          · rw [if_pos h4] at h; cases h
          · rw [if_neg h4] at h ⊢
theorem all_mk {l : PySem.W.OpenLaw} {w : World} {K : PySem.W.Frag} {h : Heap} {mg : Str → Option Value} {fa : Addr} {C mv t1 t2 t3 t4 : Addr} {tk1 tk2 : Tok} {kt1 kt2 kt3 kt4 : Tok} {kh1 kh2 kh3 kh4 : Int} {nn : Nat} {q1 q2 q3 q4 q5 q6 q7 q8 : Tok} {z1 z2 z3 z4 : Nat} {y1 y2 y3 y4 : Option Addr} {x1 x2 x3 x4 : Array (Option Value)} {f0 : Addr} {od0 an0 : Option Addr} {sl0 : Array (Option Value)} {oc0 kV0 dc0 pm0 cd0 ct0 : Value}
    {f1 : Addr} {od1 an1 : Option Addr} {sl1 : Array (Option Value)} {oc1 kV1 dc1 pm1 cd1 ct1 : Value}
    {f2 : Addr} {od2 an2 : Option Addr} {sl2 : Array (Option Value)} {oc2 kV2 dc2 pm2 cd2 ct2 : Value}
    {f3 : Addr} {od3 an3 : Option Addr} {sl3 : Array (Option Value)} {oc3 kV3 dc3 pm3 cd3 ct3 : Value}
    {f4 : Addr} {od4 an4 : Option Addr} {sl4 : Array (Option Value)} {oc4 kV4 dc4 pm4 cd4 ct4 : Value}
    {f5 : Addr} {od5 an5 : Option Addr} {sl5 : Array (Option Value)} {oc5 kV5 dc5 pm5 cd5 ct5 : Value}
    {f6 : Addr} {od6 an6 : Option Addr} {sl6 : Array (Option Value)} {oc6 kV6 dc6 pm6 cd6 ct6 : Value}
    {f7 : Addr} {od7 an7 : Option Addr} {sl7 : Array (Option Value)} {oc7 kV7 dc7 pm7 cd7 ct7 : Value}
    {f8 : Addr} {od8 an8 : Option Addr} {sl8 : Array (Option Value)} {oc8 kV8 dc8 pm8 cd8 ct8 : Value}
    {f9 : Addr} {od9 an9 : Option Addr} {sl9 : Array (Option Value)} {oc9 kV9 dc9 pm9 cd9 ct9 : Value}
    {f10 : Addr} {od10 an10 : Option Addr} {sl10 : Array (Option Value)} {oc10 kV10 dc10 pm10 cd10 ct10 : Value}
    {f11 : Addr} {od11 an11 : Option Addr} {sl11 : Array (Option Value)} {oc11 kV11 dc11 pm11 cd11 ct11 : Value}
    {f12 : Addr} {od12 an12 : Option Addr} {sl12 : Array (Option Value)} {oc12 kV12 dc12 pm12 cd12 ct12 : Value}
    {f13 : Addr} {od13 an13 : Option Addr} {sl13 : Array (Option Value)} {oc13 kV13 dc13 pm13 cd13 ct13 : Value}
    {f14 : Addr} {od14 an14 : Option Addr} {sl14 : Array (Option Value)} {oc14 kV14 dc14 pm14 cd14 ct14 : Value}
    {f15 : Addr} {od15 an15 : Option Addr} {sl15 : Array (Option Value)} {oc15 kV15 dc15 pm15 cd15 ct15 : Value}
    {f16 : Addr} {od16 an16 : Option Addr} {sl16 : Array (Option Value)} {oc16 kV16 dc16 pm16 cd16 ct16 : Value}
    {f17 : Addr} {od17 an17 : Option Addr} {sl17 : Array (Option Value)} {oc17 kV17 dc17 pm17 cd17 ct17 : Value}
    {f18 : Addr} {od18 an18 : Option Addr} {sl18 : Array (Option Value)} {oc18 kV18 dc18 pm18 cd18 ct18 : Value}
    {f19 : Addr} {od19 an19 : Option Addr} {sl19 : Array (Option Value)} {oc19 kV19 dc19 pm19 cd19 ct19 : Value}
    {f20 : Addr} {od20 an20 : Option Addr} {sl20 : Array (Option Value)} {oc20 kV20 dc20 pm20 cd20 ct20 : Value}
    {f21 : Addr} {od21 an21 : Option Addr} {sl21 : Array (Option Value)} {oc21 kV21 dc21 pm21 cd21 ct21 : Value}
    {f22 : Addr} {od22 an22 : Option Addr} {sl22 : Array (Option Value)} {oc22 kV22 dc22 pm22 cd22 ct22 : Value}
    {f23 : Addr} {od23 an23 : Option Addr} {sl23 : Array (Option Value)} {oc23 kV23 dc23 pm23 cd23 ct23 : Value}
    {f24 : Addr} {od24 an24 : Option Addr} {sl24 : Array (Option Value)} {oc24 kV24 dc24 pm24 cd24 ct24 : Value}
    {f25 : Addr} {od25 an25 : Option Addr} {sl25 : Array (Option Value)} {oc25 kV25 dc25 pm25 cd25 ct25 : Value}
    {f26 : Addr} {od26 an26 : Option Addr} {sl26 : Array (Option Value)} {oc26 kV26 dc26 pm26 cd26 ct26 : Value}
    {f27 : Addr} {od27 an27 : Option Addr} {sl27 : Array (Option Value)} {oc27 kV27 dc27 pm27 cd27 ct27 : Value}
    {f28 : Addr} {od28 an28 : Option Addr} {sl28 : Array (Option Value)} {oc28 kV28 dc28 pm28 cd28 ct28 : Value}
    {f29 : Addr} {od29 an29 : Option Addr} {sl29 : Array (Option Value)} {oc29 kV29 dc29 pm29 cd29 ct29 : Value}
    {f30 : Addr} {od30 an30 : Option Addr} {sl30 : Array (Option Value)} {oc30 kV30 dc30 pm30 cd30 ct30 : Value}
    {f31 : Addr} {od31 an31 : Option Addr} {sl31 : Array (Option Value)} {oc31 kV31 dc31 pm31 cd31 ct31 : Value}
    {f32 : Addr} {od32 an32 : Option Addr} {sl32 : Array (Option Value)} {oc32 kV32 dc32 pm32 cd32 ct32 : Value}
    {f33 : Addr} {od33 an33 : Option Addr} {sl33 : Array (Option Value)} {oc33 kV33 dc33 pm33 cd33 ct33 : Value}
    {f34 : Addr} {od34 an34 : Option Addr} {sl34 : Array (Option Value)} {oc34 kV34 dc34 pm34 cd34 ct34 : Value}
    {f35 : Addr} {od35 an35 : Option Addr} {sl35 : Array (Option Value)} {oc35 kV35 dc35 pm35 cd35 ct35 : Value}
    {f36 : Addr} {od36 an36 : Option Addr} {sl36 : Array (Option Value)} {oc36 kV36 dc36 pm36 cd36 ct36 : Value}
    {f37 : Addr} {od37 an37 : Option Addr} {sl37 : Array (Option Value)} {oc37 kV37 dc37 pm37 cd37 ct37 : Value} (X : K.In h) (G : h.Ns mainGlobals mg) (hfa : mg "law" = some (.ref fa))
    (aC : PySem.W.nsIn K mainGlobals "Floor" = some (some (.ref C)))
    (pg : PySem.W.plainGet K C Str.empty = true)
    (hd : PySem.W.hasDictIn K C = true)
    (po : PySem.W.plainOver K C = true)
    (sa : PySem.W.findIn K (.ref C) "__setattr__" = some (some (.builtin "object.__setattr__")))
    (mk : PySem.W.makesIn K C = true)
    (kc : PySem.W.keepIn K (.ref C) = true)
    (n_b : PySem.W.findIn K (.ref C) "behind" = some none)
    (n_l : PySem.W.findIn K (.ref C) "letters" = some none)
    (sq : PySem.W.nsIn K mainGlobals "SQUARE_LETTERS" = some (some (.str "ENWS" tk1)))
    (tr : PySem.W.nsIn K mainGlobals "TRIANGLE_LETTERS" = some (some (.str "abc" tk2)))
    (mvs : PySem.W.nsIn K mainGlobals "SQUARE_MOVES" = some (some (.ref mv)))
    (lm : K.lookup mv = some ⟨.type "dict", none, .dict #[{ hash := kh1, key := .str "E" kt1, val := .ref t1 }, { hash := kh2, key := .str "N" kt2, val := .ref t2 }, { hash := kh3, key := .str "W" kt3, val := .ref t3 }, { hash := kh4, key := .str "S" kt4, val := .ref t4 }] nn, #[]⟩)
    (kl : PySem.W.KeysLit w.params [{ hash := kh1, key := .str "E" kt1, val := .ref t1 }, { hash := kh2, key := .str "N" kt2, val := .ref t2 }, { hash := kh3, key := .str "W" kt3, val := .ref t3 }, { hash := kh4, key := .str "S" kt4, val := .ref t4 }])
    (lo : (mv == sysModules) = false)
    (p1 : K.lookup t1 = some ⟨.type "tuple", y1, .seq #[.int 1 q1, .int 0 q2] z1, x1⟩)
    (p2 : K.lookup t2 = some ⟨.type "tuple", y2, .seq #[.int 0 q3, .int 1 q4] z2, x2⟩)
    (p3 : K.lookup t3 = some ⟨.type "tuple", y3, .seq #[.int (-1) q5, .int 0 q6] z3, x3⟩)
    (p4 : K.lookup t4 = some ⟨.type "tuple", y4, .seq #[.int 0 q7, .int (-1) q8] z4, x4⟩)
    (u_len : PySem.W.nsIn K mainGlobals "len" = some none)
    (u_range : PySem.W.nsIn K mainGlobals "range" = some none)
    (u_enumerate : PySem.W.nsIn K mainGlobals "enumerate" = some none)
    (u_int : PySem.W.nsIn K mainGlobals "int" = some none)
    (u_abs : PySem.W.nsIn K mainGlobals "abs" = some none)
    (u_list : PySem.W.nsIn K mainGlobals "list" = some none)
    (u_tuple : PySem.W.nsIn K mainGlobals "tuple" = some none)
    (u_sorted : PySem.W.nsIn K mainGlobals "sorted" = some none)
    (u_isinstance : PySem.W.nsIn K mainGlobals "isinstance" = some none)
    (u_min : PySem.W.nsIn K mainGlobals "min" = some none)
    (u_sum : PySem.W.nsIn K mainGlobals "sum" = some none)
    (u_bool : PySem.W.nsIn K mainGlobals "bool" = some none)
    (u_str : PySem.W.nsIn K mainGlobals "str" = some none)
    (a0 : PySem.W.nsIn K mainGlobals "_law_deck" = some (some (.ref f0)))
    (l0 : K.lookup f0 = some ⟨oc0, od0, .func (PySem.W.fnOf "_law_deck" "_law_deck" (defArgs s_law_deck) (defBody s_law_deck) (defScope s_law_deck) .none kV0 dc0 pm0 an0 cd0 ct0), sl0⟩) (c0 : PySem.W.codeIn K cd0 "_law_deck" = true) (k0 : PySem.W.keepIn K (.ref f0) = true)
    (a1 : PySem.W.nsIn K mainGlobals "_law_ordered" = some (some (.ref f1)))
    (l1 : K.lookup f1 = some ⟨oc1, od1, .func (PySem.W.fnOf "_law_ordered" "_law_ordered" (defArgs s_law_ordered) (defBody s_law_ordered) (defScope s_law_ordered) .none kV1 dc1 pm1 an1 cd1 ct1), sl1⟩) (c1 : PySem.W.codeIn K cd1 "_law_ordered" = true) (k1 : PySem.W.keepIn K (.ref f1) = true)
    (a2 : PySem.W.nsIn K mainGlobals "_law_deal" = some (some (.ref f2)))
    (l2 : K.lookup f2 = some ⟨oc2, od2, .func (PySem.W.fnOf "_law_deal" "_law_deal" (defArgs s_law_deal) (defBody s_law_deal) (defScope s_law_deal) .none kV2 dc2 pm2 an2 cd2 ct2), sl2⟩) (c2 : PySem.W.codeIn K cd2 "_law_deal" = true) (k2 : PySem.W.keepIn K (.ref f2) = true)
    (a3 : PySem.W.nsIn K mainGlobals "_law_shuffled" = some (some (.ref f3)))
    (l3 : K.lookup f3 = some ⟨oc3, od3, .func (PySem.W.fnOf "_law_shuffled" "_law_shuffled" (defArgs s_law_shuffled) (defBody s_law_shuffled) (defScope s_law_shuffled) .none kV3 dc3 pm3 an3 cd3 ct3), sl3⟩) (c3 : PySem.W.codeIn K cd3 "_law_shuffled" = true) (k3 : PySem.W.keepIn K (.ref f3) = true)
    (a4 : PySem.W.nsIn K mainGlobals "_law_numbered" = some (some (.ref f4)))
    (l4 : K.lookup f4 = some ⟨oc4, od4, .func (PySem.W.fnOf "_law_numbered" "_law_numbered" (defArgs s_law_numbered) (defBody s_law_numbered) (defScope s_law_numbered) .none kV4 dc4 pm4 an4 cd4 ct4), sl4⟩) (c4 : PySem.W.codeIn K cd4 "_law_numbered" = true) (k4 : PySem.W.keepIn K (.ref f4) = true)
    (a5 : PySem.W.nsIn K mainGlobals "_law_made" = some (some (.ref f5)))
    (l5 : K.lookup f5 = some ⟨oc5, od5, .func (PySem.W.fnOf "_law_made" "_law_made" (defArgs s_law_made) (defBody s_law_made) (defScope s_law_made) .none kV5 dc5 pm5 an5 cd5 ct5), sl5⟩) (c5 : PySem.W.codeIn K cd5 "_law_made" = true) (k5 : PySem.W.keepIn K (.ref f5) = true)
    (a6 : PySem.W.nsIn K mainGlobals "_law_glued" = some (some (.ref f6)))
    (l6 : K.lookup f6 = some ⟨oc6, od6, .func (PySem.W.fnOf "_law_glued" "_law_glued" (defArgs s_law_glued) (defBody s_law_glued) (defScope s_law_glued) .none kV6 dc6 pm6 an6 cd6 ct6), sl6⟩) (c6 : PySem.W.codeIn K cd6 "_law_glued" = true) (k6 : PySem.W.keepIn K (.ref f6) = true)
    (a7 : PySem.W.nsIn K mainGlobals "_law_floored" = some (some (.ref f7)))
    (l7 : K.lookup f7 = some ⟨oc7, od7, .func (PySem.W.fnOf "_law_floored" "_law_floored" (defArgs s_law_floored) (defBody s_law_floored) (defScope s_law_floored) .none kV7 dc7 pm7 an7 cd7 ct7), sl7⟩) (c7 : PySem.W.codeIn K cd7 "_law_floored" = true) (k7 : PySem.W.keepIn K (.ref f7) = true)
    (a8 : PySem.W.nsIn K mainGlobals "_law_behinds" = some (some (.ref f8)))
    (l8 : K.lookup f8 = some ⟨oc8, od8, .func (PySem.W.fnOf "_law_behinds" "_law_behinds" (defArgs s_law_behinds) (defBody s_law_behinds) (defScope s_law_behinds) .none kV8 dc8 pm8 an8 cd8 ct8), sl8⟩) (c8 : PySem.W.codeIn K cd8 "_law_behinds" = true) (k8 : PySem.W.keepIn K (.ref f8) = true)
    (a9 : PySem.W.nsIn K mainGlobals "_law_twin" = some (some (.ref f9)))
    (l9 : K.lookup f9 = some ⟨oc9, od9, .func (PySem.W.fnOf "_law_twin" "_law_twin" (defArgs s_law_twin) (defBody s_law_twin) (defScope s_law_twin) .none kV9 dc9 pm9 an9 cd9 ct9), sl9⟩) (c9 : PySem.W.codeIn K cd9 "_law_twin" = true) (k9 : PySem.W.keepIn K (.ref f9) = true)
    (a10 : PySem.W.nsIn K mainGlobals "_law_moves" = some (some (.ref f10)))
    (l10 : K.lookup f10 = some ⟨oc10, od10, .func (PySem.W.fnOf "_law_moves" "_law_moves" (defArgs s_law_moves) (defBody s_law_moves) (defScope s_law_moves) .none kV10 dc10 pm10 an10 cd10 ct10), sl10⟩) (c10 : PySem.W.codeIn K cd10 "_law_moves" = true) (k10 : PySem.W.keepIn K (.ref f10) = true)
    (a11 : PySem.W.nsIn K mainGlobals "_law_same" = some (some (.ref f11)))
    (l11 : K.lookup f11 = some ⟨oc11, od11, .func (PySem.W.fnOf "_law_same" "_law_same" (defArgs s_law_same) (defBody s_law_same) (defScope s_law_same) .none kV11 dc11 pm11 an11 cd11 ct11), sl11⟩) (c11 : PySem.W.codeIn K cd11 "_law_same" = true) (k11 : PySem.W.keepIn K (.ref f11) = true)
    (a12 : PySem.W.nsIn K mainGlobals "_law_stepped" = some (some (.ref f12)))
    (l12 : K.lookup f12 = some ⟨oc12, od12, .func (PySem.W.fnOf "_law_stepped" "_law_stepped" (defArgs s_law_stepped) (defBody s_law_stepped) (defScope s_law_stepped) .none kV12 dc12 pm12 an12 cd12 ct12), sl12⟩) (c12 : PySem.W.codeIn K cd12 "_law_stepped" = true) (k12 : PySem.W.keepIn K (.ref f12) = true)
    (a13 : PySem.W.nsIn K mainGlobals "_law_run" = some (some (.ref f13)))
    (l13 : K.lookup f13 = some ⟨oc13, od13, .func (PySem.W.fnOf "_law_run" "_law_run" (defArgs s_law_run) (defBody s_law_run) (defScope s_law_run) .none kV13 dc13 pm13 an13 cd13 ct13), sl13⟩) (c13 : PySem.W.codeIn K cd13 "_law_run" = true) (k13 : PySem.W.keepIn K (.ref f13) = true)
    (a14 : PySem.W.nsIn K mainGlobals "behind_table" = some (some (.ref f14)))
    (l14 : K.lookup f14 = some ⟨oc14, od14, .func (PySem.W.fnOf "behind_table" "behind_table" (defArgs s_behind_table) (defBody s_behind_table) (defScope s_behind_table) .none kV14 dc14 pm14 an14 cd14 ct14), sl14⟩) (c14 : PySem.W.codeIn K cd14 "behind_table" = true) (k14 : PySem.W.keepIn K (.ref f14) = true)
    (a15 : PySem.W.nsIn K mainGlobals "floor_word" = some (some (.ref f15)))
    (l15 : K.lookup f15 = some ⟨oc15, od15, .func (PySem.W.fnOf "floor_word" "floor_word" (defArgs s_floor_word) (defBody s_floor_word) (defScope s_floor_word) .none kV15 dc15 pm15 an15 cd15 ct15), sl15⟩) (c15 : PySem.W.codeIn K cd15 "floor_word" = true) (k15 : PySem.W.keepIn K (.ref f15) = true)
    (a16 : PySem.W.findIn K (.ref C) "__init__" = some (some (.ref f16))) (i16 : PySem.W.isFn K (.ref f16) = true)
    (l16 : K.lookup f16 = some ⟨oc16, od16, .func (PySem.W.fnOf "__init__" "Floor.__init__" (defArgs s_Floor_init) (defBody s_Floor_init) (defScope s_Floor_init) .none kV16 dc16 pm16 an16 cd16 ct16), sl16⟩) (c16 : PySem.W.codeIn K cd16 "Floor.__init__" = true) (k16 : PySem.W.keepIn K (.ref f16) = true)
    (a17 : PySem.W.findIn K (.ref C) "turned" = some (some (.ref f17))) (i17 : PySem.W.isFn K (.ref f17) = true)
    (l17 : K.lookup f17 = some ⟨oc17, od17, .func (PySem.W.fnOf "turned" "Floor.turned" (defArgs s_Floor_turned) (defBody s_Floor_turned) (defScope s_Floor_turned) .none kV17 dc17 pm17 an17 cd17 ct17), sl17⟩) (c17 : PySem.W.codeIn K cd17 "Floor.turned" = true) (k17 : PySem.W.keepIn K (.ref f17) = true)
    (a18 : PySem.W.nsIn K mainGlobals "moved_place" = some (some (.ref f18)))
    (l18 : K.lookup f18 = some ⟨oc18, od18, .func (PySem.W.fnOf "moved_place" "moved_place" (defArgs s_moved_place) (defBody s_moved_place) (defScope s_moved_place) .none kV18 dc18 pm18 an18 cd18 ct18), sl18⟩) (c18 : PySem.W.codeIn K cd18 "moved_place" = true) (k18 : PySem.W.keepIn K (.ref f18) = true)
    (a19 : PySem.W.findIn K (.ref C) "step" = some (some (.ref f19))) (i19 : PySem.W.isFn K (.ref f19) = true)
    (l19 : K.lookup f19 = some ⟨oc19, od19, .func (PySem.W.fnOf "step" "Floor.step" (defArgs s_Floor_step) (defBody s_Floor_step) (defScope s_Floor_step) .none kV19 dc19 pm19 an19 cd19 ct19), sl19⟩) (c19 : PySem.W.codeIn K cd19 "Floor.step" = true) (k19 : PySem.W.keepIn K (.ref f19) = true)
    (a20 : PySem.W.nsIn K mainGlobals "floor_ball" = some (some (.ref f20)))
    (l20 : K.lookup f20 = some ⟨oc20, od20, .func (PySem.W.fnOf "floor_ball" "floor_ball" (defArgs s_floor_ball) (defBody s_floor_ball) (defScope s_floor_ball) .none kV20 dc20 pm20 an20 cd20 ct20), sl20⟩) (c20 : PySem.W.codeIn K cd20 "floor_ball" = true) (k20 : PySem.W.keepIn K (.ref f20) = true)
    (a21 : PySem.W.nsIn K mainGlobals "_law_ball" = some (some (.ref f21)))
    (l21 : K.lookup f21 = some ⟨oc21, od21, .func (PySem.W.fnOf "_law_ball" "_law_ball" (defArgs s_law_ball) (defBody s_law_ball) (defScope s_law_ball) .none kV21 dc21 pm21 an21 cd21 ct21), sl21⟩) (c21 : PySem.W.codeIn K cd21 "_law_ball" = true) (k21 : PySem.W.keepIn K (.ref f21) = true)
    (a22 : PySem.W.findIn K (.ref C) "word" = some (some (.ref f22))) (i22 : PySem.W.isFn K (.ref f22) = true)
    (l22 : K.lookup f22 = some ⟨oc22, od22, .func (PySem.W.fnOf "word" "Floor.word" (defArgs s_Floor_word) (defBody s_Floor_word) (defScope s_Floor_word) .none kV22 dc22 pm22 an22 cd22 ct22), sl22⟩) (c22 : PySem.W.codeIn K cd22 "Floor.word" = true) (k22 : PySem.W.keepIn K (.ref f22) = true)
    (a23 : PySem.W.nsIn K mainGlobals "floor_move" = some (some (.ref f23)))
    (l23 : K.lookup f23 = some ⟨oc23, od23, .func (PySem.W.fnOf "floor_move" "floor_move" (defArgs s_floor_move) (defBody s_floor_move) (defScope s_floor_move) .none kV23 dc23 pm23 an23 cd23 ct23), sl23⟩) (c23 : PySem.W.codeIn K cd23 "floor_move" = true) (k23 : PySem.W.keepIn K (.ref f23) = true)
    (a24 : PySem.W.nsIn K mainGlobals "_law_back" = some (some (.ref f24)))
    (l24 : K.lookup f24 = some ⟨oc24, od24, .func (PySem.W.fnOf "_law_back" "_law_back" (defArgs s_law_back) (defBody s_law_back) (defScope s_law_back) .none kV24 dc24 pm24 an24 cd24 ct24), sl24⟩) (c24 : PySem.W.codeIn K cd24 "_law_back" = true) (k24 : PySem.W.keepIn K (.ref f24) = true)
    (a25 : PySem.W.nsIn K mainGlobals "face_table" = some (some (.ref f25)))
    (l25 : K.lookup f25 = some ⟨oc25, od25, .func (PySem.W.fnOf "face_table" "face_table" (defArgs s_face_table) (defBody s_face_table) (defScope s_face_table) .none kV25 dc25 pm25 an25 cd25 ct25), sl25⟩) (c25 : PySem.W.codeIn K cd25 "face_table" = true) (k25 : PySem.W.keepIn K (.ref f25) = true)
    (a26 : PySem.W.nsIn K mainGlobals "sides_of" = some (some (.ref f26)))
    (l26 : K.lookup f26 = some ⟨oc26, od26, .func (PySem.W.fnOf "sides_of" "sides_of" (defArgs s_sides_of) (defBody s_sides_of) (defScope s_sides_of) .none kV26 dc26 pm26 an26 cd26 ct26), sl26⟩) (c26 : PySem.W.codeIn K cd26 "sides_of" = true) (k26 : PySem.W.keepIn K (.ref f26) = true)
    (a27 : PySem.W.nsIn K mainGlobals "are_like_floor_words" = some (some (.ref f27)))
    (l27 : K.lookup f27 = some ⟨oc27, od27, .func (PySem.W.fnOf "are_like_floor_words" "are_like_floor_words" (defArgs s_are_like_floor_words) (defBody s_are_like_floor_words) (defScope s_are_like_floor_words) .none kV27 dc27 pm27 an27 cd27 ct27), sl27⟩) (c27 : PySem.W.codeIn K cd27 "are_like_floor_words" = true) (k27 : PySem.W.keepIn K (.ref f27) = true)
    (a28 : PySem.W.nsIn K mainGlobals "_law_like" = some (some (.ref f28)))
    (l28 : K.lookup f28 = some ⟨oc28, od28, .func (PySem.W.fnOf "_law_like" "_law_like" (defArgs s_law_like) (defBody s_law_like) (defScope s_law_like) .none kV28 dc28 pm28 an28 cd28 ct28), sl28⟩) (c28 : PySem.W.codeIn K cd28 "_law_like" = true) (k28 : PySem.W.keepIn K (.ref f28) = true)
    (a29 : PySem.W.nsIn K mainGlobals "_law_more" = some (some (.ref f29)))
    (l29 : K.lookup f29 = some ⟨oc29, od29, .func (PySem.W.fnOf "_law_more" "_law_more" (defArgs s_law_more) (defBody s_law_more) (defScope s_law_more) .none kV29 dc29 pm29 an29 cd29 ct29), sl29⟩) (c29 : PySem.W.codeIn K cd29 "_law_more" = true) (k29 : PySem.W.keepIn K (.ref f29) = true)
    (a30 : PySem.W.nsIn K mainGlobals "_law_text" = some (some (.ref f30)))
    (l30 : K.lookup f30 = some ⟨oc30, od30, .func (PySem.W.fnOf "_law_text" "_law_text" (defArgs s_law_text) (defBody s_law_text) (defScope s_law_text) .none kV30 dc30 pm30 an30 cd30 ct30), sl30⟩) (c30 : PySem.W.codeIn K cd30 "_law_text" = true) (k30 : PySem.W.keepIn K (.ref f30) = true)
    (a31 : PySem.W.findIn K (.ref C) "lap" = some (some (.ref f31))) (i31 : PySem.W.isFn K (.ref f31) = true)
    (l31 : K.lookup f31 = some ⟨oc31, od31, .func (PySem.W.fnOf "lap" "Floor.lap" (defArgs s_Floor_lap) (defBody s_Floor_lap) (defScope s_Floor_lap) .none kV31 dc31 pm31 an31 cd31 ct31), sl31⟩) (c31 : PySem.W.codeIn K cd31 "Floor.lap" = true) (k31 : PySem.W.keepIn K (.ref f31) = true)
    (a32 : PySem.W.findIn K (.ref C) "run" = some (some (.ref f32))) (i32 : PySem.W.isFn K (.ref f32) = true)
    (l32 : K.lookup f32 = some ⟨oc32, od32, .func (PySem.W.fnOf "run" "Floor.run" (defArgs s_Floor_run) (defBody s_Floor_run) (defScope s_Floor_run) .none kV32 dc32 pm32 an32 cd32 ct32), sl32⟩) (c32 : PySem.W.codeIn K cd32 "Floor.run" = true) (k32 : PySem.W.keepIn K (.ref f32) = true)
    (a33 : PySem.W.nsIn K mainGlobals "floor_run" = some (some (.ref f33)))
    (l33 : K.lookup f33 = some ⟨oc33, od33, .func (PySem.W.fnOf "floor_run" "floor_run" (defArgs s_floor_run) (defBody s_floor_run) (defScope s_floor_run) .none kV33 dc33 pm33 an33 cd33 ct33), sl33⟩) (c33 : PySem.W.codeIn K cd33 "floor_run" = true) (k33 : PySem.W.keepIn K (.ref f33) = true)
    (a34 : PySem.W.nsIn K mainGlobals "floor_step" = some (some (.ref f34)))
    (l34 : K.lookup f34 = some ⟨oc34, od34, .func (PySem.W.fnOf "floor_step" "floor_step" (defArgs s_floor_step) (defBody s_floor_step) (defScope s_floor_step) .none kV34 dc34 pm34 an34 cd34 ct34), sl34⟩) (c34 : PySem.W.codeIn K cd34 "floor_step" = true) (k34 : PySem.W.keepIn K (.ref f34) = true)
    (a35 : PySem.W.nsIn K mainGlobals "_law_asked" = some (some (.ref f35)))
    (l35 : K.lookup f35 = some ⟨oc35, od35, .func (PySem.W.fnOf "_law_asked" "_law_asked" (defArgs s_law_asked) (defBody s_law_asked) (defScope s_law_asked) .none kV35 dc35 pm35 an35 cd35 ct35), sl35⟩) (c35 : PySem.W.codeIn K cd35 "_law_asked" = true) (k35 : PySem.W.keepIn K (.ref f35) = true)
    (a36 : PySem.W.nsIn K mainGlobals "_law_hand" = some (some (.ref f36)))
    (l36 : K.lookup f36 = some ⟨oc36, od36, .func (PySem.W.fnOf "_law_hand" "_law_hand" (defArgs s_law_hand) (defBody s_law_hand) (defScope s_law_hand) .none kV36 dc36 pm36 an36 cd36 ct36), sl36⟩) (c36 : PySem.W.codeIn K cd36 "_law_hand" = true) (k36 : PySem.W.keepIn K (.ref f36) = true)
    (a37 : PySem.W.nsIn K mainGlobals "law" = some (some (.ref f37)))
    (l37 : K.lookup f37 = some ⟨oc37, od37, .func (PySem.W.fnOf "law" "law" (defArgs s_law) (defBody s_law) (defScope s_law) .none kV37 dc37 pm37 an37 cd37 ct37), sl37⟩) (c37 : PySem.W.codeIn K cd37 "law" = true) (k37 : PySem.W.keepIn K (.ref f37) = true) :
    ∃ fd : FuncData, (∀ (s : Shared) (v : Value), BindsTo s fd ⟨[v], []⟩ [("script", v)]) ∧ ∀ base : Heap, K.In base → base.Ns mainGlobals mg → FnOk l.prog w K mg base CX0 8 fa fd ["script"] (SpD K w spLaw) := by
  have e := hfa.symm.trans (PySem.W.mg_of X G a37)
  cases e
  have T : Bi mg := ⟨PySem.W.mg_none_of X G u_len, PySem.W.mg_none_of X G u_range, PySem.W.mg_none_of X G u_enumerate, PySem.W.mg_none_of X G u_int, PySem.W.mg_none_of X G u_abs, PySem.W.mg_none_of X G u_list, PySem.W.mg_none_of X G u_tuple, PySem.W.mg_none_of X G u_sorted, PySem.W.mg_none_of X G u_isinstance, PySem.W.mg_none_of X G u_min, PySem.W.mg_none_of X G u_sum, PySem.W.mg_none_of X G u_bool, PySem.W.mg_none_of X G u_str⟩
  have c_cls : Cls K C := ⟨pg, hd, po, sa⟩
  have mC := PySem.W.mg_of X G aC
  have g_sq := PySem.W.mg_of X G sq
  have g_tr := PySem.W.mg_of X G tr
  have g_mv := PySem.W.mg_of X G mvs
  have KD : ∃ es n, KDict K w mv es n := ⟨_, _, lm, kl, lo⟩
  have KT : KTab K w mv sqMoves := ktab_of lm kl p1 p2 p3 p4
  have F0 := fun_mk (st := s_law_deck) l0 c0 k0
  have b0 := F0.binds (ps := ["script"]) fun _ _ _ _ _ _ us hl => match us, hl with | [_], _ => rfl
  have m0 : mg "_law_deck" = some (.ref f0) := PySem.W.mg_of X G a0
  have F1 := fun_mk (st := s_law_ordered) l1 c1 k1
  have b1 := F1.binds (ps := ["faces"]) fun _ _ _ _ _ _ us hl => match us, hl with | [_], _ => rfl
  have m1 : mg "_law_ordered" = some (.ref f1) := PySem.W.mg_of X G a1
  have F2 := fun_mk (st := s_law_deal) l2 c2 k2
  have b2 := F2.binds (ps := ["deck", "many"]) fun _ _ _ _ _ _ us hl => match us, hl with | [_, _], _ => rfl
  have m2 : mg "_law_deal" = some (.ref f2) := PySem.W.mg_of X G a2
  have F3 := fun_mk (st := s_law_shuffled) l3 c3 k3
  have b3 := F3.binds (ps := ["deck", "things"]) fun _ _ _ _ _ _ us hl => match us, hl with | [_, _], _ => rfl
  have m3 : mg "_law_shuffled" = some (.ref f3) := PySem.W.mg_of X G a3
  have F4 := fun_mk (st := s_law_numbered) l4 c4 k4
  have b4 := F4.binds (ps := ["deck", "faces", "pairs"]) fun _ _ _ _ _ _ us hl => match us, hl with | [_, _, _], _ => rfl
  have m4 : mg "_law_numbered" = some (.ref f4) := PySem.W.mg_of X G a4
  have F5 := fun_mk (st := s_law_made) l5 c5 k5
  have b5 := F5.binds (ps := ["deck"]) fun _ _ _ _ _ _ us hl => match us, hl with | [_], _ => rfl
  have m5 : mg "_law_made" = some (.ref f5) := PySem.W.mg_of X G a5
  have F6 := fun_mk (st := s_law_glued) l6 c6 k6
  have b6 := F6.binds (ps := ["deck", "sizes"]) fun _ _ _ _ _ _ us hl => match us, hl with | [_, _], _ => rfl
  have m6 : mg "_law_glued" = some (.ref f6) := PySem.W.mg_of X G a6
  have F7 := fun_mk (st := s_law_floored) l7 c7 k7
  have b7 := F7.binds (ps := ["deck", "most"]) fun _ _ _ _ _ _ us hl => match us, hl with | [_, _], _ => rfl
  have m7 : mg "_law_floored" = some (.ref f7) := PySem.W.mg_of X G a7
  have F8 := fun_mk (st := s_law_behinds) l8 c8 k8
  have b8 := F8.binds (ps := ["sheet"]) fun _ _ _ _ _ _ us hl => match us, hl with | [_], _ => rfl
  have m8 : mg "_law_behinds" = some (.ref f8) := PySem.W.mg_of X G a8
  have F9 := fun_mk (st := s_law_twin) l9 c9 k9
  have b9 := F9.binds (ps := ["side"]) fun _ _ _ _ _ _ us hl => match us, hl with | [_], _ => rfl
  have m9 : mg "_law_twin" = some (.ref f9) := PySem.W.mg_of X G a9
  have F10 := fun_mk (st := s_law_moves) l10 c10 k10
  have b10 := F10.binds (ps := ["solid"]) fun _ _ _ _ _ _ us hl => match us, hl with | [_], _ => rfl
  have m10 : mg "_law_moves" = some (.ref f10) := PySem.W.mg_of X G a10
  have F11 := fun_mk (st := s_law_same) l11 c11 k11
  have b11 := F11.binds (ps := ["told", "due"]) fun _ _ _ _ _ _ us hl => match us, hl with | [_, _], _ => rfl
  have m11 : mg "_law_same" = some (.ref f11) := PySem.W.mg_of X G a11
  have F12 := fun_mk (st := s_law_stepped) l12 c12 k12
  have b12 := F12.binds (ps := ["moves", "standing", "letter"]) fun _ _ _ _ _ _ us hl => match us, hl with | [_, _, _], _ => rfl
  have m12 : mg "_law_stepped" = some (.ref f12) := PySem.W.mg_of X G a12
  have F13 := fun_mk (st := s_law_run) l13 c13 k13
  have b13 := F13.binds (ps := ["moves", "standing", "word"]) fun _ _ _ _ _ _ us hl => match us, hl with | [_, _, _], _ => rfl
  have m13 : mg "_law_run" = some (.ref f13) := PySem.W.mg_of X G a13
  have F14 := fun_mk (st := s_behind_table) l14 c14 k14
  have b14 := F14.binds (ps := ["sheet"]) fun _ _ _ _ _ _ us hl => match us, hl with | [_], _ => rfl
  have m14 : mg "behind_table" = some (.ref f14) := PySem.W.mg_of X G a14
  have F15 := fun_mk (st := s_floor_word) l15 c15 k15
  have b15 := F15.binds (ps := ["solid"]) fun _ _ _ _ _ _ us hl => match us, hl with | [_], _ => rfl
  have m15 : mg "floor_word" = some (.ref f15) := PySem.W.mg_of X G a15
  have F16 := fun_mk (st := s_Floor_init) l16 c16 k16
  have b16 := F16.binds (ps := ["self", "solid"]) fun _ _ _ _ _ _ us hl => match us, hl with | [_, _], _ => rfl
  have F17 := fun_mk (st := s_Floor_turned) l17 c17 k17
  have b17 := F17.binds (ps := ["self", "side", "times"]) fun _ _ _ _ _ _ us hl => match us, hl with | [_, _, _], _ => rfl
  have F18 := fun_mk (st := s_moved_place) l18 c18 k18
  have b18 := F18.binds (ps := ["place", "letter"]) fun _ _ _ _ _ _ us hl => match us, hl with | [_, _], _ => rfl
  have m18 : mg "moved_place" = some (.ref f18) := PySem.W.mg_of X G a18
  have F19 := fun_mk (st := s_Floor_step) l19 c19 k19
  have b19 := F19.binds (ps := ["self", "standing", "letter"]) fun _ _ _ _ _ _ us hl => match us, hl with | [_, _, _], _ => rfl
  have F20 := fun_mk (st := s_floor_ball) l20 c20 k20
  have b20 := F20.binds (ps := ["solid", "standing", "steps"]) fun _ _ _ _ _ _ us hl => match us, hl with | [_, _, _], _ => rfl
  have m20 : mg "floor_ball" = some (.ref f20) := PySem.W.mg_of X G a20
  have F21 := fun_mk (st := s_law_ball) l21 c21 k21
  have b21 := F21.binds (ps := ["moves", "letters", "standing", "steps"]) fun _ _ _ _ _ _ us hl => match us, hl with | [_, _, _, _], _ => rfl
  have m21 : mg "_law_ball" = some (.ref f21) := PySem.W.mg_of X G a21
  have F22 := fun_mk (st := s_Floor_word) l22 c22 k22
  have b22 := F22.binds (ps := ["self", "standing", "word"]) fun _ _ _ _ _ _ us hl => match us, hl with | [_, _, _], _ => rfl
  have F23 := fun_mk (st := s_floor_move) l23 c23 k23
  have b23 := F23.binds (ps := ["solid", "word"]) fun _ _ _ _ _ _ us hl => match us, hl with | [_, _], _ => rfl
  have m23 : mg "floor_move" = some (.ref f23) := PySem.W.mg_of X G a23
  have F24 := fun_mk (st := s_law_back) l24 c24 k24
  have b24 := F24.binds (ps := ["word"]) fun _ _ _ _ _ _ us hl => match us, hl with | [_], _ => rfl
  have m24 : mg "_law_back" = some (.ref f24) := PySem.W.mg_of X G a24
  have F25 := fun_mk (st := s_face_table) l25 c25 k25
  have b25 := F25.binds (ps := ["sheet"]) fun _ _ _ _ _ _ us hl => match us, hl with | [_], _ => rfl
  have m25 : mg "face_table" = some (.ref f25) := PySem.W.mg_of X G a25
  have F26 := fun_mk (st := s_sides_of) l26 c26 k26
  have b26 := F26.binds (ps := ["sheet"]) fun _ _ _ _ _ _ us hl => match us, hl with | [_], _ => rfl
  have m26 : mg "sides_of" = some (.ref f26) := PySem.W.mg_of X G a26
  have F27 := fun_mk (st := s_are_like_floor_words) l27 c27 k27
  have b27 := F27.binds (ps := ["solid", "one", "other"]) fun _ _ _ _ _ _ us hl => match us, hl with | [_, _, _], _ => rfl
  have m27 : mg "are_like_floor_words" = some (.ref f27) := PySem.W.mg_of X G a27
  have F28 := fun_mk (st := s_law_like) l28 c28 k28
  have b28 := F28.binds (ps := ["moves", "solid", "one", "other"]) fun _ _ _ _ _ _ us hl => match us, hl with | [_, _, _, _], _ => rfl
  have m28 : mg "_law_like" = some (.ref f28) := PySem.W.mg_of X G a28
  have F29 := fun_mk (st := s_law_more) l29 c29 k29
  have b29 := F29.binds (ps := ["deck", "solid", "word"]) fun _ _ _ _ _ _ us hl => match us, hl with | [_, _, _], _ => rfl
  have m29 : mg "_law_more" = some (.ref f29) := PySem.W.mg_of X G a29
  have F30 := fun_mk (st := s_law_text) l30 c30 k30
  have b30 := F30.binds (ps := ["deck", "letters", "many"]) fun _ _ _ _ _ _ us hl => match us, hl with | [_, _, _], _ => rfl
  have m30 : mg "_law_text" = some (.ref f30) := PySem.W.mg_of X G a30
  have F31 := fun_mk (st := s_Floor_lap) l31 c31 k31
  have b31 := F31.binds (ps := ["self", "standing", "word"]) fun _ _ _ _ _ _ us hl => match us, hl with | [_, _, _], _ => rfl
  have F32 := fun_mk (st := s_Floor_run) l32 c32 k32
  have b32 := F32.binds (ps := ["self", "standing", "word", "times"]) fun _ _ _ _ _ _ us hl => match us, hl with | [_, _, _, _], _ => rfl
  have F33 := fun_mk (st := s_floor_run) l33 c33 k33
  have b33 := F33.binds (ps := ["solid", "standing", "word", "times"]) fun _ _ _ _ _ _ us hl => match us, hl with | [_, _, _, _], _ => rfl
  have m33 : mg "floor_run" = some (.ref f33) := PySem.W.mg_of X G a33
  have F34 := fun_mk (st := s_floor_step) l34 c34 k34
  have b34 := F34.binds (ps := ["solid", "standing", "letter"]) fun _ _ _ _ _ _ us hl => match us, hl with | [_, _, _], _ => rfl
  have m34 : mg "floor_step" = some (.ref f34) := PySem.W.mg_of X G a34
  have F35 := fun_mk (st := s_law_asked) l35 c35 k35
  have b35 := F35.binds (ps := ["deck", "solid", "many", "times"]) fun _ _ _ _ _ _ us hl => match us, hl with | [_, _, _, _], _ => rfl
  have m35 : mg "_law_asked" = some (.ref f35) := PySem.W.mg_of X G a35
  have F36 := fun_mk (st := s_law_hand) l36 c36 k36
  have b36 := F36.binds (ps := ["deck"]) fun _ _ _ _ _ _ us hl => match us, hl with | [_], _ => rfl
  have m36 : mg "_law_hand" = some (.ref f36) := PySem.W.mg_of X G a36
  have F37 := fun_mk (st := s_law) l37 c37 k37
  have b37 := F37.binds (ps := ["script"]) fun _ _ _ _ _ _ us hl => match us, hl with | [_], _ => rfl
  refine ⟨PySem.W.fnOf "law" "law" (defArgs s_law) (defBody s_law) (defScope s_law) .none kV37 dc37 pm37 an37 cd37 ct37, fun s v => .of_eq rfl, fun base _ _ => ?_⟩
  have G0 : FnOk l.prog w K mg base CX0 1 f0 _ ["script"] (SpD K w spDeck) := ok_law_deck (C := C) (mv := mv) (tk1 := tk1) (tk2 := tk2) F0 T 
  have c_law_deck : Cal l.prog w K mg base "_law_deck" 1 ["script"] spDeck := ⟨f0, _, G0, m0, k0, b0⟩
  have G1 : FnOk l.prog w K mg base CX0 1 f1 _ ["faces"] (SpD K w spOrd) := ok_law_ordered (C := C) (mv := mv) (tk1 := tk1) (tk2 := tk2) F1 T 
  have c_law_ordered : Cal l.prog w K mg base "_law_ordered" 1 ["faces"] spOrd := ⟨f1, _, G1, m1, k1, b1⟩
  have G2 : FnOk l.prog w K mg base CX0 1 f2 _ ["deck", "many"] (SpD K w spDeal) := ok_law_deal (C := C) (mv := mv) (tk1 := tk1) (tk2 := tk2) F2 T 
  have c_law_deal : Cal l.prog w K mg base "_law_deal" 1 ["deck", "many"] spDeal := ⟨f2, _, G2, m2, k2, b2⟩
  have G3 : FnOk l.prog w K mg base CX0 2 f3 _ ["deck", "things"] (SpD K w spShuf) := ok_law_shuffled (C := C) (mv := mv) (tk1 := tk1) (tk2 := tk2) F3 T c_law_deal
  have c_law_shuffled : Cal l.prog w K mg base "_law_shuffled" 2 ["deck", "things"] spShuf := ⟨f3, _, G3, m3, k3, b3⟩
  have G4 : FnOk l.prog w K mg base CX0 3 f4 _ ["deck", "faces", "pairs"] (SpD K w spNum) := ok_law_numbered (C := C) (mv := mv) (tk1 := tk1) (tk2 := tk2) F4 T c_law_ordered c_law_shuffled c_law_deal
  have c_law_numbered : Cal l.prog w K mg base "_law_numbered" 3 ["deck", "faces", "pairs"] spNum := ⟨f4, _, G4, m4, k4, b4⟩
  have G5 : FnOk l.prog w K mg base CX0 4 f5 _ ["deck"] (SpD K w spMade) := ok_law_made (C := C) (mv := mv) (tk1 := tk1) (tk2 := tk2) F5 T c_law_numbered c_law_deal
  have c_law_made : Cal l.prog w K mg base "_law_made" 4 ["deck"] spMade := ⟨f5, _, G5, m5, k5, b5⟩
  have G6 : FnOk l.prog w K mg base CX0 4 f6 _ ["deck", "sizes"] (SpD K w spGlued) := ok_law_glued (C := C) (mv := mv) (tk1 := tk1) (tk2 := tk2) F6 T c_law_shuffled c_law_numbered c_law_deal
  have c_law_glued : Cal l.prog w K mg base "_law_glued" 4 ["deck", "sizes"] spGlued := ⟨f6, _, G6, m6, k6, b6⟩
  have G7 : FnOk l.prog w K mg base CX0 5 f7 _ ["deck", "most"] (SpD K w spFloored) := ok_law_floored (C := C) (mv := mv) (tk1 := tk1) (tk2 := tk2) F7 T c_law_glued c_law_deal
  have c_law_floored : Cal l.prog w K mg base "_law_floored" 5 ["deck", "most"] spFloored := ⟨f7, _, G7, m7, k7, b7⟩
  have G8 : FnOk l.prog w K mg base CX0 1 f8 _ ["sheet"] (SpD K w spBeh) := ok_law_behinds (C := C) (mv := mv) (tk1 := tk1) (tk2 := tk2) F8 T 
  have c_law_behinds : Cal l.prog w K mg base "_law_behinds" 1 ["sheet"] spBeh := ⟨f8, _, G8, m8, k8, b8⟩
  have G9 : FnOk l.prog w K mg base CX0 1 f9 _ ["side"] (SpD K w spTwin) := ok_law_twin (C := C) (mv := mv) (tk1 := tk1) (tk2 := tk2) F9 T 
  have c_law_twin : Cal l.prog w K mg base "_law_twin" 1 ["side"] spTwin := ⟨f9, _, G9, m9, k9, b9⟩
  have G10 : FnOk l.prog w K mg base CX0 2 f10 _ ["solid"] (SpD K w spMoves) := ok_law_moves (C := C) (mv := mv) (tk1 := tk1) (tk2 := tk2) F10 T c_law_behinds c_law_twin
  have c_law_moves : Cal l.prog w K mg base "_law_moves" 2 ["solid"] spMoves := ⟨f10, _, G10, m10, k10, b10⟩
  have G11 : FnOk l.prog w K mg base CX0 1 f11 _ ["told", "due"] (SpD K w spSame) := ok_law_same (C := C) (mv := mv) (tk1 := tk1) (tk2 := tk2) F11 T 
  have c_law_same : Cal l.prog w K mg base "_law_same" 1 ["told", "due"] spSame := ⟨f11, _, G11, m11, k11, b11⟩
  have G12 : FnOk l.prog w K mg base CX0 1 f12 _ ["moves", "standing", "letter"] (SpD K w spStepped) := ok_law_stepped (C := C) (mv := mv) (tk1 := tk1) (tk2 := tk2) F12 T 
  have c_law_stepped : Cal l.prog w K mg base "_law_stepped" 1 ["moves", "standing", "letter"] spStepped := ⟨f12, _, G12, m12, k12, b12⟩
  have G13 : FnOk l.prog w K mg base CX0 2 f13 _ ["moves", "standing", "word"] (SpD K w spLRun) := ok_law_run (C := C) (mv := mv) (tk1 := tk1) (tk2 := tk2) F13 T c_law_stepped
  have c_law_run : Cal l.prog w K mg base "_law_run" 2 ["moves", "standing", "word"] spLRun := ⟨f13, _, G13, m13, k13, b13⟩
  have G14 : FnOk l.prog w K mg base CX0 1 f14 _ ["sheet"] (SpD K w spBeh) := ok_behind_table (C := C) (mv := mv) (tk1 := tk1) (tk2 := tk2) F14 T 
  have c_behind_table : Cal l.prog w K mg base "behind_table" 1 ["sheet"] spBeh := ⟨f14, _, G14, m14, k14, b14⟩
  have G15 : FnOk l.prog w K mg base CX0 1 f15 _ ["solid"] (SpD K w spFWord) := ok_floor_word (C := C) (mv := mv) (tk1 := tk1) (tk2 := tk2) F15 T 
  have c_floor_word : Cal l.prog w K mg base "floor_word" 1 ["solid"] spFWord := ⟨f15, _, G15, m15, k15, b15⟩
  have G16 : FnOk l.prog w K mg base CX0 2 f16 _ ["self", "solid"] (SpD K w (spInit C)) := ok_Floor_init (C := C) (mv := mv) (tk1 := tk1) (tk2 := tk2) F16 T c_behind_table c_floor_word g_sq g_tr c_cls n_b n_l
  have c_Floor : CalK l.prog w K mg base C "Floor" 2 ["self", "solid"] (spInit C) := ⟨f16, _, G16, ⟨mk, a16, i16, kc⟩, mC, b16⟩
  have G17 : FnOk l.prog w K mg base CX0 1 f17 _ ["self", "side", "times"] (SpD K w (spTurned C)) := ok_Floor_turned (C := C) (mv := mv) (tk1 := tk1) (tk2 := tk2) F17 T c_cls n_b n_l
  have c_Floor_turned : CalM l.prog w K mg base C "turned" 1 ["self", "side", "times"] (spTurned C) := ⟨f17, _, G17, ⟨a17, i17, k17⟩, b17⟩
  have G18 : FnOk l.prog w K mg base CX0 1 f18 _ ["place", "letter"] (SpD K w spMoved) := ok_moved_place (C := C) (mv := mv) (tk1 := tk1) (tk2 := tk2) F18 T g_mv KD KT
  have c_moved_place : Cal l.prog w K mg base "moved_place" 1 ["place", "letter"] spMoved := ⟨f18, _, G18, m18, k18, b18⟩
  have G19 : FnOk l.prog w K mg base CX0 2 f19 _ ["self", "standing", "letter"] (SpD K w (spStep C)) := ok_Floor_step (C := C) (mv := mv) (tk1 := tk1) (tk2 := tk2) F19 T c_Floor_turned c_moved_place c_cls n_b n_l
  have c_Floor_step : CalM l.prog w K mg base C "step" 2 ["self", "standing", "letter"] (spStep C) := ⟨f19, _, G19, ⟨a19, i19, k19⟩, b19⟩
  have G20 : FnOk l.prog w K mg base CX0 4 f20 _ ["solid", "standing", "steps"] (SpD K w spFBall) := ok_floor_ball (C := C) (mv := mv) (tk1 := tk1) (tk2 := tk2) F20 T c_Floor c_Floor_step c_cls n_b n_l
  have c_floor_ball : Cal l.prog w K mg base "floor_ball" 4 ["solid", "standing", "steps"] spFBall := ⟨f20, _, G20, m20, k20, b20⟩
  have G21 : FnOk l.prog w K mg base CX0 2 f21 _ ["moves", "letters", "standing", "steps"] (SpD K w spLBall) := ok_law_ball (C := C) (mv := mv) (tk1 := tk1) (tk2 := tk2) F21 T c_law_stepped
  have c_law_ball : Cal l.prog w K mg base "_law_ball" 2 ["moves", "letters", "standing", "steps"] spLBall := ⟨f21, _, G21, m21, k21, b21⟩
  have G22 : FnOk l.prog w K mg base CX0 3 f22 _ ["self", "standing", "word"] (SpD K w (spWord C)) := ok_Floor_word (C := C) (mv := mv) (tk1 := tk1) (tk2 := tk2) F22 T c_Floor_step c_cls n_b n_l
  have c_Floor_word : CalM l.prog w K mg base C "word" 3 ["self", "standing", "word"] (spWord C) := ⟨f22, _, G22, ⟨a22, i22, k22⟩, b22⟩
  have G23 : FnOk l.prog w K mg base CX0 4 f23 _ ["solid", "word"] (SpD K w spFMove) := ok_floor_move (C := C) (mv := mv) (tk1 := tk1) (tk2 := tk2) F23 T c_Floor_word c_Floor c_cls n_b n_l
  have c_floor_move : Cal l.prog w K mg base "floor_move" 4 ["solid", "word"] spFMove := ⟨f23, _, G23, m23, k23, b23⟩
  have G24 : FnOk l.prog w K mg base CX0 1 f24 _ ["word"] (SpD K w spBack) := ok_law_back (C := C) (mv := mv) (tk1 := tk1) (tk2 := tk2) F24 T 
  have c_law_back : Cal l.prog w K mg base "_law_back" 1 ["word"] spBack := ⟨f24, _, G24, m24, k24, b24⟩
  have G25 : FnOk l.prog w K mg base CX0 1 f25 _ ["sheet"] (SpD K w spFaces) := ok_face_table (C := C) (mv := mv) (tk1 := tk1) (tk2 := tk2) F25 T 
  have c_face_table : Cal l.prog w K mg base "face_table" 1 ["sheet"] spFaces := ⟨f25, _, G25, m25, k25, b25⟩
  have G26 : FnOk l.prog w K mg base CX0 2 f26 _ ["sheet"] (SpD K w spSides) := ok_sides_of (C := C) (mv := mv) (tk1 := tk1) (tk2 := tk2) F26 T c_face_table
  have c_sides_of : Cal l.prog w K mg base "sides_of" 2 ["sheet"] spSides := ⟨f26, _, G26, m26, k26, b26⟩
  have G27 : FnOk l.prog w K mg base CX0 4 f27 _ ["solid", "one", "other"] (SpD K w spLike) := ok_are_like_floor_words (C := C) (mv := mv) (tk1 := tk1) (tk2 := tk2) F27 T c_Floor c_sides_of c_floor_word c_Floor_word c_cls n_b n_l
  have c_are_like_floor_words : Cal l.prog w K mg base "are_like_floor_words" 4 ["solid", "one", "other"] spLike := ⟨f27, _, G27, m27, k27, b27⟩
  have G28 : FnOk l.prog w K mg base CX0 3 f28 _ ["moves", "solid", "one", "other"] (SpD K w spLLike) := ok_law_like (C := C) (mv := mv) (tk1 := tk1) (tk2 := tk2) F28 T c_law_run
  have c_law_like : Cal l.prog w K mg base "_law_like" 3 ["moves", "solid", "one", "other"] spLLike := ⟨f28, _, G28, m28, k28, b28⟩
  have G29 : FnOk l.prog w K mg base CX0 5 f29 _ ["deck", "solid", "word"] (SpD K w spMore) := ok_law_more (C := C) (mv := mv) (tk1 := tk1) (tk2 := tk2) F29 T c_law_moves c_law_deal c_law_same c_law_run c_floor_ball c_law_ball c_floor_move c_law_shuffled c_law_back c_are_like_floor_words c_law_like
  have c_law_more : Cal l.prog w K mg base "_law_more" 5 ["deck", "solid", "word"] spMore := ⟨f29, _, G29, m29, k29, b29⟩
  have G30 : FnOk l.prog w K mg base CX0 3 f30 _ ["deck", "letters", "many"] (SpD K w spText) := ok_law_text (C := C) (mv := mv) (tk1 := tk1) (tk2 := tk2) F30 T c_law_deal c_law_shuffled
  have c_law_text : Cal l.prog w K mg base "_law_text" 3 ["deck", "letters", "many"] spText := ⟨f30, _, G30, m30, k30, b30⟩
  have G31 : FnOk l.prog w K mg base CX0 4 f31 _ ["self", "standing", "word"] (SpD K w (spLap C)) := ok_Floor_lap (C := C) (mv := mv) (tk1 := tk1) (tk2 := tk2) F31 T c_Floor_word c_cls n_b n_l
  have c_Floor_lap : CalM l.prog w K mg base C "lap" 4 ["self", "standing", "word"] (spLap C) := ⟨f31, _, G31, ⟨a31, i31, k31⟩, b31⟩
  have G32 : FnOk l.prog w K mg base CX0 5 f32 _ ["self", "standing", "word", "times"] (SpD K w (spRun C)) := ok_Floor_run (C := C) (mv := mv) (tk1 := tk1) (tk2 := tk2) F32 T c_Floor_lap c_cls n_b n_l
  have c_Floor_run : CalM l.prog w K mg base C "run" 5 ["self", "standing", "word", "times"] (spRun C) := ⟨f32, _, G32, ⟨a32, i32, k32⟩, b32⟩
  have G33 : FnOk l.prog w K mg base CX0 6 f33 _ ["solid", "standing", "word", "times"] (SpD K w spFRun) := ok_floor_run (C := C) (mv := mv) (tk1 := tk1) (tk2 := tk2) F33 T c_Floor_run c_Floor c_cls n_b n_l
  have c_floor_run : Cal l.prog w K mg base "floor_run" 6 ["solid", "standing", "word", "times"] spFRun := ⟨f33, _, G33, m33, k33, b33⟩
  have G34 : FnOk l.prog w K mg base CX0 4 f34 _ ["solid", "standing", "letter"] (SpD K w spFStep) := ok_floor_step (C := C) (mv := mv) (tk1 := tk1) (tk2 := tk2) F34 T c_Floor_step c_Floor c_cls n_b n_l
  have c_floor_step : Cal l.prog w K mg base "floor_step" 4 ["solid", "standing", "letter"] spFStep := ⟨f34, _, G34, m34, k34, b34⟩
  have G35 : FnOk l.prog w K mg base CX0 7 f35 _ ["deck", "solid", "many", "times"] (SpD K w spAsked) := ok_law_asked (C := C) (mv := mv) (tk1 := tk1) (tk2 := tk2) F35 T c_law_moves c_law_deal c_law_text c_law_run c_floor_run c_law_stepped c_law_same c_floor_step c_law_back
  have c_law_asked : Cal l.prog w K mg base "_law_asked" 7 ["deck", "solid", "many", "times"] spAsked := ⟨f35, _, G35, m35, k35, b35⟩
  have G36 : FnOk l.prog w K mg base CX0 7 f36 _ ["deck"] (SpD K w spHand) := ok_law_hand (C := C) (mv := mv) (tk1 := tk1) (tk2 := tk2) F36 T c_law_same c_floor_run c_floor_step
  have c_law_hand : Cal l.prog w K mg base "_law_hand" 7 ["deck"] spHand := ⟨f36, _, G36, m36, k36, b36⟩
  have G37 : FnOk l.prog w K mg base CX0 8 _ _ ["script"] (SpD K w spLaw) := ok_law (C := C) (mv := mv) (tk1 := tk1) (tk2 := tk2) F37 T c_law_deck c_law_made c_law_floored c_law_more c_law_deal c_law_asked c_law_hand c_law_text
  exact G37
theorem walk {l : PySem.W.OpenLaw} {q : Program} {loose : List Str} {XP : (Str → Option Value) → Heap → Prop} {YP : World → Heap → Prop} {d : DefRec} {K : Params → PySem.W.Frag} (hn : l.most = some 63) (hdf : d.params.defaults = [])
    (hY : ∀ (w : World) (h : Heap), YP w h → (K w.params).In h)
    (F : ∀ (w : World) (mg : Str → Option Value) (fa : Addr) (h : Heap), (K w.params).In h → h.Ns mainGlobals mg → mg d.name = some (.ref fa) →
      ∃ fd : FuncData, (∀ (s : Shared) (u : Value), BindsTo s fd ⟨[u], []⟩ [("script", u)]) ∧ ∀ base : Heap, (K w.params).In base → base.Ns mainGlobals mg → FnOk l.prog w (K w.params) mg base CX0 8 fa fd ["script"] (SpD (K w.params) w spLaw)) :
    PySem.W.WalkO q loose XP YP l.row.toRowW d [] (fun f vs => PySem.call f vs) :=
  L2.walk_of (n := 63) (k := 8) (x := "script") (CX := fun _ => CX0) (sp := fun w => SpD (K w.params) w spLaw) hn (by decide) hdf ⟨rfl, by decide, by decide⟩ hY F
    (fun w H a ns _ _ hS => ⟨H, [.scr (ns.map D.int)], fun _ => none, fun _ => none, fun d _ => d = .bl true, ⟨Ex.refl H, fun _ _ h => (by cases h), fun _ _ h => (by cases h)⟩, ⟨_, _, rfl, ⟨a, _, rfl, hS, GxL.ofInts ns⟩, rfl⟩, ⟨ns, rfl, fun _ => rfl⟩, fun d M' v H0' H' e _ _ g => by subst e; exact g⟩) fun _ _ _ _ _ z => z

end WK

set_option Elab.async false
set_option maxRecDepth 100000
open PySem PySem.W PyProof.Rows
set_option maxRecDepth 100000 in
set_option maxHeartbeats 0 in
theorem PySem.Challenge.cw_rolledtrue_k64_whole_floor_runs_holds : PySem.Challenge.rw_rolledtrue_k64_whole_floor_runs.Holds := by
  w_on; o_law; k_head; (case hw => w_witness2)
  k_fill
  refine WK.walk (l := PySem.Challenge.rw_rolledtrue_k64_whole_floor_runs) rfl rfl (fun w h Y => PySem.W.kIn_of Y) ?F
  case F =>
    intro w mg fa h KX G hmg
    refine' WK.all_mk KX G hmg ?aC ?pg ?hd ?po ?sa ?mk ?kc ?nb ?nl ?sq ?tr ?mvs ?lm ?kl ?lo ?p1 ?p2 ?p3 ?p4 ?u_len ?u_range ?u_enumerate ?u_int ?u_abs ?u_list ?u_tuple ?u_sorted ?u_isinstance ?u_min ?u_sum ?u_bool ?u_str ?a0 ?l0 ?c0 ?k0 ?a1 ?l1 ?c1 ?k1 ?a2 ?l2 ?c2 ?k2 ?a3 ?l3 ?c3 ?k3 ?a4 ?l4 ?c4 ?k4 ?a5 ?l5 ?c5 ?k5 ?a6 ?l6 ?c6 ?k6 ?a7 ?l7 ?c7 ?k7 ?a8 ?l8 ?c8 ?k8 ?a9 ?l9 ?c9 ?k9 ?a10 ?l10 ?c10 ?k10 ?a11 ?l11 ?c11 ?k11 ?a12 ?l12 ?c12 ?k12 ?a13 ?l13 ?c13 ?k13 ?a14 ?l14 ?c14 ?k14 ?a15 ?l15 ?c15 ?k15 ?a16 ?i16 ?l16 ?c16 ?k16 ?a17 ?i17 ?l17 ?c17 ?k17 ?a18 ?l18 ?c18 ?k18 ?a19 ?i19 ?l19 ?c19 ?k19 ?a20 ?l20 ?c20 ?k20 ?a21 ?l21 ?c21 ?k21 ?a22 ?i22 ?l22 ?c22 ?k22 ?a23 ?l23 ?c23 ?k23 ?a24 ?l24 ?c24 ?k24 ?a25 ?l25 ?c25 ?k25 ?a26 ?l26 ?c26 ?k26 ?a27 ?l27 ?c27 ?k27 ?a28 ?l28 ?c28 ?k28 ?a29 ?l29 ?c29 ?k29 ?a30 ?l30 ?c30 ?k30 ?a31 ?i31 ?l31 ?c31 ?k31 ?a32 ?i32 ?l32 ?c32 ?k32 ?a33 ?l33 ?c33 ?k33 ?a34 ?l34 ?c34 ?k34 ?a35 ?l35 ?c35 ?k35 ?a36 ?l36 ?c36 ?k36 ?a37 ?l37 ?c37 ?k37
    (case aC => k_is)
    (case pg => k_is)
    (case hd => k_is)
    (case po => k_is)
    (case sa => k_is)
    (case mk => k_is)
    (case kc => k_is)
    (case nb => k_is)
    (case nl => k_is)
    (case sq => k_is)
    (case tr => k_is)
    (case mvs => k_is)
    (case lm => k_is)
    (case kl => exact ⟨⟨_, _, rfl, rfl⟩, ⟨_, _, rfl, rfl⟩, ⟨_, _, rfl, rfl⟩, ⟨_, _, rfl, rfl⟩, trivial⟩)
    (case lo => first | k_is | decide)
    (case p1 => k_is)
    (case p2 => k_is)
    (case p3 => k_is)
    (case p4 => k_is)
    (case u_len => k_is)
    (case u_range => k_is)
    (case u_enumerate => k_is)
    (case u_int => k_is)
    (case u_abs => k_is)
    (case u_list => k_is)
    (case u_tuple => k_is)
    (case u_sorted => k_is)
    (case u_isinstance => k_is)
    (case u_min => k_is)
    (case u_sum => k_is)
    (case u_bool => k_is)
    (case u_str => k_is)
    (case a0 => k_is)
    (case l0 => k_is)
    (case c0 => k_is)
    (case k0 => k_is)
    (case a1 => k_is)
    (case l1 => k_is)
    (case c1 => k_is)
    (case k1 => k_is)
    (case a2 => k_is)
    (case l2 => k_is)
    (case c2 => k_is)
    (case k2 => k_is)
    (case a3 => k_is)
    (case l3 => k_is)
    (case c3 => k_is)
    (case k3 => k_is)
    (case a4 => k_is)
    (case l4 => k_is)
    (case c4 => k_is)
    (case k4 => k_is)
    (case a5 => k_is)
    (case l5 => k_is)
    (case c5 => k_is)
    (case k5 => k_is)
    (case a6 => k_is)
    (case l6 => k_is)
    (case c6 => k_is)
    (case k6 => k_is)
    (case a7 => k_is)
    (case l7 => k_is)
    (case c7 => k_is)
    (case k7 => k_is)
    (case a8 => k_is)
    (case l8 => k_is)
    (case c8 => k_is)
    (case k8 => k_is)
    (case a9 => k_is)
    (case l9 => k_is)
    (case c9 => k_is)
    (case k9 => k_is)
    (case a10 => k_is)
    (case l10 => k_is)
    (case c10 => k_is)
    (case k10 => k_is)
    (case a11 => k_is)
    (case l11 => k_is)
    (case c11 => k_is)
    (case k11 => k_is)
    (case a12 => k_is)
    (case l12 => k_is)
    (case c12 => k_is)
    (case k12 => k_is)
    (case a13 => k_is)
    (case l13 => k_is)
    (case c13 => k_is)
    (case k13 => k_is)
    (case a14 => k_is)
    (case l14 => k_is)
    (case c14 => k_is)
    (case k14 => k_is)
    (case a15 => k_is)
    (case l15 => k_is)
    (case c15 => k_is)
    (case k15 => k_is)
    (case a16 => k_is)
    (case i16 => k_is)
    (case l16 => k_is)
    (case c16 => k_is)
    (case k16 => k_is)
    (case a17 => k_is)
    (case i17 => k_is)
    (case l17 => k_is)
    (case c17 => k_is)
    (case k17 => k_is)
    (case a18 => k_is)
    (case l18 => k_is)
    (case c18 => k_is)
    (case k18 => k_is)
    (case a19 => k_is)
    (case i19 => k_is)
    (case l19 => k_is)
    (case c19 => k_is)
    (case k19 => k_is)
    (case a20 => k_is)
    (case l20 => k_is)
    (case c20 => k_is)
    (case k20 => k_is)
    (case a21 => k_is)
    (case l21 => k_is)
    (case c21 => k_is)
    (case k21 => k_is)
    (case a22 => k_is)
    (case i22 => k_is)
    (case l22 => k_is)
    (case c22 => k_is)
    (case k22 => k_is)
    (case a23 => k_is)
    (case l23 => k_is)
    (case c23 => k_is)
    (case k23 => k_is)
    (case a24 => k_is)
    (case l24 => k_is)
    (case c24 => k_is)
    (case k24 => k_is)
    (case a25 => k_is)
    (case l25 => k_is)
    (case c25 => k_is)
    (case k25 => k_is)
    (case a26 => k_is)
    (case l26 => k_is)
    (case c26 => k_is)
    (case k26 => k_is)
    (case a27 => k_is)
    (case l27 => k_is)
    (case c27 => k_is)
    (case k27 => k_is)
    (case a28 => k_is)
    (case l28 => k_is)
    (case c28 => k_is)
    (case k28 => k_is)
    (case a29 => k_is)
    (case l29 => k_is)
    (case c29 => k_is)
    (case k29 => k_is)
    (case a30 => k_is)
    (case l30 => k_is)
    (case c30 => k_is)
    (case k30 => k_is)
    (case a31 => k_is)
    (case i31 => k_is)
    (case l31 => k_is)
    (case c31 => k_is)
    (case k31 => k_is)
    (case a32 => k_is)
    (case i32 => k_is)
    (case l32 => k_is)
    (case c32 => k_is)
    (case k32 => k_is)
    (case a33 => k_is)
    (case l33 => k_is)
    (case c33 => k_is)
    (case k33 => k_is)
    (case a34 => k_is)
    (case l34 => k_is)
    (case c34 => k_is)
    (case k34 => k_is)
    (case a35 => k_is)
    (case l35 => k_is)
    (case c35 => k_is)
    (case k35 => k_is)
    (case a36 => k_is)
    (case l36 => k_is)
    (case c36 => k_is)
    (case k36 => k_is)
    (case a37 => k_is)
    (case l37 => k_is)
    (case c37 => k_is)
    (case k37 => k_is)
