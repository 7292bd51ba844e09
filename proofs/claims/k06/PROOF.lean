import PyProof.Rows.All
import Wide.All
import OpenK.AllK
import Wide.FinOn
import HandS.ForMost
import HandS.ForExc
import HandS.TupAny
import HandS.Wide
import HandS.Gcd
import HandS.Deep
import HandS.Flow
import HandS.Style
import HandS.IsInst
import HandS.RaiseMore
import HandS.TupSets
import HandS.NamedTupSort
import HandS.SetFor
import HandS.Strs
import HandS.Zip
import KE.KDictDisplayH
import KE.KDictCopyH
import HandS.More
import PyProof.ReprLen
import PyProof.Rows.ReprOcc
import PySem.Challenge.RW_classprimes_k06_solutions_by_roots_of_wh
set_option Elab.async false
set_option linter.all false
set_option maxRecDepth 100000
set_option maxHeartbeats 4000000
/-! Values as trees, a store of changing lists, results, and how they lie in the layer's heap. -/
namespace Py
open PySem PySem.Spec PyProof.Rows L2

inductive D where
  | non | bl (b : Bool) | int (i : Int) | str (x : Str) | tup (ds : List D) | lv (ds : List D) | fz (ds : List D) | lo (n : Nat) | dc

inductive Cell where
  | lst (ds : List D) | dct (kvs : List (Int × D))

abbrev Store := List Cell
abbrev Sl := List (Option D)

inductive Res (α : Type) where
  | ok (a : α) (S : Store)
  | exc (x : Str) (d : D) (S : Store)
  | bad

def Res.bind {α β : Type} (r : Res α) (g : α → Store → Res β) : Res β := match r with
  | .ok a S => g a S
  | .exc x d S => .exc x d S
  | .bad => .bad

/-- a tuple, a list of the written part -/
def KT (K : PySem.W.Frag) (a : Addr) (xs : List V) : Prop :=
  ∃ (o : Obj) (its : Array Value) (n : Nat), K.lookup a = some o ∧ o.cls = .type "tuple" ∧ o.data = .seq its n ∧ its.size ≤ sizeLine ∧ Vals xs its.toList
def KL (K : PySem.W.Frag) (a : Addr) (xs : List V) : Prop :=
  ∃ (o : Obj) (its : Array Value) (n : Nat), K.lookup a = some o ∧ o.cls = .type "list" ∧ o.dict = none ∧ o.data = .seq its n ∧ its.size ≤ sizeLine ∧ Vals xs its.toList

mutual
def RV (K : PySem.W.Frag) (p : List Addr) (H : Hp) : D → V → Prop
  | .non, v => v = .non
  | .bl b, v => v = .bl b
  | .int i, v => v = .int i
  | .str x, v => v = .str x
  | .tup ds, v => ∃ a xs, v = .ref a ∧ RVs K p H ds xs ∧ (KT K a xs ∨ (a ∉ p ∧ Rd H a (.tup xs)))
  | .lv ds, v => ∃ a xs, v = .ref a ∧ RVs K p H ds xs ∧ a ∉ p ∧ H a = some (.lst xs)
  | .fz ds, v => ∃ a xs, v = .ref a ∧ RVs K p H ds xs ∧ (KL K a xs ∨ (a ∉ p ∧ Rd H a (.lst xs)))
  | .lo n, v => ∃ a, p[n]? = some a ∧ v = .ref a
  | .dc, v => ∃ a, v = .ref a ∧ a ∉ p ∧ H a = some (.dK [])
def RVs (K : PySem.W.Frag) (p : List Addr) (H : Hp) : List D → List V → Prop
  | [], vs => vs = []
  | d :: ds, vs => ∃ v r, vs = v :: r ∧ RV K p H d v ∧ RVs K p H ds r
end

/-- a changing dict with numbers as keys -/
def RKs (K : PySem.W.Frag) (p : List Addr) (H : Hp) (kvs : List (Int × D)) (kws : List (Key × V)) : Prop := kws.map (·.1) = kvs.map (fun x => (Sum.inl x.1 : Key)) ∧ RVs K p H (kvs.map (·.2)) (kws.map (·.2))
def RC (K : PySem.W.Frag) (p : List Addr) (H : Hp) (a : Addr) : Cell → Prop
  | .lst ds => ∃ xs, H a = some (.lst xs) ∧ RVs K p H ds xs
  | .dct kvs => ∃ kws, H a = some (.dK kws) ∧ RKs K p H kvs kws

structure RS (K : PySem.W.Frag) (p : List Addr) (H : Hp) (S : Store) : Prop where
  len : p.length = S.length
  nd : p.Nodup
  cel : ∀ (n : Nat) (a : Addr) (c : Cell), p[n]? = some a → S[n]? = some c → RC K p H a c

structure RE (K : PySem.W.Frag) (p : List Addr) (H : Hp) (η : Sl) (σ : L2.St) : Prop where
  len : η.length = σ.length
  val : ∀ (i : Nat) (d : D), η[i]? = some (some d) → ∃ v, σ[i]? = some (some v) ∧ RV K p H d v

structure Ext (p : List Addr) (H : Hp) (p' : List Addr) (H' : Hp) : Prop where
  pre : p <+: p'
  same : ∀ a o, a ∉ p → H a = some o → H' a = some o
  new : ∀ a ∈ p', a ∈ p ∨ H a = none

theorem Ext.refl {p : List Addr} {H : Hp} : Ext p H p H := ⟨List.prefix_refl p, fun _ _ _ h => h, fun _ h => .inl h⟩
theorem Ext.trans {p p1 p2 : List Addr} {H H1 H2 : Hp} (a : Ext p H p1 H1) (b : Ext p1 H1 p2 H2) : Ext p H p2 H2 := by
  refine ⟨a.pre.trans b.pre, fun c o hc e => ?_, fun c hc => ?_⟩
  · have hn : c ∉ p1 := fun h => by
      rcases a.new c h with q | q
      · exact hc q
      · rw [q] at e; cases e
    exact b.same c o hn (a.same c o hc e)
  · rcases b.new c hc with q | q
    · exact a.new c q
    · by_cases hp : c ∈ p
      · exact .inl hp
      · cases e : H c with
        | none => exact .inr rfl
        | some o => rw [a.same c o hp e] at q; cases q

theorem Rd.ext {p p' : List Addr} {H H' : Hp} {a : Addr} {u : HO} (e : Ext p H p' H') (ha : a ∉ p) (r : Rd H a u) : Rd H' a u ∧ a ∉ p' := by
  have hn : a ∉ p' := fun h => by
    rcases e.new a h with q | q
    · exact ha q
    · rcases r with r | ⟨o, r⟩
      · rw [q] at r; cases r
      · rw [q] at r; cases r
  refine ⟨?_, hn⟩
  rcases r with r | ⟨o, r⟩
  · exact .inl (e.same _ _ ha r)
  · exact .inr ⟨o, e.same _ _ ha r⟩

mutual
theorem RV.ext {K : PySem.W.Frag} {p p' : List Addr} {H H' : Hp} (e : Ext p H p' H') : ∀ (d : D) (v : V), RV K p H d v → RV K p' H' d v
  | .non, _, h => h
  | .bl _, _, h => h
  | .int _, _, h => h
  | .str _, _, h => h
  | .tup ds, v, h => by
    obtain ⟨a, xs, e1, e2, e3⟩ := h
    refine ⟨a, xs, e1, RVs.ext e ds xs e2, ?_⟩
    rcases e3 with q | ⟨q1, q2⟩
    · exact .inl q
    · exact .inr ((Rd.ext e q1 q2).symm)
  | .lv ds, v, h => by
    obtain ⟨a, xs, e1, e2, e3, e4⟩ := h
    exact ⟨a, xs, e1, RVs.ext e ds xs e2, (Rd.ext e e3 (.inl e4)).2, e.same _ _ e3 e4⟩
  | .fz ds, v, h => by
    obtain ⟨a, xs, e1, e2, e3⟩ := h
    refine ⟨a, xs, e1, RVs.ext e ds xs e2, ?_⟩
    rcases e3 with q | ⟨q1, q2⟩
    · exact .inl q
    · exact .inr ((Rd.ext e q1 q2).symm)
  | .dc, v, h => by
    obtain ⟨a, e1, e2, e3⟩ := h
    exact ⟨a, e1, (Rd.ext e e2 (.inl e3)).2, e.same _ _ e2 e3⟩
  | .lo n, v, h => by
    obtain ⟨a, e1, e2⟩ := h
    refine ⟨a, ?_, e2⟩
    obtain ⟨t, rfl⟩ := e.pre
    rw [List.getElem?_append_left (List.getElem?_eq_some_iff.mp e1).1]
    exact e1
theorem RVs.ext {K : PySem.W.Frag} {p p' : List Addr} {H H' : Hp} (e : Ext p H p' H') : ∀ (ds : List D) (vs : List V), RVs K p H ds vs → RVs K p' H' ds vs
  | [], _, h => h
  | d :: ds, vs, h => by
    obtain ⟨v, r, e1, e2, e3⟩ := h
    exact ⟨v, r, e1, RV.ext e d v e2, RVs.ext e ds r e3⟩
end
theorem RE.ext {K : PySem.W.Frag} {p p' : List Addr} {H H' : Hp} {η : Sl} {σ : L2.St} (r : RE K p H η σ) (e : Ext p H p' H') : RE K p' H' η σ :=
  ⟨r.len, fun i d h => let ⟨v, h1, h2⟩ := r.val i d h; ⟨v, h1, h2.ext e⟩⟩

theorem RVs.length {K : PySem.W.Frag} {p : List Addr} {H : Hp} : ∀ {ds : List D} {vs : List V}, RVs K p H ds vs → ds.length = vs.length
  | [], _, h => by cases h; rfl
  | d :: ds, _, h => by
    obtain ⟨v, r, rfl, _, e3⟩ := h
    rw [List.length_cons, List.length_cons, RVs.length e3]
theorem RVs.get {K : PySem.W.Frag} {p : List Addr} {H : Hp} : ∀ {ds : List D} {vs : List V} {i : Nat} {d : D}, RVs K p H ds vs → ds[i]? = some d → ∃ v, vs[i]? = some v ∧ RV K p H d v
  | [], _, _, _, _, e => by simp at e
  | d :: ds, _, 0, _, h, e => by
    obtain ⟨v, r, rfl, h2, _⟩ := h
    cases e
    exact ⟨v, rfl, h2⟩
  | d :: ds, _, i + 1, x, h, e => by
    obtain ⟨v, r, rfl, _, h3⟩ := h
    have e' : ds[i]? = some x := e
    obtain ⟨w, h4, h5⟩ := RVs.get h3 e'
    exact ⟨w, h4, h5⟩
theorem RVs.of_get {K : PySem.W.Frag} {p : List Addr} {H : Hp} : ∀ {ds : List D} {vs : List V} {i : Nat} {v : V}, RVs K p H ds vs → vs[i]? = some v → ∃ d, ds[i]? = some d ∧ RV K p H d v
  | [], _, _, _, h, e => by cases h; simp at e
  | d :: ds, _, 0, _, h, e => by
    obtain ⟨v, r, rfl, h2, _⟩ := h
    cases e
    exact ⟨d, rfl, h2⟩
  | d :: ds, _, i + 1, x, h, e => by
    obtain ⟨v, r, rfl, _, h3⟩ := h
    have e' : r[i]? = some x := e
    obtain ⟨w, h4, h5⟩ := RVs.of_get h3 e'
    exact ⟨w, h4, h5⟩
theorem RVs.append {K : PySem.W.Frag} {p : List Addr} {H : Hp} : ∀ {ds es : List D} {vs us : List V}, RVs K p H ds vs → RVs K p H es us → RVs K p H (ds ++ es) (vs ++ us)
  | [], _, _, _, h, g => by cases h; exact g
  | d :: ds, _, _, _, h, g => by
    obtain ⟨v, r, rfl, h2, h3⟩ := h
    exact ⟨v, r ++ _, rfl, h2, RVs.append h3 g⟩
theorem RVs.set {K : PySem.W.Frag} {p : List Addr} {H : Hp} {d : D} {v : V} (q : RV K p H d v) : ∀ {ds : List D} {vs : List V} (i : Nat), RVs K p H ds vs → RVs K p H (ds.set i d) (vs.set i v)
  | [], _, _, h => by cases h; rfl
  | _ :: ds, _, 0, h => by
    obtain ⟨w, r, rfl, _, h3⟩ := h
    exact ⟨v, r, rfl, q, h3⟩
  | _ :: ds, _, i + 1, h => by
    obtain ⟨w, r, rfl, h2, h3⟩ := h
    exact ⟨w, r.set i v, rfl, h2, RVs.set q i h3⟩
theorem RVs.drop {K : PySem.W.Frag} {p : List Addr} {H : Hp} : ∀ (n : Nat) {ds : List D} {vs : List V}, RVs K p H ds vs → RVs K p H (ds.drop n) (vs.drop n)
  | 0, _, _, h => h
  | n + 1, [], _, h => by cases h; rfl
  | n + 1, _ :: ds, _, h => by
    obtain ⟨w, r, rfl, _, h3⟩ := h
    exact RVs.drop n h3
theorem RVs.take {K : PySem.W.Frag} {p : List Addr} {H : Hp} : ∀ (n : Nat) {ds : List D} {vs : List V}, RVs K p H ds vs → RVs K p H (ds.take n) (vs.take n)
  | 0, _, _, _ => rfl
  | n + 1, [], _, h => by cases h; rfl
  | n + 1, _ :: ds, _, h => by
    obtain ⟨w, r, rfl, h2, h3⟩ := h
    exact ⟨w, r.take n, rfl, h2, RVs.take n h3⟩
theorem RVs.rep {K : PySem.W.Frag} {p : List Addr} {H : Hp} {ds : List D} {vs : List V} (h : RVs K p H ds vs) : ∀ k : Nat, RVs K p H (List.replicate k ds).flatten (List.replicate k vs).flatten
  | 0 => rfl
  | k + 1 => by
    rw [List.replicate_succ, List.replicate_succ, List.flatten_cons, List.flatten_cons]
    exact h.append (RVs.rep h k)
theorem RVs.reverse {K : PySem.W.Frag} {p : List Addr} {H : Hp} : ∀ {ds : List D} {vs : List V}, RVs K p H ds vs → RVs K p H ds.reverse vs.reverse
  | [], _, h => by cases h; rfl
  | d :: ds, _, h => by
    obtain ⟨w, r, rfl, h2, h3⟩ := h
    rw [List.reverse_cons, List.reverse_cons]
    exact (RVs.reverse h3).append ⟨w, [], rfl, h2, rfl⟩
theorem RVs.ints {K : PySem.W.Frag} {p : List Addr} {H : Hp} : ∀ {ns : List Int} {vs : List V}, RVs K p H (ns.map D.int) vs → vs = ns.map V.int
  | [], _, h => h
  | n :: ns, _, h => by
    obtain ⟨w, r, rfl, h2, h3⟩ := h
    cases h2
    rw [RVs.ints h3]; rfl
theorem RVs.of_ints {K : PySem.W.Frag} {p : List Addr} {H : Hp} : ∀ (ns : List Int), RVs K p H (ns.map D.int) (ns.map V.int)
  | [] => rfl
  | n :: ns => ⟨.int n, ns.map V.int, rfl, rfl, RVs.of_ints ns⟩

theorem SqT_of {K : PySem.W.Frag} {p : List Addr} {H : Hp} {a : Addr} {xs : List V} (h : KT K a xs ∨ (a ∉ p ∧ Rd H a (.tup xs))) : SqT K H a xs := by
  rcases h with h | ⟨_, h⟩
  · exact .inr h
  · exact .inl h
theorem SqL_of {K : PySem.W.Frag} {p : List Addr} {H : Hp} {a : Addr} {xs : List V} (h : KL K a xs ∨ (a ∉ p ∧ Rd H a (.lst xs))) : SqL K H a xs := by
  rcases h with h | ⟨_, h⟩
  · exact .inr h
  · exact .inl h

/-- a new immutable object -/
theorem Ext.laid {p : List Addr} {H : Hp} {a : Addr} {o : HO} (h : H a = none) : Ext p H p (upd H a o) :=
  ⟨List.prefix_refl p, fun b u _ e => by rw [upd_ne (ne_of_none e h)]; exact e, fun _ q => .inl q⟩
/-- a new cell -/
theorem Ext.cell {p : List Addr} {H : Hp} {a : Addr} {o : HO} (h : H a = none) : Ext p H (p ++ [a]) (upd H a o) :=
  ⟨List.prefix_append p [a], fun b u _ e => by rw [upd_ne (ne_of_none e h)]; exact e, fun b q => by
    rcases List.mem_append.mp q with q | q
    · exact .inl q
    · rw [List.mem_singleton.mp q]; exact .inr h⟩
/-- a cell is written -/
theorem Ext.write {p : List Addr} {H : Hp} {a : Addr} {o : HO} (h : a ∈ p) : Ext p H p (upd H a o) :=
  ⟨List.prefix_refl p, fun b u hb e => by rw [upd_ne (show b ≠ a from fun z => hb (by rw [z]; exact h))]; exact e, fun _ q => .inl q⟩

theorem RS.at {K : PySem.W.Frag} {p : List Addr} {H : Hp} {S : Store} (r : RS K p H S) {n : Nat} {c : Cell} (e : S[n]? = some c) : ∃ a, p[n]? = some a ∧ a ∈ p ∧ RC K p H a c := by
  have hn : n < p.length := by rw [r.len]; exact (List.getElem?_eq_some_iff.mp e).1
  exact ⟨p[n], List.getElem?_eq_getElem hn, List.getElem_mem hn, r.cel n _ c (List.getElem?_eq_getElem hn) e⟩
theorem RS.notnew {K : PySem.W.Frag} {p : List Addr} {H : Hp} {S : Store} (r : RS K p H S) {a : Addr} (h : H a = none) : a ∉ p := fun q => by
  obtain ⟨n, hn, e⟩ := List.getElem_of_mem q
  have hs : n < S.length := by rw [← r.len]; exact hn
  have z := r.cel n a S[n] (by rw [List.getElem?_eq_getElem hn, e]) (List.getElem?_eq_getElem hs)
  cases ec : S[n] with
  | lst ds =>
    rw [ec] at z
    obtain ⟨xs, z, _⟩ := z
    rw [h] at z; cases z
  | dct kvs =>
    rw [ec] at z
    obtain ⟨xs, z, _⟩ := z
    rw [h] at z; cases z
theorem RC.ext {K : PySem.W.Frag} {p p' : List Addr} {H H' : Hp} {a : Addr} {c : Cell} (r : RC K p H a c) (e : Ext p H p' H') (ha : H' a = H a) : RC K p' H' a c := by
  cases c with
  | lst ds =>
    obtain ⟨xs, h1, h2⟩ := r
    exact ⟨xs, by rw [ha]; exact h1, h2.ext e⟩
  | dct kvs =>
    obtain ⟨xs, h1, h2, h3⟩ := r
    exact ⟨xs, by rw [ha]; exact h1, h2, h3.ext e⟩
theorem RS.laid {K : PySem.W.Frag} {p : List Addr} {H : Hp} {S : Store} (r : RS K p H S) {a : Addr} {o : HO} (h : H a = none) : RS K p (upd H a o) S :=
  ⟨r.len, r.nd, fun n b c h1 h2 => (r.cel n b c h1 h2).ext (Ext.laid h) (upd_ne fun z => r.notnew h (z ▸ List.mem_of_getElem? h1))⟩
theorem RS.cellC {K : PySem.W.Frag} {p : List Addr} {H : Hp} {S : Store} (r : RS K p H S) {a : Addr} {o : HO} {c : Cell} (h : H a = none) (q : RC K (p ++ [a]) (upd H a o) a c) : RS K (p ++ [a]) (upd H a o) (S ++ [c]) := by
  have ha : a ∉ p := r.notnew h
  refine ⟨by simp [r.len], ?_, fun n b c h1 h2 => ?_⟩
  · rw [List.nodup_append]
    exact ⟨r.nd, by simp, fun x hx y hy z => ha (by rw [← List.mem_singleton.mp hy, ← z]; exact hx)⟩
  · by_cases hn : n < p.length
    · rw [List.getElem?_append_left hn] at h1
      rw [List.getElem?_append_left (by rw [← r.len]; exact hn)] at h2
      exact (r.cel n b c h1 h2).ext (Ext.cell h) (upd_ne fun z => ha (z ▸ List.mem_of_getElem? h1))
    · have hn1 : n = p.length := by
        have := (List.getElem?_eq_some_iff.mp h1).1
        rw [List.length_append, List.length_singleton] at this
        omega
      subst hn1
      rw [List.getElem?_append_right (Nat.le_refl _), Nat.sub_self] at h1
      rw [r.len, List.getElem?_append_right (Nat.le_refl _), Nat.sub_self] at h2
      cases h1
      cases h2
      exact q
theorem RS.writeC {K : PySem.W.Frag} {p : List Addr} {H : Hp} {S : Store} (r : RS K p H S) {n : Nat} {a : Addr} {o : HO} {c : Cell} (e : p[n]? = some a) (q : RC K p (upd H a o) a c) : RS K p (upd H a o) (S.set n c) := by
  have ha : a ∈ p := List.mem_of_getElem? e
  refine ⟨by rw [List.length_set]; exact r.len, r.nd, fun m b c h1 h2 => ?_⟩
  by_cases hm : n = m
  · subst hm
    rw [e] at h1; cases h1
    rw [List.getElem?_set_self (by rw [← r.len]; exact (List.getElem?_eq_some_iff.mp e).1)] at h2
    cases h2
    exact q
  · rw [List.getElem?_set_ne hm] at h2
    refine (r.cel m b c h1 h2).ext (Ext.write ha) (upd_ne fun z => hm ?_)
    subst z
    exact (List.getElem?_inj (List.getElem?_eq_some_iff.mp e).1 r.nd).mp (e.trans h1.symm)
theorem RS.cell {K : PySem.W.Frag} {p : List Addr} {H : Hp} {S : Store} (r : RS K p H S) {a : Addr} {ds : List D} {xs : List V} (h : H a = none) (q : RVs K p H ds xs) : RS K (p ++ [a]) (upd H a (.lst xs)) (S ++ [.lst ds]) := by
  have ha : a ∉ p := r.notnew h
  refine ⟨by simp [r.len], ?_, fun n b c h1 h2 => ?_⟩
  · rw [List.nodup_append]
    exact ⟨r.nd, by simp, fun x hx y hy z => ha (by rw [← List.mem_singleton.mp hy, ← z]; exact hx)⟩
  · by_cases hn : n < p.length
    · rw [List.getElem?_append_left hn] at h1
      rw [List.getElem?_append_left (by rw [← r.len]; exact hn)] at h2
      exact (r.cel n b c h1 h2).ext (Ext.cell h) (upd_ne fun z => ha (z ▸ List.mem_of_getElem? h1))
    · have hn1 : n = p.length := by
        have := (List.getElem?_eq_some_iff.mp h1).1
        rw [List.length_append, List.length_singleton] at this
        omega
      subst hn1
      rw [List.getElem?_append_right (Nat.le_refl _), Nat.sub_self] at h1
      rw [r.len, List.getElem?_append_right (Nat.le_refl _), Nat.sub_self] at h2
      cases h1
      cases h2
      exact ⟨xs, upd_same, q.ext (Ext.cell h)⟩
theorem RS.write {K : PySem.W.Frag} {p : List Addr} {H : Hp} {S : Store} (r : RS K p H S) {n : Nat} {a : Addr} {ds : List D} {xs : List V} (e : p[n]? = some a) (q : RVs K p H ds xs) : RS K p (upd H a (.lst xs)) (S.set n (.lst ds)) := by
  have ha : a ∈ p := List.mem_of_getElem? e
  refine ⟨by rw [List.length_set]; exact r.len, r.nd, fun m b c h1 h2 => ?_⟩
  by_cases hm : n = m
  · subst hm
    rw [e] at h1; cases h1
    rw [List.getElem?_set_self (by rw [← r.len]; exact (List.getElem?_eq_some_iff.mp e).1)] at h2
    cases h2
    exact ⟨xs, upd_same, q.ext (Ext.write ha)⟩
  · rw [List.getElem?_set_ne hm] at h2
    refine (r.cel m b c h1 h2).ext (Ext.write ha) (upd_ne fun z => hm ?_)
    subst z
    exact (List.getElem?_inj (List.getElem?_eq_some_iff.mp e).1 r.nd).mp (e.trans h1.symm)
end Py

set_option Elab.async false
set_option linter.all false
set_option maxRecDepth 100000
set_option maxHeartbeats 4000000
/-! Sorting: lists of numbers, lists of tuples of numbers. -/
namespace Py
open PySem PySem.Spec PyProof.Rows L2

section
variable {α : Type}
def ins (lt : α → α → Bool) (x : α) : List α → List α
  | [] => [x]
  | y :: ys => if lt y x then y :: ins lt x ys else x :: y :: ys
def isort (lt : α → α → Bool) : List α → List α
  | [] => []
  | x :: xs => ins lt x (isort lt xs)
theorem ins_perm (lt : α → α → Bool) (x : α) : ∀ l, (ins lt x l).Perm (x :: l)
  | [] => .refl _
  | y :: ys => by
    unfold ins
    split
    · exact ((ins_perm lt x ys).cons y).trans (.swap _ _ _)
    · exact .refl _
theorem isort_perm (lt : α → α → Bool) : ∀ l, (isort lt l).Perm l
  | [] => .refl _
  | x :: xs => (ins_perm lt x _).trans ((isort_perm lt xs).cons x)
theorem ins_srtd {lt : α → α → Bool} (O : SrtO.Swo lt) (x : α) : ∀ l, SrtO.Srtd lt l → SrtO.Srtd lt (ins lt x l)
  | [], _ => SrtO.srtd_one x
  | y :: ys, h => by
    obtain ⟨h1, h2⟩ := List.pairwise_cons.mp h
    unfold ins
    split
    · rename_i c
      refine List.pairwise_cons.mpr ⟨fun z hz => ?_, ins_srtd O x ys h2⟩
      rcases List.mem_cons.mp ((ins_perm lt x ys).mem_iff.mp hz) with e | e
      · rw [e]; exact O.asym _ _ c
      · exact h1 z e
    · rename_i c
      have c : lt y x = false := by simpa using c
      refine List.pairwise_cons.mpr ⟨fun z hz => ?_, h⟩
      rcases List.mem_cons.mp hz with e | e
      · rw [e]; exact c
      · exact O.tr x y z c (h1 z e)
theorem isort_srtd {lt : α → α → Bool} (O : SrtO.Swo lt) : ∀ l, SrtO.Srtd lt (isort lt l)
  | [] => List.Pairwise.nil
  | x :: xs => ins_srtd O x _ (isort_srtd O xs)
theorem srtd_uniq {lt : α → α → Bool} (an : ∀ x y, lt x y = false → lt y x = false → x = y) (O : SrtO.Swo lt) : ∀ {l m : List α}, SrtO.Srtd lt l → SrtO.Srtd lt m → l.Perm m → l = m
  | [], m, _, _, h => (List.Perm.eq_nil h.symm).symm
  | x :: l, [], _, _, h => absurd h.length_eq (by simp)
  | x :: l, y :: m, hl, hm, h => by
    have h1 : lt x y = false := by
      rcases List.mem_cons.mp (h.mem_iff.mp (List.mem_cons_self (a := x) (l := l))) with e | hx
      · rw [e]; exact O.refl y
      · exact SrtO.srtd_head hm x hx
    have h2 : lt y x = false := by
      rcases List.mem_cons.mp (h.mem_iff.mpr (List.mem_cons_self (a := y) (l := m))) with e | hy
      · rw [e]; exact O.refl x
      · exact SrtO.srtd_head hl y hy
    have e := an x y h1 h2
    subst e
    rw [srtd_uniq an O (List.pairwise_cons.mp hl).2 (List.pairwise_cons.mp hm).2 h.cons_inv]
theorem isort_uniq {lt : α → α → Bool} (an : ∀ x y, lt x y = false → lt y x = false → x = y) (O : SrtO.Swo lt) {l m : List α} (h : l.Perm m) : isort lt l = isort lt m :=
  srtd_uniq an O (isort_srtd O l) (isort_srtd O m) ((isort_perm lt l).trans (h.trans (isort_perm lt m).symm))
theorem isort_self {lt : α → α → Bool} (an : ∀ x y, lt x y = false → lt y x = false → x = y) (O : SrtO.Swo lt) {l m : List α} (h : l.Perm m) (hm : SrtO.Srtd lt m) : isort lt l = m :=
  srtd_uniq an O (isort_srtd O l) hm ((isort_perm lt l).trans h)
end
def ltI (a b : Int) : Bool := decide (a < b)
theorem swo_ltI : SrtO.Swo ltI := by
  refine ⟨fun x y h => ?_, fun x y z h1 h2 => ?_⟩
  · have a := of_decide_eq_true (p := x < y) h
    exact decide_eq_false (p := y < x) (by omega)
  · have a := of_decide_eq_false (p := y < x) h1
    have b := of_decide_eq_false (p := z < y) h2
    exact decide_eq_false (p := z < x) (by omega)
theorem anti_ltI (x y : Int) (h1 : ltI x y = false) (h2 : ltI y x = false) : x = y := by
  have a := of_decide_eq_false (p := x < y) h1
  have b := of_decide_eq_false (p := y < x) h2
  omega
/-- members once each -/
def nub : List Int → List Int
  | [] => []
  | x :: r => if x ∈ nub r then nub r else x :: nub r
theorem nub_mem {x : Int} : ∀ {l : List Int}, x ∈ nub l ↔ x ∈ l
  | [] => Iff.rfl
  | y :: r => by
    unfold nub
    by_cases h : y ∈ nub r
    · rw [if_pos h, List.mem_cons, nub_mem]
      exact ⟨fun q => .inr q, fun q => q.elim (fun e => by rw [e]; exact nub_mem.mp h) id⟩
    · rw [if_neg h, List.mem_cons, List.mem_cons, nub_mem]
theorem nub_nodup : ∀ l : List Int, (nub l).Nodup
  | [] => List.nodup_nil
  | y :: r => by
    unfold nub
    by_cases h : y ∈ nub r
    · rw [if_pos h]; exact nub_nodup r
    · rw [if_neg h]; exact List.nodup_cons.mpr ⟨h, nub_nodup r⟩
/-- a sorted set -/
def sset (l : List Int) : List Int := isort ltI (nub l)
theorem srt_ext : ∀ {l m : List Int}, l.Pairwise (· < ·) → m.Pairwise (· < ·) → (∀ x, x ∈ l ↔ x ∈ m) → l = m
  | [], [], _, _, _ => rfl
  | [], y :: m, _, _, h => by have := (h y).mpr (List.mem_cons_self ..); cases this
  | x :: l, [], _, _, h => by have := (h x).mp (List.mem_cons_self ..); cases this
  | x :: l, y :: m, h1, h2, h => by
    have a1 := List.pairwise_cons.mp h1
    have a2 := List.pairwise_cons.mp h2
    have e : x = y := by
      rcases List.mem_cons.mp ((h x).mp (List.mem_cons_self ..)) with e | e
      · exact e
      · rcases List.mem_cons.mp ((h y).mpr (List.mem_cons_self ..)) with e' | e'
        · exact e'.symm
        · have := a1.1 y e'
          have := a2.1 x e
          omega
    subst e
    rw [srt_ext a1.2 a2.2 fun z => ⟨fun hz => ?_, fun hz => ?_⟩]
    · rcases List.mem_cons.mp ((h z).mp (List.mem_cons_of_mem _ hz)) with e | e
      · have := a1.1 z hz
        omega
      · exact e
    · rcases List.mem_cons.mp ((h z).mpr (List.mem_cons_of_mem _ hz)) with e | e
      · have := a2.1 z hz
        omega
      · exact e
theorem sset_mem {l : List Int} {x : Int} : x ∈ sset l ↔ x ∈ l := by
  unfold sset
  rw [(isort_perm ltI (nub l)).mem_iff, nub_mem]
theorem sset_pw (l : List Int) : (sset l).Pairwise (· < ·) := by
  have h1 : (isort ltI (nub l)).Nodup := (isort_perm ltI (nub l)).nodup_iff.mpr (nub_nodup l)
  have h2 : SrtO.Srtd ltI (isort ltI (nub l)) := isort_srtd swo_ltI _
  refine (List.Pairwise.and h1 h2).imp ?_
  intro x y h
  have := of_decide_eq_false (p := y < x) h.2
  have := h.1
  omega
theorem sset_is {l m : List Int} (h : m.Pairwise (· < ·)) (hm : ∀ x, x ∈ m ↔ x ∈ l) : m = sset l := srt_ext h (sset_pw l) fun x => by rw [hm, sset_mem]
/-- members once each -/
def nubT : List (List Int) → List (List Int)
  | [] => []
  | x :: r => if x ∈ nubT r then nubT r else x :: nubT r
theorem nubT_mem {x : List Int} : ∀ {l : List (List Int)}, x ∈ nubT l ↔ x ∈ l
  | [] => Iff.rfl
  | y :: r => by
    unfold nubT
    by_cases h : y ∈ nubT r
    · rw [if_pos h, List.mem_cons, nubT_mem]
      exact ⟨fun q => .inr q, fun q => q.elim (fun e => by rw [e]; exact nubT_mem.mp h) id⟩
    · rw [if_neg h, List.mem_cons, List.mem_cons, nubT_mem]
theorem nubT_nodup : ∀ l : List (List Int), (nubT l).Nodup
  | [] => List.nodup_nil
  | y :: r => by
    unfold nubT
    by_cases h : y ∈ nubT r
    · rw [if_pos h]; exact nubT_nodup r
    · rw [if_neg h]; exact List.nodup_cons.mpr ⟨h, nubT_nodup r⟩
theorem perm_nodup {α : Type} : ∀ {l m : List α}, l.Nodup → m.Nodup → (∀ x, x ∈ l ↔ x ∈ m) → l.Perm m
  | [], [], _, _, _ => List.Perm.refl _
  | [], y :: m, _, _, h => by have := (h y).mpr (List.mem_cons_self ..); cases this
  | x :: l, m, h1, h2, h => by
    have hx : x ∈ m := (h x).mp (List.mem_cons_self ..)
    obtain ⟨a, b, rfl⟩ := List.append_of_mem hx
    have a1 := List.nodup_cons.mp h1
    have a2 : (x :: (a ++ b)).Nodup := (List.perm_middle (a := x) (l₁ := a) (l₂ := b)).nodup_iff.mp h2
    have a3 := List.nodup_cons.mp a2
    refine (List.Perm.cons x (perm_nodup a1.2 a3.2 fun y => ?_)).trans List.perm_middle.symm
    constructor
    · intro hy
      have := (h y).mp (List.mem_cons_of_mem _ hy)
      rcases List.mem_append.mp this with q | q
      · exact List.mem_append_left _ q
      · rcases List.mem_cons.mp q with q | q
        · subst q; exact absurd hy a1.1
        · exact List.mem_append_right _ q
    · intro hy
      have hy2 : y ∈ a ++ x :: b := by
        rcases List.mem_append.mp hy with q | q
        · exact List.mem_append_left _ q
        · exact List.mem_append_right _ (List.mem_cons_of_mem _ q)
      rcases List.mem_cons.mp ((h y).mpr hy2) with q | q
      · subst q; exact absurd hy a3.1
      · exact q
theorem swo_lexI : SrtO.Swo HT.lexLt := NtL.swo_lexL (fun x : List Int => x)
theorem anti_lexI : ∀ (x y : List Int), HT.lexLt x y = false → HT.lexLt y x = false → x = y
  | [], [], _, _ => rfl
  | [], _ :: _, h, _ => by cases h
  | _ :: _, [], _, h => by cases h
  | a :: x, b :: y, h1, h2 => by
    rw [HT.lexLt_cons] at h1 h2
    by_cases e : a = b
    · subst e
      rw [if_pos rfl] at h1 h2
      rw [anti_lexI x y h1 h2]
    · rw [if_neg e] at h1
      rw [if_neg (fun q => e q.symm)] at h2
      have a := of_decide_eq_false h1
      have b := of_decide_eq_false h2
      omega

/-- a sorted set of tuples -/
def sdd (l : List (List Int)) : List (List Int) := isort HT.lexLt (nubT l)
theorem sdd_mem {l : List (List Int)} {x : List Int} : x ∈ sdd l ↔ x ∈ l := by
  unfold sdd
  rw [(isort_perm HT.lexLt (nubT l)).mem_iff, nubT_mem]
theorem sdd_is {l z m : List (List Int)} (hz : SrtO.Srtd HT.lexLt z) (hp : z.Perm m) (hn : m.Nodup) (hm : ∀ x, x ∈ m ↔ x ∈ l) : sdd l = z := by
  refine isort_self anti_lexI swo_lexI ((perm_nodup (nubT_nodup l) hn fun x => ?_).trans hp.symm) hz
  rw [nubT_mem, hm]

/-! ### the layer's sorted, of tuples of numbers -/
section
variable {prog : Program} {w : World} {A : Around} {E : Value → Shared → Prop} {s : Shared}
theorem lex_go {b : Bool} {Q : Bool → Shared → Prop} {N M : Nat} : ∀ {xs ys : List Value} {ns ms : List Int} (i : Nat), IntsAre xs ns → IntsAre ys ms → ns.length + M = ms.length + N → Q (HT.lexLt ns ms) s → PySem.W.KatLex prog w A b (decide (N < M)) Q (xs.zip ys) i s
  | _, _, _, _, i, .nil, .nil, hl, h => by
    simp only [List.length_nil] at hl
    rw [HT.lexLt_nil_nil] at h
    rw [decide_eq_false (by omega)]
    exact PySem.W.kat_nil h
  | _, _, _, _, i, .nil, .cons q u hy, hl, h => by
    simp only [List.length_nil, List.length_cons] at hl
    rw [HT.lexLt_nil_cons] at h
    rw [decide_eq_true (by omega)]
    exact PySem.W.kat_nil h
  | _, _, _, _, i, .cons q u hx, .nil, hl, h => by
    simp only [List.length_nil, List.length_cons] at hl
    rw [HT.lexLt_cons_nil] at h
    rw [decide_eq_false (by omega)]
    exact PySem.W.kat_nil h
  | _, _, _, _, i, .cons p t hx, .cons q u hy, hl, h => by
    simp only [List.length_cons] at hl
    rw [HT.lexLt_cons] at h
    refine PySem.W.kat_cons (wpAny_eqBool_int ?_)
    by_cases e : p = q
    · subst e
      rw [if_pos rfl] at h
      rw [beq_self_eq_true]
      exact PySem.W.kat_yes (lex_go (i + 1) hx hy (by omega) h)
    · rw [if_neg e] at h
      rw [show (p == q) = false from beq_eq_false_iff_ne.mpr e]
      exact PySem.W.kat_no (TS.oneLt_ints _ h)
theorem tk_cmp {vs : List Value} {k : Value → List Int} (hp : ∀ v ∈ vs, TS.TupInts s.heap v (k v)) : SrtO.Cmp prog w A s (tuples' true) (fun p => p.1 ∈ vs) (SrtO.lt2 fun v u => HT.lexLt (k v) (k u)) := by
  intro p q hm hm'
  obtain ⟨a, xs, e1, ⟨o, ho, hc, n, hdt⟩, i⟩ := hp _ hm
  obtain ⟨a', ys, e2, ⟨o', ho', hc', n', hdt'⟩, i'⟩ := hp _ hm'
  show wpAny (model prog w) A (keyLt' (tuples' true) p.1 q.1) (fun r s' => s' = s ∧ r = HT.lexLt (k p.1) (k q.1)) (fun _ _ => False) s
  generalize k p.1 = ns at i ⊢
  generalize k q.1 = ms at i' ⊢
  rw [e1, e2]
  refine PySem.W.kat_lt ho hdt ho' hdt' (lex_go 0 i i' ?_ ⟨rfl, rfl⟩)
  have l1 := i.length
  have l2 := i'.length
  rw [Array.length_toList] at l1 l2
  omega
theorem tk_firsts {h : Heap} : ∀ vs : List Value, (∀ v ∈ vs, ∃ ns, TS.TupInts h v ns ∧ ns ≠ []) → ∃ fs, PySem.W.KatTups h vs fs ∧ fs.length = vs.length ∧ ∀ f, f ∈ fs → ∃ n t, f = Value.int n t
  | [], _ => ⟨[], PySem.W.KatTups.nil, rfl, fun f hf => by simp at hf⟩
  | v :: vs, x => by
    obtain ⟨fs, k, hl, hi⟩ := tk_firsts vs fun u hu => x u (List.mem_cons_of_mem _ hu)
    obtain ⟨ns, ⟨a, xs, rfl, ⟨o, ho, hc, n, hdt⟩, i⟩, hn⟩ := x v (List.mem_cons_self ..)
    obtain ⟨y, ys, e⟩ : ∃ y ys, xs.toList = y :: ys := by
      cases q : xs.toList with
      | nil =>
        rw [q] at i
        have l := i.length
        rw [List.length_nil] at l
        exact absurd (List.eq_nil_of_length_eq_zero l.symm) hn
      | cons y ys => exact ⟨y, ys, rfl⟩
    obtain ⟨m, t, hy⟩ := i.all y (by rw [e]; exact List.mem_cons_self ..)
    refine ⟨y :: fs, PySem.W.KatTups.cons ho hc hdt ?_ k, by simp [hl], ?_⟩
    · have z := congrArg (fun l : List Value => l[0]?) e
      simpa using z
    · intro f hf
      rcases List.mem_cons.mp hf with rfl | hf
      · exact ⟨m, t, hy⟩
      · exact hi f hf
theorem tk_sortable {a : Addr} {vs : List Value} {k : Value → List Int} (h0 : 0 < vs.length) (hp : ∀ v ∈ vs, TS.TupInts s.heap v (k v) ∧ k v ≠ []) (ha : ∀ o, s.heap.get? a = some o → o.cls ≠ .type "tuple") : SrtO.SortableO prog w A s a vs fun v u => HT.lexLt (k v) (k u) := by
  intro h' keep
  have hp' : ∀ v ∈ vs, TS.TupInts h' v (k v) := fun v hm => (hp v hm).1.keeps fun b o e c => keep b o (fun z => by subst z; exact ha o e c) e
  obtain ⟨fs, h1, h2, h3⟩ := tk_firsts vs fun v hm => ⟨_, hp' v hm, (hp v hm).2⟩
  refine ⟨tuples' true, fun Q E hq => ?_, tk_cmp hp'⟩
  refine PySem.W.kat_kind (T := .type "int") h1 (by omega) (fun f hm => ?_) (by rfl) ?_
  · obtain ⟨x, t, rfl⟩ := h3 f hm
    exact PySem.W.Looks.now
  · have e : (Value.type "int" != Value.type "tuple") = true := by first | decide +kernel | rfl | decide
    rw [e]
    exact hq
end
/-- sorted(xs), xs a list of tuples of numbers, none of them empty; with their numbers -/
def rSortedK (K : PySem.W.Frag) : List V → Hp → VK → Prop := fun vs H Q => ∃ (a : Addr) (ps : List (V × List Int)), vs = [V.ref a] ∧ SqL K H a (ps.map (·.1)) ∧ (∀ x ∈ ps, ∃ t, x.1 = V.ref t ∧ SqT K H t (x.2.map V.int) ∧ x.2 ≠ []) ∧
  ∀ (zs : List (V × List Int)) p, SrtO.Srtd (fun x y => HT.lexLt x.2 y.2) zs → zs.Perm ps → H p = none → Q (.ref p) (upd H p (.lst (zs.map (·.1))))
theorem ps_back {X : Cx} {pins : List (Addr × Obj)} {σ : L2.St} {H : Hp} {s : Shared} (I : Inv X pins σ H s) : ∀ {ps : List (V × List Int)} {its : List Value}, Vals (ps.map (·.1)) its → (∀ x ∈ ps, ∃ t, x.1 = V.ref t ∧ SqT X.K H t (x.2.map V.int) ∧ x.2 ≠ []) →
    (∀ v ∈ its, (TS.TupInts s.heap v (TS.intsOf s.heap v) ∧ TS.intsOf s.heap v ≠ []) ∧ ∃ a, v = Value.ref a) ∧ ps = its.map fun u => (bkV u, TS.intsOf s.heap u)
  | [], its, r, _ => by cases r; exact ⟨fun v hv => (nomatch hv), rfl⟩
  | (x, k) :: ps, its, r, h => by
    cases r with
    | @cons _ u _ us r1 r2 =>
      obtain ⟨q1, q2⟩ := ps_back I r2 fun y hy => h y (List.mem_cons_of_mem _ hy)
      obtain ⟨t, ex, ht, hn⟩ := h (x, k) (List.mem_cons_self ..)
      have ex : x = V.ref t := ex
      subst ex
      obtain rfl : u = Value.ref t := r1
      have hT := tupI_raw I ht
      have hi := hT.ints
      refine ⟨fun v hv => ?_, ?_⟩
      · rcases List.mem_cons.mp hv with e | hv
        · subst e
          rw [hi]
          exact ⟨⟨hT, hn⟩, t, rfl⟩
        · exact q1 v hv
      · rw [List.map_cons, ← q2, hi]; rfl
theorem cr_sortedK {X : Cx} : CallR X (.builtin "sorted") (rSortedK X.K) := by
  intro pins s σ H vs us Q I r h
  obtain ⟨a, ps, rfl, hs, hx, q⟩ := h
  obtain ⟨its, rv, hl, hz⟩ := I.list hs
  rw [Vals.ref1 r]
  obtain ⟨hp, e1⟩ := ps_back I rv hx
  refine SrtO.sorted_ord (NtL.swo_lexL fun v => TS.intsOf s.heap v) hl.isList (by rw [← rv.length]; exact hz) (fun h2 h₁ a' ha' kk => ?_) fun out h1 h2 => ?_
  · refine tk_sortable (s := { s with heap := h₁ }) (by omega) (fun v hm => ⟨(hp v hm).1.1.keeps fun b o e _ => (kk b o e).2, (hp v hm).1.2⟩) fun o e => ?_
    have e' : some o = some (seqObj "list" its.toArray 0) := e.symm.trans ha'
    cases e'
    intro c
    exact absurd (Value.type.inj c) (by decide)
  · have h3 : ∀ u ∈ out, ∃ a, u = Value.ref a := fun u hu => (hp u (h2.perm.mem_iff.mp hu)).2
    obtain ⟨ep, he'⟩ := PyProof.Rows.sortedAll_at s.heap its out.toArray
    have hb : (out.map fun u => (bkV u, TS.intsOf s.heap u)).Perm ps := by
      rw [e1]
      exact h2.perm.map _
    have em : (out.map fun u => (bkV u, TS.intsOf s.heap u)).map (·.1) = out.map bkV := by rw [List.map_map]; rfl
    have hlen : (out.map bkV).length ≤ sizeLine := by
      rw [← em, List.length_map, hb.length_eq, ← List.length_map (f := fun x : V × List Int => x.1)]
      exact hz
    have fin := q (out.map fun u => (bkV u, TS.intsOf s.heap u)) (s.heap.objs.size + 1) (SrtO.srtd_map h1) hb (I.hok.fresh (Nat.le_succ _))
    rw [em] at fin
    exact ⟨.ref _, upd H (s.heap.objs.size + 1) (.lst (out.map bkV)), I.laid (t' := s.toks) (fun _ _ => PyProof.Rows.sortedAll_old) (Nat.le_succ _) ⟨hlen, out, ep, bkV_vals h3, he'⟩, rfl, fin⟩
end Py

set_option Elab.async false
set_option linter.all false
set_option maxRecDepth 100000
set_option maxHeartbeats 4000000
/-! set(v): made new, then filled by what v gives. -/
namespace Py
open PySem PySem.Spec PyProof.Rows L2
section
variable {P : Program} {w : World} {A : Around} {E : Value → Shared → Prop} {s : Shared}
abbrev newSet (w : World) (s : Shared) : Shared := { s with heap := s.heap.push { cls := .type "set", dict := none, data := .set #[] 0 (.fresh 0 0 (!w.params.followText "set-order")) } }
theorem set_made {v : Value} {Q : Value → Shared → Prop}
    (fill : ∀ A' : Around, A'.handled = A.handled → codeAny (model P w) A' (.call (.builtin "set.__init__") ⟨[.ref s.heap.objs.size, v], []⟩) (wants (fun r s2 => r = .none ∧ Q (.ref s.heap.objs.size) s2) E) (newSet w s)) :
    wpAny (model P w) A (call (.type "set") [v]) Q E s := by
  refine wpAny_call (codeAny_of_tree (wpAny_pure ⟨Code.quiet_builtin _ (by decide +kernel), codeAny_builtin F.entry_type_call ?_⟩))
  have f1 := F.called_set.made
  have f2 := F.called_set.sub
  have f3 := F.called_set.notType
  have f4 := F.called_set.canCreate
  have f5 := F.typeCall_set_1 v
  have f6 := F.called_set.init.lookup
  have f7 := F.called_set.init.bind (.ref s.heap.objs.size)
  have hT : Shared.TypeIs (newSet w s) (.ref s.heap.objs.size) "set" := ⟨_, Heap.get?_push_size _ rfl, rfl⟩
  obtain ⟨c, tl, f8⟩ := F.called_set.mro
  rw [Around.under_plain (weight_type_call_type "set" [v] []) rfl]
  wp_walk
  refine codeAny_mono (code_set_led1 v (E := E) (Q₁ := fun r s1 => r = .ref s.heap.objs.size ∧ s1 = newSet w s) ⟨rfl, rfl⟩) ?_
  rintro (e | f) s1 hr
  · exact hr
  · cases f <;> try exact hr.elim
    obtain ⟨rfl, rfl⟩ := hr
    wp_walk
    refine codeAny_mono (fill A.in1 (by simp)) ?_
    rintro (e | f) s2 hr2
    · exact hr2
    · cases f <;> try exact hr2.elim
      obtain ⟨rfl, hr2⟩ := hr2
      wp_walk
      exact hr2
/-- a set that a walk fills, the walk being that of a list of numbers -/
theorem set_filled {l : Addr} {items : Array Value} {ns : List Int} {Q : Value → Shared → Prop} (hh : A.handled = none) (hl : s.heap.IsList l items) (hi : IntsAre items.toList ns) (hb : ns.length + 1 < scanBound)
    (h : ∀ (h' : Heap) (tk c : Nat), SetR w h' s.heap.objs.size (fun j => decide (j ∈ ns)) c → c ≤ ns.length → (∀ b o, s.heap.get? b = some o → h'.get? b = some o) → Q (.ref s.heap.objs.size) { s with heap := h', toks := tk }) :
    wpAny (model P w) A (call (.type "set") [.ref l]) Q E s := by
  refine set_made fun A' hA => ?_
  have hT : Shared.TypeIs (newSet w s) (.ref s.heap.objs.size) "set" := ⟨_, Heap.get?_push_size _ rfl, rfl⟩
  refine codeAny_call_builtin F.called_set.init.plain F.entry_set_init (check_set_init_1 hT ?_)
  have hl1 : (newSet w s).heap.IsList l items := hl.push _
  have g1 := F.sub_list_set
  have g2 := F.sub_list_frozenset
  have g3 : (Value.type "list" == Value.type "dict") = false := by decide
  have hl2 := hl1
  obtain ⟨⟨oc, od, oq, os⟩, ho, hc, nl, hd⟩ := hl2
  dsimp only at hc hd
  subst hc hd
  unfold Builtin.«set.__init__» noKeywords Builtin.Frozenset.updateFrom
  generalize hPI : pyIter = PI
  wp_walk
  subst hPI
  refine wpAny_pyIter_list hl1 (wpAny_bind (wpAny_runValue ?_))
  have low : l < s.heap.objs.size := let ⟨_, e, _⟩ := hl; Heap.lt_size e
  have top : (newSet w s).heap.objs.size = s.heap.objs.size + 1 := Heap.size_push ..
  have num : items.size = ns.length := by rw [← hi.length, Array.length_toList]
  have keep : ∀ b o, s.heap.get? b = some o → ((newSet w s).heap.push { cls := .type "list_iterator", data := .fields #[.ref l, .int 0 0] }).get? b = some o := fun b o e => Heap.get?_push_of_some _ (Heap.get?_push_of_some _ e)
  refine set_update_ints (Walks.list (by simp [hA, hh]) _ l (by rw [top]; exact Nat.ne_of_lt (Nat.lt_succ_of_lt low)) items).toS s.heap.objs.size (fun q => by
    rcases List.mem_cons.mp q with q | q
    · rw [top] at q; exact absurd q (Nat.ne_of_lt (Nat.lt_succ_self _))
    · rw [List.mem_singleton] at q; exact absurd q.symm (Nat.ne_of_lt low)) ns num hb (fun i v e => ?_) _ 0 _ rfl (Nat.zero_le _) ⟨⟨_, Heap.get?_push_size _ rfl, rfl, rfl⟩, hl1.push _⟩ ⟨0, Nat.le_refl 0, setR_new_at (Heap.get?_push_of_some _ (Heap.get?_push_size _ rfl))⟩ fun s' c hm hc R => ?_
  · have hlt : i < ns.length := by rw [← num]; exact (Array.getElem?_eq_some_iff.mp e).1
    obtain ⟨t, q⟩ := hi.int_at i v (by rw [Array.getElem?_toList]; exact e)
    exact ⟨ns[i], t, List.getElem?_eq_getElem hlt, by rw [q, List.getD_eq_getElem?_getD, List.getElem?_eq_getElem hlt]; rfl⟩
  · have e : s' = { s with heap := s'.heap, toks := s'.toks } := by
      obtain ⟨h', g2, d', tk', os'⟩ := s'
      cases hm.gens
      cases hm.drawn
      cases hm.os
      rfl
    refine wpAny_pure (wpAny_pure ⟨rfl, ?_⟩)
    rw [e]
    refine h _ _ _ R (by omega) fun b o q => hm.heap b o ?_ (keep b o q)
    have lt := Heap.lt_size q
    intro z
    rcases List.mem_cons.mp z with z | z
    · exact absurd z (Nat.ne_of_lt lt)
    · rw [List.mem_singleton, top] at z; exact absurd z (Nat.ne_of_lt (Nat.lt_succ_of_lt lt))
end
def rSetL (K : PySem.W.Frag) (w : World) : List V → Hp → VK → Prop := fun vs H Q => ∃ (l : Addr) (ns : List Int), vs = [V.ref l] ∧ SqL K H l (ns.map V.int) ∧ ns.length < 64 ∧ ∀ p n, n ≤ ns.length → H p = none → Q (.ref p) (upd H p (SetO w p (fun j => decide (j ∈ ns)) n))
theorem cr_setL {X : Cx} (hc : X.calm = true) : CallR X (.type "set") (rSetL X.K X.w) := by
  intro pins s σ H vs us Q I r h
  obtain ⟨l, ns, rfl, hs, hf, q⟩ := h
  obtain ⟨its, rv, hl, hz⟩ := I.list hs
  rw [Vals.ref1 r]
  refine set_filled (P := X.prog) (w := X.w) (I.ok.hd hc) hl.isList (by simpa using rv.ints) (by unfold scanBound; omega) fun h' tk c R hc' kp => ?_
  have hn : H s.heap.objs.size = none := I.hok.fresh (Nat.le_refl _)
  exact ⟨.ref s.heap.objs.size, _, I.laid (t' := tk) kp (Nat.le_refl _) (setO_new R), rfl, q _ c hc' hn⟩
end Py

set_option Elab.async false
set_option linter.all false
set_option maxRecDepth 100000
set_option maxHeartbeats 4000000
/-! The small language and what it computes. -/
namespace Py
open PySem PySem.Spec PyProof.Rows L2

inductive BOp | add | sub | mul | fdiv | mod | pow
  deriving DecidableEq
inductive COp | eq | ne | lt | le | gt | ge | inn | notin | isn | isnot
  deriving DecidableEq
/-- built-in functions -/
inductive BF | len | abs | max | min | int | sum | all | tuple | list | repr | str | divmod | gcd | isqrt | sort
  deriving DecidableEq

mutual
inductive IE
  | var (i : Nat) | int (i : Int) | bl (b : Bool) | non | str (x : Str) | gl (x : Str)
  | op (o : BOp) (a b : IE) | neg (a : IE) | not (a : IE)
  | cmp (o : COp) (a b : IE) | chain (o o' : COp) (a b c : IE)
  | and (a b : IE) | or (a b : IE) | ifx (c : IB) (a b : IE)
  | tup (es : IEs) | lst (k : Bool) (es : IEs)
  | sub (a i : IE) | slc (a : IE) (lo hi : IO)
  | call (f : Str) (es : IEs) | blt (f : BF) (es : IEs) | isi (T : String) (e : IE)
  | comp (own : List Nat) (one : Bool) (is : List Nat) (it : II) (c : IB) (e : IE)
  | append (a e : IE) | dgt (ks : List (List Int × Int)) (e f : IE)
  | callK (f : Str) (es ks : IEs) (n m : Nat) (ix : List Nat) | addl (a b : IE) | mull (a b : IE) | extend (a e : IE) | dnew | dget (a b e : IE) | dcon | popi (a e : IE) | lcopy (a : IE) | rev (a : IE) | ddsp (ks : List Int) (es : IEs) | sortS (a : IE) | sortDD (es : IEs) | chn (a : IE) (l : IL)
/-- the links of a chain of comparisons -/
inductive IL | last (o : COp) (e : IE) | link (o : COp) (e : IE) (r : IL)
/-- a test -/
inductive IB
  | val (e : IE) | and (a b : IB) | or (a b : IB) | not (a : IB) | yes | chn (a : IE) (l : IL)
inductive IEs | nil | cons (e : IE) (es : IEs)
inductive IO | none | some (e : IE)
/-- a target -/
inductive IT | name (i : Nat) | tup (ts : ITs) | sub (a i : IE)
inductive ITs | nil | cons (t : IT) (ts : ITs)
/-- what is walked -/
inductive II | seq (e : IE) | rng1 (a : IE) | rng2 (a b : IE) | rngD (a b : IE) | enum (e : IE) | zip (a b : IE)
end

mutual
inductive IS
  | expr (e : IE) | asg (t : IT) (e : IE) | par (i j : Nat) (a b : IE) | par3 (i j k : Nat) (a b c : IE)
  | iff (c : IB) (a b : ISs) | whl (c : IB) (b : ISs) | forr (t : IT) (it : II) (b : ISs)
  | ret (e : IE) | retn | pass | brk | cnt | never
inductive ISs | nil | cons (s : IS) (ss : ISs)
end

def ITs.len : ITs → Nat
  | .nil => 0
  | .cons _ ts => ts.len + 1
inductive Fl | nx (η : Sl) | rt (d : D) | bk (η : Sl) | ct (η : Sl)

/-- the items of a list or tuple that may be read -/
def items (S : Store) : D → Option (List D)
  | .tup ds => some ds
  | .lv ds => some ds
  | .fz ds => some ds
  | .lo n => match S[n]? with
    | some (.lst ds) => some ds
    | _ => none
  | _ => none
/-- the items of a list that the layer tracks as a plain list -/
def lsOf (S : Store) : D → Option (List D)
  | .lv ds => some ds
  | .lo n => match S[n]? with
    | some (.lst ds) => some ds
    | _ => none
  | _ => none

mutual
def toP : D → Option PyData
  | .non => some .none
  | .bl b => some (.bool b)
  | .int i => some (.int i)
  | .str x => some (.str x)
  | .tup ds => (toPs ds).map .tuple
  | .lv ds => (toPs ds).map .list
  | .fz ds => (toPs ds).map .list
  | .lo _ => none
  | .dc => none
def toPs : List D → Option (List PyData)
  | [] => some []
  | d :: ds => match toP d, toPs ds with
    | some p, some ps => some (p :: ps)
    | _, _ => none
end
/-- a changing list as a value -/
def deref (S : Store) : D → D
  | .lo n => match S[n]? with
    | some (.lst ds) => .lv ds
    | _ => .lo n
  | d => d

def eqP (S : Store) (a b : D) : Option Bool := match toP (deref S a), toP (deref S b) with
  | some p, some q => if SeqAt.shaped p && SeqAt.shaped q then some (PyData.eqv p q) else none
  | _, _ => none

def flatD : D → Bool
  | .non => true
  | .bl _ => true
  | .int _ => true
  | .str _ => true
  | _ => false
/-- == of flat values -/
def eqF : D → D → Bool
  | .non, .non => true
  | .bl a, .bl b => a == b
  | .bl a, .int b => (if a then 1 else 0) == b
  | .int a, .bl b => a == (if b then 1 else 0)
  | .int a, .int b => a == b
  | .str a, .str b => a == b
  | _, _ => false
def valD : List (Int × D) → Int → Option D
  | [], _ => none
  | x :: r, k => if x.1 = k then some x.2 else valD r k
/-- a changing dict -/
def dctOf (S : Store) : D → Option (List (Int × D))
  | .lo n => match S[n]? with
    | some (.dct kvs) => some kvs
    | _ => none
  | _ => none
def inD (S : Store) (x y : D) : Option Bool := match items S y with
  | some ds => if flatD x && ds.all flatD then some (ds.any fun z => eqF z x) else match toP x, toPs ds, y with
    | some p, some ps, .lv _ => if SeqAt.shaped p && SeqAt.shaped (.list ps) then some (ps.any fun z => PyData.eqv z p) else none
    | some p, some ps, .lo _ => if SeqAt.shaped p && SeqAt.shaped (.list ps) then some (ps.any fun z => PyData.eqv z p) else none
    | _, _, _ => none
  | none => match dctOf S y, x with
    | some kvs, .int i => some (valD kvs i).isSome
    | _, _ => none

def cop (S : Store) : COp → D → D → Option Bool
  | .eq, a, b => eqP S a b
  | .ne, a, b => (eqP S a b).map (!·)
  | .lt, .int i, .int j => some (decide (i < j))
  | .le, .int i, .int j => some (decide (i ≤ j))
  | .gt, .int i, .int j => some (decide (j < i))
  | .ge, .int i, .int j => some (decide (j ≤ i))
  | .inn, a, b => inD S a b
  | .notin, a, b => (inD S a b).map (!·)
  | .isn, .non, .non => some true
  | .isn, _, .non => some false
  | .isnot, .non, .non => some false
  | .isnot, _, .non => some true
  | _, _, _ => none

def mulOk (i j : Int) : Bool := decide (i.natAbs.log2 + j.natAbs.log2 < 1000000)
def divOk (j : Int) : Bool := decide (0 < j) && decide (j.natAbs.log2 < 9000)

def bop (S : Store) : BOp → D → D → Option D
  | .add, .int i, .int j => some (.int (i + j))
  | .add, .str x, .str y => if x.length + y.length ≤ sizeLine then some (.str (x ++ y)) else none
  | .add, .tup a, .tup b => if a.length + b.length ≤ sizeLine then some (.tup (a ++ b)) else none
  | .add, a, b => match lsOf S a, lsOf S b with
    | some x, some y => if x.length + y.length ≤ sizeLine then some (.lv (x ++ y)) else none
    | _, _ => none
  | .sub, .int i, .int j => some (.int (i - j))
  | .mul, .int i, .int j => if mulOk i j then some (.int (i * j)) else none
  | .mul, a, .int k => match lsOf S a with
    | some x => if -(2 ^ 63) ≤ k ∧ k < 2 ^ 63 ∧ x.length * k.toNat ≤ sizeLine then some (.lv (List.replicate k.toNat x).flatten) else none
    | _ => none
  | .fdiv, .int i, .int j => if divOk j then some (.int (i / j)) else if j < 0 ∧ j.natAbs < 1073741824 then some (.int (i.fdiv j)) else none
  | .mod, .int i, .int j => if 0 < j then some (.int (i % j)) else none
  | .pow, .int i, .int j => if 0 ≤ j ∧ j ≤ 1000000 ∧ i.natAbs < 2 ^ 64 then some (.int (i ^ j.toNat)) else none
  | _, _, _ => none

def truth (S : Store) : D → Option Bool
  | .non => some false
  | .bl b => some b
  | .int i => some (i != 0)
  | .str x => if x.length ≤ sizeLine then some ((x.length : Int) != 0) else none
  | d => (items S d).map fun ds => !ds.isEmpty

def intsOf : List D → Option (List Int)
  | [] => some []
  | .int i :: r => (intsOf r).map (i :: ·)
  | _ => none
def blsOf : List D → Option (List Bool)
  | [] => some []
  | .bl i :: r => (blsOf r).map (i :: ·)
  | _ => none

def lensOf (S : Store) : D → Option Nat
  | .str x => if x.length ≤ sizeLine then some x.length else none
  | d => (items S d).map (·.length)

/-- the keys of tuples of numbers, none of them empty -/
def tksOf : List D → Option (List (List Int))
  | [] => some []
  | .tup ds :: r => match intsOf ds, tksOf r with
    | some (i :: is), some ks => some ((i :: is) :: ks)
    | _, _ => none
  | _ => none
def tkD (k : List Int) : D := .tup (k.map .int)
/-- numbers in order, tuples of numbers in order -/
def srtD (ds : List D) : Option (List D) := match intsOf ds with
  | some ns => some ((isort ltI ns).map .int)
  | none => (tksOf ds).map fun ks => (isort HT.lexLt ks).map tkD

/-- a built-in function of values -/
def bf (S : Store) : BF → List D → Option D
  | .len, [d] => (lensOf S d).map fun (n : Nat) => D.int (n : Int)
  | .abs, [.int i] => some (.int (if i < 0 then -i else i))
  | .max, [.int i, .int j] => some (.int (if j > i then j else i))
  | .min, [.int i, .int j] => some (.int (if j < i then j else i))
  | .int, [.int i] => some (.int i)
  | .int, [.bl b] => some (.int (if b then 1 else 0))
  | .sum, [d] => match items S d, d with
    | some ds, .lv _ => (intsOf ds).map fun ns => .int ns.sum
    | some ds, .lo _ => (intsOf ds).map fun ns => .int ns.sum
    | _, _ => none
  | .all, [d] => match items S d, d with
    | some ds, .lv _ => (blsOf ds).map fun bs => .bl (bs.all id)
    | some ds, .lo _ => (blsOf ds).map fun bs => .bl (bs.all id)
    | _, _ => none
  | .tuple, [d] => (items S d).map .tup
  | .list, [d] => (items S d).map .lv
  | .repr, [d] => match toP (deref S d) with
    | some p => if p.showable && decide (p.depth ≤ 64) && decide (p.shown.length ≤ sizeLine) then some (.str p.shown) else none
    | none => none
  | .str, [.int i] => if i.natAbs.log2 < 1920 then some (.str (toString i)) else none
  | .str, [.str x] => some (.str x)
  | .divmod, [.int i, .int j] => if 0 < j ∧ j < 1073741824 then some (.tup [.int (i / j), .int (i % j)]) else none
  | .gcd, [.int i, .int j] => some (.int ((Nat.gcd i.natAbs j.natAbs : Nat) : Int))
  | .isqrt, [.int i] => if 0 ≤ i ∧ i.toNat.log2 < 13000 then some (.int ((Float64.isqrt i.toNat : Nat) : Int)) else none
  | .sort, [d] => match lsOf S d with
    | some ds => (srtD ds).map .lv
    | none => match dctOf S d with
      | some kvs => if kvs.length < 64 then some (.lv ((isort ltI (kvs.map (·.1))).map .int)) else none
      | none => none
  | _, _ => none

/-- isinstance of a built-in class -/
def tyD : D → String
  | .non => "NoneType"
  | .bl _ => "bool"
  | .int _ => "int"
  | .str _ => "str"
  | .tup _ => "tuple"
  | .dc => "dict"
  | _ => "list"
def isi0 (T : String) (d : D) : Option Bool := if T = "int" then some (decide (tyD d = "int" ∨ tyD d = "bool"))
  else if T = "bool" ∨ T = "tuple" ∨ T = "str" ∨ T = "list" then some (decide (tyD d = T)) else none
def isiD (T : String) (d : D) : Option Bool := match d with
  | .lo _ => none
  | d => isi0 T d

def cutD (ds : List D) (lo hi : Option Int) : List D := (ds.drop (HT.sIx ds.length 0 lo)).take (HT.sIx ds.length ds.length hi - HT.sIx ds.length 0 lo)

mutual
/-- no place from m on -/
def clo (m : Nat) : D → Bool
  | .tup ds => clos m ds
  | .lv ds => clos m ds
  | .fz ds => clos m ds
  | .lo n => decide (n < m)
  | _ => true
def clos (m : Nat) : List D → Bool
  | [] => true
  | d :: ds => clo m d && clos m ds
end
mutual
/-- new changing lists become values -/
def rs (S : Store) (m : Nat) : D → Option D
  | .tup ds => (rss S m ds).map .tup
  | .lv ds => (rss S m ds).map .lv
  | .fz ds => (rss S m ds).map .fz
  | .dc => some .dc
  | .lo n => if n < m then some (.lo n) else match S[n]? with
    | some (.lst ds) => if clos m ds then some (.lv ds) else none
    | _ => none
  | .non => some .non
  | .bl b => some (.bl b)
  | .int i => some (.int i)
  | .str x => some (.str x)
def rss (S : Store) (m : Nat) : List D → Option (List D)
  | [] => some []
  | d :: ds => match rs S m d, rss S m ds with
    | some x, some xs => some (x :: xs)
    | _, _ => none
end
def CloC (m : Nat) : Cell → Prop
  | .lst ds => clos m ds = true
  | .dct kvs => clos m (kvs.map (·.2)) = true
/-- what stood has changed, if at all, into what leans on nothing new -/
def OkC (S S' : Store) : Prop := S.length ≤ S'.length ∧ ∀ i, i < S.length → S'[i]? = S[i]? ∨ ∃ c, S'[i]? = some c ∧ CloC S.length c
open Classical in
/-- a block is left -/
noncomputable def leave (S : Store) : Res D → Res D
  | .ok d S' => if OkC S S' then match rs S' S.length d with
    | some d' => .ok d' (S'.take S.length)
    | none => .bad
    else .bad
  | .exc x d S' => if OkC S S' then match rs S' S.length d with
    | some d' => .exc x d' (S'.take S.length)
    | none => .bad
    else .bad
  | .bad => .bad

def wipeD (η : Sl) : List Nat → Sl
  | [] => η
  | v :: vs => (wipeD η vs).set v none

/-- nothing is raised -/
def Res.bindN {α β : Type} (r : Res α) (g : α → Store → Res β) : Res β := match r with
  | .ok a S => g a S
  | _ => .bad
/-- the turns of a for -/
def forL (g : Store → Bool) (asg : D → Sl → Store → Res Sl) (b : Sl → Store → Res Fl) : List D → Sl → Store → Res Fl
  | [], η, S => if g S then .ok (.nx η) S else .bad
  | d :: ds, η, S => if g S then (asg d η S).bind fun η1 S1 => (b η1 S1).bind fun f S2 => match f with
      | .nx η2 => forL g asg b ds η2 S2
      | .ct η2 => forL g asg b ds η2 S2
      | .bk η2 => .ok (.nx η2) S2
      | .rt d => .ok (.rt d) S2
    else .bad
/-- the names of a comprehension's block -/
def setAll : List Nat → List D → Sl → Option Sl
  | [], [], η => some η
  | i :: is, d :: ds, η => setAll is ds (η.set i (some d))
  | _, _, _ => none
def asgC (own : List Nat) (one : Bool) (is : List Nat) (d : D) (η : Sl) : Option Sl :=
  if is.all (fun i => own.contains i) then (if one then setAll is [d] η else match d with
    | .tup ds => setAll is ds η
    | _ => none) else none
/-- the turns of a comprehension; n: the new list's place -/
def comL (g : Store → Bool) (asg : D → Option Sl) (t : Sl → Store → Res Bool) (e : Sl → Store → Res D) (n : Nat) : List D → Store → Res D
  | [], S => if g S then .ok (.lo n) S else .bad
  | d :: ds, S => if g S then match asg d with
      | some η => (t η S).bindN fun c S2 =>
        if c then (e η S2).bindN fun x S3 => match S3[n]? with
          | some (.lst acc) => if acc.length < sizeLine then comL g asg t e n ds (S3.set n (.lst (acc ++ [x]))) else .bad
          | _ => .bad
        else comL g asg t e n ds S2
      | none => .bad
    else .bad
def whlN (c : Sl → Store → Res Bool) (b : Sl → Store → Res Fl) : Nat → Sl → Store → Res Fl
  | 0, _, _ => .bad
  | n + 1, η, S => (c η S).bind fun t S1 => if t then (b η S1).bind fun f S2 => match f with
      | .nx η2 => whlN c b n η2 S2
      | .ct η2 => whlN c b n η2 S2
      | .bk η2 => .ok (.nx η2) S2
      | .rt d => .ok (.rt d) S2
    else .ok (.nx η) S1
open Classical in
noncomputable def whl (c : Sl → Store → Res Bool) (b : Sl → Store → Res Fl) (η : Sl) (S : Store) : Res Fl :=
  if h : ∃ n, whlN c b n η S ≠ .bad then whlN c b h.choose η S else .bad

def Res.ofO {α : Type} (o : Option α) (S : Store) : Res α := match o with
  | some a => .ok a S
  | none => .bad

def rng (lo : Int) : Nat → List D
  | 0 => []
  | n + 1 => .int lo :: rng (lo + 1) n
def enumL (i : Int) : List D → List D
  | [] => []
  | d :: ds => .tup [.int i, d] :: enumL (i + 1) ds
def zipL : List D → List D → List D
  | a :: as, b :: bs => .tup [a, b] :: zipL as bs
  | _, _ => []

/-- as long as a changing list that is walked stands -/
noncomputable def guardOf (d : D) (S0 S : Store) : Bool := match d with
  | .lo n => @decide (S[n]? = S0[n]?) (Classical.propDecidable _)
  | _ => true

/-- two lists make a new changing one -/
def addl (S : Store) (x y : D) : Res D := match lsOf S x, lsOf S y with
  | some xs, some ys => if xs.length + ys.length ≤ sizeLine then .ok (.lo S.length) (S ++ [.lst (xs ++ ys)]) else .bad
  | _, _ => .bad
/-- a list so many times makes a new changing one -/
def mull (S : Store) (x y : D) : Res D := match lsOf S x, y with
  | some xs, .int k => if -(2 ^ 63) ≤ k ∧ k < 2 ^ 63 ∧ xs.length * k.toNat ≤ sizeLine then .ok (.lo S.length) (S ++ [.lst (List.replicate k.toNat xs).flatten]) else .bad
  | _, _ => .bad
def isLst (S : Store) (n : Nat) : Bool := match S[n]? with
  | some (.lst _) => true
  | _ => false
def isDct (S : Store) (n : Nat) : Bool := match S[n]? with
  | some (.dct _) => true
  | _ => false
def putD (kvs : List (Int × D)) (k : Int) (d : D) : List (Int × D) := if kvs.any (fun x => decide (x.1 = k)) then kvs.map (fun x => if x.1 = k then (x.1, d) else x) else kvs ++ [(k, d)]
/-- a changing list is made longer -/
def extl (S : Store) (n : Nat) (y : D) : Res D := match S[n]?, lsOf S y with
  | some (.lst ds), some es => if ds.length + es.length ≤ sizeLine then .ok .non (S.set n (.lst (ds ++ es))) else .bad
  | _, _ => .bad
/-- a thing is taken out of a changing list, by its place from 0 on -/
def popl (S : Store) (n : Nat) (y : D) : Res D := match S[n]?, y with
  | some (.lst ds), .int i => if 0 ≤ i ∧ i < 2 ^ 62 then match ds[i.toNat]? with
    | some d => .ok d (S.set n (.lst (ds.eraseIdx i.toNat)))
    | none => .bad
    else .bad
  | _, _ => .bad
/-- i, i - 1, .. -/
def rngd (i : Int) : Nat → List D
  | 0 => []
  | n + 1 => .int i :: rngd (i - 1) n
/-- arguments in the order of the parameters -/
def permD {α : Type} : List Nat → List α → Option (List α)
  | [], _ => some []
  | i :: is, l => match l[i]?, permD is l with
    | some x, some r => some (x :: r)
    | _, _ => none
def permK {α : Type} (n m : Nat) (ix : List Nat) (us ws : List α) : Option (List α) := if us.length = n ∧ ws.length = m then permD ix (us ++ ws) else none
def litIs : List Expr → Option (List Int)
  | [] => some []
  | .Constant (.int i) _ _ :: es => (litIs es).map (i :: ·)
  | _ => none
/-- written pairs -/
def litKs : List (Option Expr) → List Expr → Option (List (List Int × Int))
  | [], [] => some []
  | some (.Tuple es _ _) :: ks, .Constant (.int v) _ _ :: vs => match litIs es, litKs ks vs with
    | some is, some r => some ((is, v) :: r)
    | _, _ => none
  | _, _ => none
/-- written keys, numbers -/
def litIk : List (Option Expr) → Option (List Int)
  | [] => some []
  | some (.Constant (.int i) _ _) :: ks => (litIk ks).map (i :: ·)
  | some (.UnaryOp .USub (.Constant (.int i) _ _) _) :: ks => (litIk ks).map (-i :: ·)
  | _ => none
def okIk (keys : List (Option Expr)) (values : List Expr) (is : List Int) : Bool := !keys.isEmpty && decide (keys.length ≤ 15) && decide (keys.length = values.length) && decide is.Nodup
def okKs (ks : List (List Int × Int)) : Bool := !ks.isEmpty && decide (ks.length ≤ 15) && ks.all (fun k => decide (k.1.length ≤ sizeLine)) && decide (ks.map (·.1)).Nodup
/-- the value at a key, or another one -/
def dgt (ks : List (List Int × Int)) (x y : D) : Option D := match x with
  | .tup ds => (intsOf ds).map fun is => match ks.lookup is with
    | some v => .int v
    | none => y
  | _ => none

section
variable (C : Str → List D → Store → Res D) (G : Str → Option D)
mutual
noncomputable def evE : IE → Sl → Store → Res D
  | .var i, η, S => match η[i]? with
    | some (some d) => .ok d S
    | _ => .bad
  | .int i, _, S => .ok (.int i) S
  | .bl b, _, S => .ok (.bl b) S
  | .non, _, S => .ok .non S
  | .str x, _, S => .ok (.str x) S
  | .gl x, _, S => .ofO (G x) S
  | .op o a b, η, S => (evE a η S).bind fun x S => (evE b η S).bind fun y S => .ofO (bop S o x y) S
  | .neg a, η, S => (evE a η S).bind fun x S => match x with
    | .int i => .ok (.int (-i)) S
    | _ => .bad
  | .not a, η, S => (evE a η S).bind fun x S => .ofO ((truth S x).map fun b => .bl (!b)) S
  | .cmp o a b, η, S => (evE a η S).bind fun x S => (evE b η S).bind fun y S => .ofO ((cop S o x y).map .bl) S
  | .chain o o' a b c, η, S => (evE a η S).bind fun x S => (evE b η S).bind fun y S => (Res.ofO (cop S o x y) S).bind fun t S =>
      if t then (evE c η S).bind fun z S => .ofO ((cop S o' y z).map .bl) S else .ok (.bl false) S
  | .and a b, η, S => (evE a η S).bind fun x S => match x with
    | .bl c => if c then evE b η S else .ok (.bl false) S
    | _ => .bad
  | .or a b, η, S => (evE a η S).bind fun x S => match x with
    | .bl c => if c then .ok (.bl true) S else evE b η S
    | _ => .bad
  | .ifx c a b, η, S => (evB c η S).bind fun t S => if t then evE a η S else evE b η S
  | .tup es, η, S => (evEs es η S).bind fun ds S => if ds.length ≤ sizeLine then .ok (.tup ds) S else .bad
  | .lst k es, η, S => (evEs es η S).bind fun ds S => if ds.length ≤ sizeLine then (if k then .ok (.lo S.length) (S ++ [.lst ds]) else .ok (.lv ds) S) else .bad
  | .sub a i, η, S => (evE a η S).bind fun x S => (evE i η S).bind fun y S => match items S x, y with
    | some ds, .int j => .ofO (atI ds j) S
    | _, _ => .bad
  | .slc a lo hi, η, S => (evE a η S).bind fun x S => (evO lo η S).bind fun l S => (evO hi η S).bind fun h S => match x with
    | .tup ds => .ok (.tup (cutD ds l h)) S
    | .lv ds => .ok (.lv (cutD ds l h)) S
    | .fz ds => .ok (.lv (cutD ds l h)) S
    | .lo n => match S[n]? with
      | some (.lst ds) => .ok (.lv (cutD ds l h)) S
      | _ => .bad
    | _ => .bad
  | .call f es, η, S => (evEs es η S).bind fun ds S => C f ds S
  | .blt f es, η, S => (evEs es η S).bind fun ds S => .ofO (bf S f ds) S
  | .isi T e, η, S => (evE e η S).bind fun d S => .ofO ((isiD T d).map .bl) S
  | .comp own one is it c e, η, S => (evI it η S).bind fun (x : D × List D) S1 =>
      leave S1 (comL (guardOf x.1 S1) (fun d => asgC own one is d (wipeD η own)) (evB c) (evE e) S1.length x.2 (S1 ++ [.lst []]))
  | .append a e, η, S => (evE a η S).bind fun x S => match x with
    | .lo n => if isLst S n then (evE e η S).bind fun y S => match S[n]? with
      | some (.lst ds) => if ds.length < sizeLine then .ok .non (S.set n (.lst (ds ++ [y]))) else .bad
      | _ => .bad
      else .bad
    | _ => .bad
  | .popi a e, η, S => (evE a η S).bind fun x S => match x with
    | .lo n => if isLst S n then (evE e η S).bind fun y S => popl S n y else .bad
    | _ => .bad
  | .lcopy a, η, S => (evE a η S).bind fun x S => match items S x with
    | some ds => .ok (.lo S.length) (S ++ [.lst ds])
    | none => .bad
  | .rev a, η, S => (evE a η S).bind fun x S => match x with
    | .tup ds => .ok (.tup ds.reverse) S
    | x => match items S x with
      | some ds => .ok (.lv ds.reverse) S
      | none => .bad
  | .sortS a, η, S => (evE a η S).bind fun x S => match (lsOf S x).bind intsOf with
    | some ns => if ns.length < 64 then .ok (.lv ((sset ns).map .int)) S else .bad
    | none => match (items S x).bind tksOf with
      | some ks => if ks.length < 64 then .ok (.lv ((sdd ks).map tkD)) S else .bad
      | none => .bad
  | .sortDD es, η, S => (evEs es η S).bind fun ds S => match tksOf ds with
    | some ks => if ks.length ≤ 15 then .ok (.lv ((sdd ks).map tkD)) S else .bad
    | none => .bad
  | .dcon, _, S => .ok .dc S
  | .ddsp ks es, η, S => (evEs es η (S ++ [.dct []])).bind fun ds S1 => if ks.length = ds.length then match S1[S.length]? with
    | some (.dct []) => .ok (.lo S.length) (S1.set S.length (.dct (ks.zip ds)))
    | _ => .bad
    else .bad
  | .dnew, _, S => .ok (.lo S.length) (S ++ [.dct []])
  | .dget a b e, η, S => (evE a η S).bind fun x S => match x with
    | .lo n => if isDct S n then (evE b η S).bind fun y S => (evE e η S).bind fun z S => match S[n]?, y with
      | some (.dct kvs), .int i => .ok ((valD kvs i).getD z) S
      | _, _ => .bad
      else .bad
    | _ => .bad
  | .chn a l, η, S => (evE a η S).bind fun x S => evL l x η S
  | .addl a b, η, S => (evE a η S).bind fun x S => (evE b η S).bind fun y S => addl S x y
  | .mull a b, η, S => (evE a η S).bind fun x S => (evE b η S).bind fun y S => mull S x y
  | .extend a e, η, S => (evE a η S).bind fun x S => match x with
    | .lo n => if isLst S n then (evE e η S).bind fun y S => extl S n y else .bad
    | _ => .bad
  | .callK f es ks n m ix, η, S => (evEs es η S).bind fun us S => (evEs ks η S).bind fun ws S => match permK n m ix us ws with
    | some ds => C f ds S
    | none => .bad
  | .dgt ks e f, η, S => (evE e η S).bind fun x S => (evE f η S).bind fun y S => .ofO (dgt ks x y) S
noncomputable def evB : IB → Sl → Store → Res Bool
  | .val e, η, S => (evE e η S).bind fun d S => .ofO (truth S d) S
  | .and a b, η, S => (evB a η S).bind fun t S => if t then evB b η S else .ok false S
  | .or a b, η, S => (evB a η S).bind fun t S => if t then .ok true S else evB b η S
  | .not a, η, S => (evB a η S).bind fun t S => .ok (!t) S
  | .yes, _, S => .ok true S
  | .chn a l, η, S => (evE a η S).bind fun x S => (evL l x η S).bind fun d S => match d with
    | .bl t => .ok t S
    | _ => .bad
noncomputable def evL : IL → D → Sl → Store → Res D
  | .last o e, y, η, S => (evE e η S).bind fun z S => .ofO ((cop S o y z).map .bl) S
  | .link o e r, y, η, S => (evE e η S).bind fun z S => (Res.ofO (cop S o y z) S).bind fun t S => if t then evL r z η S else .ok (.bl false) S
noncomputable def evEs : IEs → Sl → Store → Res (List D)
  | .nil, _, S => .ok [] S
  | .cons e es, η, S => (evE e η S).bind fun d S => (evEs es η S).bind fun ds S => .ok (d :: ds) S
noncomputable def evO : IO → Sl → Store → Res (Option Int)
  | .none, _, S => .ok none S
  | .some e, η, S => (evE e η S).bind fun d S => match d with
    | .int i => .ok (some i) S
    | _ => .bad
noncomputable def evT : IT → D → Sl → Store → Res Sl
  | .name i, d, η, S => .ok (η.set i (some d)) S
  | .tup ts, d, η, S => match d with
    | .tup ds => if ds.length = ts.len then evTs ts ds η S else .bad
    | .lv ds => if ds.length = ts.len then evTs ts ds η S else .bad
    | _ => .bad
  | .sub a i, d, η, S => (evE a η S).bind fun x S => (evE i η S).bind fun y S => match x, y with
    | .lo n, .int k => match S[n]? with
      | some (.lst ds) => match ixN ds.length k with
        | some j => .ok η (S.set n (.lst (ds.set j d)))
        | none => .bad
      | some (.dct kvs) => if kvs.length < sizeLine then .ok η (S.set n (.dct (putD kvs k d))) else .bad
      | _ => .bad
    | _, _ => .bad
noncomputable def evTs : ITs → List D → Sl → Store → Res Sl
  | .nil, [], η, S => .ok η S
  | .cons t ts, d :: ds, η, S => (evT t d η S).bind fun η S => evTs ts ds η S
  | _, _, _, _ => .bad
/-- what is walked: the thing itself, its items -/
noncomputable def evI : II → Sl → Store → Res (D × List D)
  | .seq e, η, S => (evE e η S).bind fun d S => match items S d with
    | some ds => .ok (d, ds) S
    | none => .bad
  | .rng1 a, η, S => (evE a η S).bind fun d S => match d with
    | .int j => if -(2 ^ 62) ≤ j ∧ j < 2 ^ 62 then .ok (.non, rng 0 j.toNat) S else .bad
    | _ => .bad
  | .rng2 a b, η, S => (evE a η S).bind fun x S => (evE b η S).bind fun y S => match x, y with
    | .int i, .int j => if -(2 ^ 62) ≤ i ∧ i < 2 ^ 62 ∧ -(2 ^ 62) ≤ j ∧ j < 2 ^ 62 then .ok (.non, rng i (j - i).toNat) S else .bad
    | _, _ => .bad
  | .rngD a b, η, S => (evE a η S).bind fun x S => (evE b η S).bind fun y S => match x, y with
    | .int i, .int j => if -(2 ^ 62) ≤ i ∧ i < 2 ^ 62 ∧ -(2 ^ 62) ≤ j ∧ j < 2 ^ 62 then .ok (.non, rngd i (i - j).toNat) S else .bad
    | _, _ => .bad
  | .enum e, η, S => (evE e η S).bind fun d S => match d with
    | .lv ds => .ok (d, enumL 0 ds) S
    | _ => .bad
  | .zip a b, η, S => (evE a η S).bind fun x S => (evE b η S).bind fun y S => match x, y with
    | .lv xs, .lv ys => .ok (.non, zipL xs ys) S
    | .tup xs, .tup ys => .ok (.non, zipL xs ys) S
    | _, _ => .bad
end
mutual
noncomputable def evS : IS → Sl → Store → Res Fl
  | .expr e, η, S => (evE C G e η S).bind fun _ S => .ok (.nx η) S
  | .asg t e, η, S => (evE C G e η S).bind fun d S => (evT C G t d η S).bind fun η S => .ok (.nx η) S
  | .par i j a b, η, S => (evE C G a η S).bind fun x S => (evE C G b η S).bind fun y S => .ok (.nx ((η.set i (some x)).set j (some y))) S
  | .par3 i j k a b c, η, S => (evE C G a η S).bind fun x S => (evE C G b η S).bind fun y S => (evE C G c η S).bind fun z S => .ok (.nx (((η.set i (some x)).set j (some y)).set k (some z))) S
  | .iff c a b, η, S => (evB C G c η S).bind fun t S => if t then evSs a η S else evSs b η S
  | .whl c b, η, S => whl (evB C G c) (evSs b) η S
  | .forr t it b, η, S => (evI C G it η S).bind fun x S1 => forL (guardOf x.1 S1) (evT C G t) (evSs b) x.2 η S1
  | .ret e, η, S => (evE C G e η S).bind fun d S => .ok (.rt d) S
  | .retn, _, S => .ok (.rt .non) S
  | .pass, η, S => .ok (.nx η) S
  | .brk, η, S => .ok (.bk η) S
  | .cnt, η, S => .ok (.ct η) S
  | .never, _, _ => .bad
noncomputable def evSs : ISs → Sl → Store → Res Fl
  | .nil, η, S => .ok (.nx η) S
  | .cons s ss, η, S => (evS s η S).bind fun f S => match f with
    | .nx η => evSs ss η S
    | f => .ok f S
end
end

/-- a def: how many names, how many parameters, its body; keep: what it hands back stays a changing list -/
structure Fn where
  ns : Nat
  np : Nat
  keep : Bool
  body : ISs
/-- calls, k deep -/
noncomputable def call (T : Str → Option Fn) (G : Str → Option D) : Nat → Str → List D → Store → Res D
  | 0, _, _, _ => .bad
  | k + 1, f, ds, S => match T f with
    | none => .bad
    | some fn => if ds.length = fn.np then
        let r := (evSs (call T G k) G fn.body (ds.map some ++ List.replicate (fn.ns - fn.np) none) S).bind fun f S' => match f with
          | .rt d => .ok d S'
          | .nx _ => .ok .non S'
          | _ => .bad
        if fn.keep then r else leave S r
      else .bad
end Py

set_option Elab.async false
set_option linter.all false
set_option maxRecDepth 100000
set_option maxHeartbeats 4000000
/-! Readings of the small language; expressions without calls. -/
namespace Py
open PySem PySem.Spec PyProof.Rows L2

/-- the wish of an exception: its class, what it keeps -/
abbrev XD := List Addr → Hp → Str → D → Prop
def Good (K : PySem.W.Frag) (p : List Addr) (H : Hp) {α : Type} (r : Res α) (F : List Addr → Hp → α → Store → Prop) (W : XD) : Prop := match r with
  | .ok a S => ∀ p' H', Ext p H p' H' → RS K p' H' S → F p' H' a S
  | .exc x d S => ∀ p' H', Ext p H p' H' → RS K p' H' S → W p' H' x d
  | .bad => False
section
variable {K : PySem.W.Frag} {p p1 : List Addr} {H H1 : Hp} {α β : Type} {r : Res α} {F F' : List Addr → Hp → α → Store → Prop} {W : XD}
theorem Good.mono (h : Good K p H r F W) (e : Ext p H p1 H1) : Good K p1 H1 r F W := by
  cases r with
  | ok a S => exact fun p' H' e' rs => h p' H' (e.trans e') rs
  | exc x d S => exact fun p' H' e' rs => h p' H' (e.trans e') rs
  | bad => exact h
theorem Good.imp (h : Good K p H r F W) (f : ∀ p' H' a S, Ext p H p' H' → RS K p' H' S → F p' H' a S → F' p' H' a S) : Good K p H r F' W := by
  cases r with
  | ok a S => exact fun p' H' e rs => f p' H' a S e rs (h p' H' e rs)
  | exc x d S => exact h
  | bad => exact h
theorem Good.bind {g : α → Store → Res β} {G : List Addr → Hp → β → Store → Prop} (h : Good K p H (r.bind g) G W) : Good K p H r (fun p1 H1 a S1 => Good K p1 H1 (g a S1) G W) W := by
  cases r with
  | ok a S => exact fun p' H' e rs => Good.mono (r := g a S) h e
  | exc x d S => exact h
  | bad => exact h
theorem Good.here {a : α} {S : Store} (h : Good K p H (.ok a S) F W) (rs : RS K p H S) : F p H a S := h p H Ext.refl rs
theorem Good.ofO {o : Option α} {S : Store} (h : Good K p H (Res.ofO o S) F W) (rs : RS K p H S) : ∃ a, o = some a ∧ F p H a S := by
  cases o with
  | none => exact False.elim h
  | some a => exact ⟨a, rfl, h p H Ext.refl rs⟩
end

/-- the reading of an expression by what it computes -/
def tI (K : PySem.W.Frag) (W : XD) (f : Sl → Store → Res D) : TE := fun σ H Q => ∃ p η S, RE K p H η σ ∧ RS K p H S ∧ Good K p H (f η S) (fun p' H' d _ => ∀ v, RV K p' H' d v → Q v H') W
def tT (K : PySem.W.Frag) (W : XD) (f : Sl → Store → Res Bool) : TT := fun σ H Q => ∃ p η S, RE K p H η σ ∧ RS K p H S ∧ Good K p H (f η S) (fun _ H' b _ => Q b H') W
def tL (K : PySem.W.Frag) (W : XD) (f : Sl → Store → Res (List D)) : TA := fun σ H Q => ∃ p η S, RE K p H η σ ∧ RS K p H S ∧ Good K p H (f η S) (fun p' H' ds _ => ∀ vs, RVs K p' H' ds vs → Q vs H') W
def tOI (K : PySem.W.Frag) (W : XD) (f : Sl → Store → Res (Option Int)) : TO := fun σ H Q => ∃ p η S, RE K p H η σ ∧ RS K p H S ∧ Good K p H (f η S) (fun _ H' o _ => Q o H') W

section
variable {K : PySem.W.Frag} {p : List Addr} {H : Hp} {W : XD} {η : Sl} {σ : L2.St} {S : Store} {β : Type} {F : List Addr → Hp → β → Store → Prop}
theorem tI_of {f : Sl → Store → Res D} {g : D → Store → Res β} {Q : VK} (re : RE K p H η σ) (rs : RS K p H S) (h : Good K p H ((f η S).bind g) F W)
    (k : ∀ p1 H1 d S1 v, Ext p H p1 H1 → RE K p1 H1 η σ → RS K p1 H1 S1 → RV K p1 H1 d v → Good K p1 H1 (g d S1) F W → Q v H1) : tI K W f σ H Q :=
  ⟨p, η, S, re, rs, h.bind.imp fun p1 H1 d S1 e rs1 q v rv => k p1 H1 d S1 v e (re.ext e) rs1 rv q⟩
theorem tT_of {f : Sl → Store → Res Bool} {g : Bool → Store → Res β} {Q : Bool → Hp → Prop} (re : RE K p H η σ) (rs : RS K p H S) (h : Good K p H ((f η S).bind g) F W)
    (k : ∀ p1 H1 d S1, Ext p H p1 H1 → RE K p1 H1 η σ → RS K p1 H1 S1 → Good K p1 H1 (g d S1) F W → Q d H1) : tT K W f σ H Q :=
  ⟨p, η, S, re, rs, h.bind.imp fun p1 H1 d S1 e rs1 q => k p1 H1 d S1 e (re.ext e) rs1 q⟩
theorem tL_of {f : Sl → Store → Res (List D)} {g : List D → Store → Res β} {Q : List V → Hp → Prop} (re : RE K p H η σ) (rs : RS K p H S) (h : Good K p H ((f η S).bind g) F W)
    (k : ∀ p1 H1 d S1 v, Ext p H p1 H1 → RE K p1 H1 η σ → RS K p1 H1 S1 → RVs K p1 H1 d v → Good K p1 H1 (g d S1) F W → Q v H1) : tL K W f σ H Q :=
  ⟨p, η, S, re, rs, h.bind.imp fun p1 H1 d S1 e rs1 q v rv => k p1 H1 d S1 v e (re.ext e) rs1 rv q⟩
theorem tOI_of {f : Sl → Store → Res (Option Int)} {g : Option Int → Store → Res β} {Q : Option Int → Hp → Prop} (re : RE K p H η σ) (rs : RS K p H S) (h : Good K p H ((f η S).bind g) F W)
    (k : ∀ p1 H1 d S1, Ext p H p1 H1 → RE K p1 H1 η σ → RS K p1 H1 S1 → Good K p1 H1 (g d S1) F W → Q d H1) : tOI K W f σ H Q :=
  ⟨p, η, S, re, rs, h.bind.imp fun p1 H1 d S1 e rs1 q => k p1 H1 d S1 e (re.ext e) rs1 q⟩
end

theorem PE.by {X : Cx} {e : Expr} {t t' : TE} (h : PE X e t) (f : ∀ σ H Q, t' σ H Q → t σ H Q) : PE X e t' := ⟨fun pins s σ H Q I q => h.run pins s σ H Q I (f σ H Q q)⟩
theorem PT.by {X : Cx} {e : Expr} {t t' : TT} (h : PT X e t) (f : ∀ σ H Q, t' σ H Q → t σ H Q) : PT X e t' := ⟨fun pins s σ H Q I q => h.run pins s σ H Q I (f σ H Q q)⟩
theorem PA.by {X : Cx} {e : List Expr} {t t' : TA} (h : PA X e t) (f : ∀ σ H Q, t' σ H Q → t σ H Q) : PA X e t' := ⟨fun pos pins s σ H Q I q => h.run pos pins s σ H Q I (f σ H Q q)⟩
theorem PS.by {X : Cx} {e : Stmt} {t t' : TS} (h : PS X e t) (f : ∀ D σ H, t' D σ H → t D σ H) : PS X e t' := ⟨fun pins s σ H D I q => h.run pins s σ H D I (f D σ H q)⟩
theorem PSs.by {X : Cx} {e : List Stmt} {t t' : TS} (h : PSs X e t) (f : ∀ D σ H, t' D σ H → t D σ H) : PSs X e t' := ⟨fun pins s σ H D I q => h.run pins s σ H D I (f D σ H q)⟩
theorem PO.by {X : Cx} {e : Option Expr} {t t' : TO} (h : PO X e t) (f : ∀ σ H Q, t' σ H Q → t σ H Q) : PO X e t' := ⟨fun pins s σ H Q I q => h.run pins s σ H Q I (f σ H Q q)⟩

/-! ### values and lists -/
section
variable {K : PySem.W.Frag} {p : List Addr} {H : Hp} {S : Store}
theorem items_seq {d : D} {ds : List D} {v : V} (rs : RS K p H S) (rv : RV K p H d v) (e : items S d = some ds) : ∃ a xs, v = .ref a ∧ RVs K p H ds xs ∧ (SqL K H a xs ∨ SqT K H a xs) := by
  cases d with
  | tup es =>
    cases (Option.some.inj e)
    obtain ⟨a, xs, e1, e2, e3⟩ := rv
    exact ⟨a, xs, e1, e2, .inr (SqT_of e3)⟩
  | lv es =>
    cases (Option.some.inj e)
    obtain ⟨a, xs, e1, e2, _, e3⟩ := rv
    exact ⟨a, xs, e1, e2, .inl (SqL.of e3)⟩
  | fz es =>
    cases (Option.some.inj e)
    obtain ⟨a, xs, e1, e2, e3⟩ := rv
    exact ⟨a, xs, e1, e2, .inl (SqL_of e3)⟩
  | lo n =>
    obtain ⟨a, e1, e2⟩ := rv
    cases q : S[n]? with
    | none =>
      simp only [items, q] at e
      cases e
    | some c =>
      cases c with
      | lst es =>
        simp only [items, q] at e
        cases e
        obtain ⟨xs, h1, h2⟩ := rs.cel n a _ e1 q
        exact ⟨a, xs, e2, h2, .inl (SqL.of h1)⟩
      | dct kvs =>
        simp only [items, q] at e
        cases e
  | _ => cases e
theorem lsOf_lst {d : D} {ds : List D} {v : V} (rs : RS K p H S) (rv : RV K p H d v) (e : lsOf S d = some ds) : ∃ a xs, v = .ref a ∧ RVs K p H ds xs ∧ H a = some (.lst xs) := by
  cases d with
  | lv es =>
    cases (Option.some.inj e)
    obtain ⟨a, xs, e1, e2, _, e3⟩ := rv
    exact ⟨a, xs, e1, e2, e3⟩
  | lo n =>
    obtain ⟨a, e1, e2⟩ := rv
    cases q : S[n]? with
    | none =>
      simp only [lsOf, q] at e
      cases e
    | some c =>
      cases c with
      | lst es =>
        simp only [lsOf, q] at e
        cases e
        obtain ⟨xs, h1, h2⟩ := rs.cel n a _ e1 q
        exact ⟨a, xs, e2, h2, h1⟩
      | dct kvs =>
        simp only [lsOf, q] at e
        cases e
  | _ => cases e
theorem RV.new_tup {ds : List D} {xs : List V} {a : Addr} (rs : RS K p H S) (h : H a = none) (r : RVs K p H ds xs) : RV K p (upd H a (.tup xs)) (.tup ds) (.ref a) :=
  ⟨a, xs, rfl, r.ext (Ext.laid h), .inr ⟨rs.notnew h, .inl upd_same⟩⟩
theorem RV.new_lv {ds : List D} {xs : List V} {a : Addr} (rs : RS K p H S) (h : H a = none) (r : RVs K p H ds xs) : RV K p (upd H a (.lst xs)) (.lv ds) (.ref a) :=
  ⟨a, xs, rfl, r.ext (Ext.laid h), rs.notnew h, upd_same⟩
variable {F : List Addr → Hp → D → Store → Prop} {W : XD} {Q : VK}
/-- a result that is a new tuple, list -/
theorem Good.new_tup {ds : List D} {xs : List V} (h : Good K p H (.ok (.tup ds) S) (fun p' H' d _ => ∀ v, RV K p' H' d v → Q v H') W) (rs : RS K p H S) (r : RVs K p H ds xs) : ∀ a, H a = none → Q (.ref a) (upd H a (.tup xs)) := fun a ha =>
  h p _ (Ext.laid ha) (rs.laid ha) _ (RV.new_tup rs ha r)
theorem Good.new_lv {ds : List D} {xs : List V} (h : Good K p H (.ok (.lv ds) S) (fun p' H' d _ => ∀ v, RV K p' H' d v → Q v H') W) (rs : RS K p H S) (r : RVs K p H ds xs) : ∀ a, H a = none → Q (.ref a) (upd H a (.lst xs)) := fun a ha =>
  h p _ (Ext.laid ha) (rs.laid ha) _ (RV.new_lv rs ha r)
theorem Good.val {d : D} {v : V} (h : Good K p H (.ok d S) (fun p' H' d _ => ∀ v, RV K p' H' d v → Q v H') W) (rs : RS K p H S) (r : RV K p H d v) : Q v H := h p H Ext.refl rs v r

mutual
/-- as the layer's data -/
theorem toP_Dp : ∀ (d : D) (v : V) (q : PyData), RV K p H d v → toP d = some q → Dp K H v q
  | .non, _, _, h, e => by cases h; cases e; exact .non
  | .bl b, _, _, h, e => by cases h; cases e; exact .bl b
  | .int i, _, _, h, e => by cases h; cases e; exact .int i
  | .str x, _, _, h, e => by cases h; cases e; exact .str x
  | .tup ds, _, q, h, e => by
    obtain ⟨a, xs, rfl, e2, e3⟩ := h
    simp only [toP, Option.map_eq_some_iff] at e
    obtain ⟨qs, e4, rfl⟩ := e
    exact .tup (SqT_of e3) (toP_Dps ds xs qs e2 e4)
  | .lv ds, _, q, h, e => by
    obtain ⟨a, xs, rfl, e2, _, e3⟩ := h
    simp only [toP, Option.map_eq_some_iff] at e
    obtain ⟨qs, e4, rfl⟩ := e
    exact .lst (SqL.of e3) (toP_Dps ds xs qs e2 e4)
  | .fz ds, _, q, h, e => by
    obtain ⟨a, xs, rfl, e2, e3⟩ := h
    simp only [toP, Option.map_eq_some_iff] at e
    obtain ⟨qs, e4, rfl⟩ := e
    exact .lst (SqL_of e3) (toP_Dps ds xs qs e2 e4)
  | .lo n, _, _, _, e => by simp only [toP] at e; cases e
  | .dc, _, _, _, e => by simp only [toP] at e; cases e
theorem toP_Dps : ∀ (ds : List D) (vs : List V) (qs : List PyData), RVs K p H ds vs → toPs ds = some qs → DpAll K H vs qs
  | [], _, _, h, e => by cases h; cases e; exact .nil
  | d :: ds, _, qs, h, e => by
    obtain ⟨v, r, rfl, h2, h3⟩ := h
    simp only [toPs] at e
    split at e
    · rename_i q1 q2 e1 e2
      cases e
      exact .cons (toP_Dp d v q1 h2 e1) (toP_Dps ds r q2 h3 e2)
    · cases e
end
theorem deref_rv {d : D} {v : V} {q : PyData} (rs : RS K p H S) (rv : RV K p H d v) (e : toP (deref S d) = some q) : Dp K H v q := by
  cases d with
  | lo n =>
    obtain ⟨a, e1, rfl⟩ := rv
    cases z : S[n]? with
    | none =>
      simp only [deref, z, toP] at e
      cases e
    | some c =>
      cases c with
      | lst ds =>
        simp only [deref, z, toP, Option.map_eq_some_iff] at e
        obtain ⟨qs, e4, rfl⟩ := e
        obtain ⟨xs, h1, h2⟩ := rs.cel n a _ e1 z
        exact .lst (SqL.of h1) (toP_Dps ds xs qs h2 e4)
      | dct kvs =>
        simp only [deref, z, toP] at e
        cases e
  | _ => exact toP_Dp _ v q rv e
end
end Py

set_option Elab.async false
set_option linter.all false
set_option maxRecDepth 100000
set_option maxHeartbeats 4000000
/-! t[::-1] of a tuple. -/
namespace Py
open PySem PySem.Calls PySem.Spec PyProof.Rows PyProof.V PySem.SeqAt PySem.MeetsSeq PySem.MeetsSeq2 PySem.MeetsSeq3 L2
section
variable {P : Program} {w : World} {A : Around} {E : Value → Shared → Prop} {s : Shared}
theorem back_adj (n : Nat) : Builtin.Slice.sliceAdjust none none (-1) (n : Int) = ((n : Int) - 1, -1) := rfl
theorem back_many (n : Nat) : Builtin.Slice.slicePlaces ((n : Int) - 1) (-1) (-1) = n := by
  show (if (-1 : Int) > 0 then _ else if (n : Int) - 1 > -1 then ((n : Int) - 1 - (-1) - 1) / (-(-1)) + 1 else 0).toNat = n
  rw [if_neg (by decide)]
  by_cases h : 0 < n
  · rw [if_pos (by omega), show -(-1 : Int) = 1 from rfl, Int.ediv_one]; omega
  · rw [if_neg (by omega)]; omega
theorem back_pick (l : List Value) : ∀ n, n ≤ l.length → ((List.range n).filterMap fun (m : Nat) => l.toArray[((l.length : Int) - 1 + (m : Int) * -1).toNat]?) = l.reverse.take n
  | 0, _ => rfl
  | n + 1, h => by
    rw [List.range_succ, List.filterMap_append, back_pick l n (by omega)]
    have e : ((l.length : Int) - 1 + (n : Int) * -1).toNat = l.length - 1 - n := by omega
    have lt : l.length - 1 - n < l.length := by omega
    have g : l.toArray[((l.length : Int) - 1 + (n : Int) * -1).toNat]? = some l[l.length - 1 - n] := by
      rw [e, List.getElem?_toArray, List.getElem?_eq_getElem lt]
    rw [List.filterMap_cons, g, List.filterMap_nil]
    have h2 : n < l.reverse.length := by rw [List.length_reverse]; omega
    rw [List.take_succ_eq_append_getElem h2, List.getElem_reverse]
theorem tup_back {t sl : Addr} {l : List Value} {tk : Tok} {Q : Value → Shared → Prop} (ht : IsTup s.heap t l.toArray) (hs : s.heap.IsSliceOf sl .none .none (.int (-1) tk)) (hz : l.length ≤ sizeLine)
    (h : Q (.ref s.heap.objs.size) { s with heap := s.heap.push { cls := .type "tuple", data := .seq l.reverse.toArray } }) :
    wpAny (model P w) A (getItem (.ref t) (.ref sl)) Q E s := by
  have ok : sizeOk (.seq l.reverse.toArray) := by
    show l.reverse.toArray.size ≤ sizeLine
    rw [List.size_toArray, List.length_reverse]; exact hz
  obtain ⟨os, g1, g2, g3⟩ := id hs
  have tsl : s.TypeIs (.ref sl) "slice" := ⟨os, g1, g2⟩
  unfold getItem
  try with_reducible refine wpAny_holding ?_
  first | refine wpAny_bind (wpAny_pure ?_) | skip
  refine wpAny_bind (wpAny_sequenceKey ht.typeIs (by decide) ?_)
  refine wpAny_bind (wpAny_callSpecial?_slot
    (name := Str.ofString "__getitem__") ht.typeIs
    slot_tuple_getitem (wpAny_call_entry slot_tuple_getitem ht.typeIs
      entry_tuple_getitem ?_ (args_tuple_getitem _ _)))
  show wpAny _ _ (Builtin.Tuple.tupleItemsOf (.ref t) >>= _)
    _ _ s
  refine wpAny_bind (tupleItemsOf_ ht ?_)
  refine wpAny_bind (wpAny_typeOf tsl ?_)
  rw [if_pos (by decide)]
  have ap : ∀ {B : Around} {R : Int × Int × Nat → Shared → Prop}, R ((l.length : Int) - 1, -1, l.length) s → wpAny (model P w) B (Builtin.Slice.sliceApplied (.ref sl) (pure (l.toArray.size : Int))) R E s := fun {B R} hR => by
    unfold Builtin.Slice.sliceApplied Builtin.Slice.sliceFields
    refine wpAny_bind (wpAny_bind (wpAny_field g1 g3 (x := .none) rfl
      (wpAny_bind (wpAny_field g1 g3 (x := .none) rfl
        (wpAny_bind (wpAny_field g1 g3 (x := .int (-1) tk) rfl (wpAny_pure ?_)))))))
    refine wpAny_bind (HT.slicePart_ (.int (-1) tk) ?_)
    show wpAny _ _ (if ((-1 : Int) == 0) = true then _ else _)
      _ _ s
    rw [if_neg (by decide)]
    refine wpAny_bind (HT.slicePart_ .none (wpAny_bind
      (HT.slicePart_ .none (wpAny_bind (wpAny_pure ?_)))))
    show wpAny _ _ (match Builtin.Slice.sliceAdjust none none (-1) (l.toArray.size : Int) with
      | (lo, hi) => pure (lo, (-1 : Int), Builtin.Slice.slicePlaces lo hi (-1))) _ _ s
    rw [List.size_toArray, back_adj]
    show wpAny _ _ (pure ((l.length : Int) - 1, (-1 : Int), Builtin.Slice.slicePlaces ((l.length : Int) - 1) (-1) (-1))) _ _ s
    rw [back_many]
    exact wpAny_pure hR
  refine wpAny_bind (ap ?_)
  have no : ¬ ((((l.length : Int) - 1 == 0) && ((-1 : Int) == 1) && (l.length == l.toArray.size)) = true) := by
    rw [show ((-1 : Int) == 1) = false from rfl, Bool.and_false, Bool.false_and]
    decide
  show wpAny _ _ (if (((l.length : Int) - 1 == 0) && ((-1 : Int) == 1) && (l.length == l.toArray.size)) = true then _ else _)
    _ _ s
  rw [if_neg no]
  have pk := back_pick l l.length (Nat.le_refl _)
  rw [← List.length_reverse, List.take_length, List.length_reverse] at pk
  rw [pk]
  first
    | exact wpAny_bind (m := Builtin.Tuple.tupleExact _)
        (wpAny_newObj_type (wpAny_pure ⟨_, rfl, wpAny_pure h⟩) ok)
    | exact wpAny_bind (m := Builtin.Tuple.tupleExact _)
        (wpAny_newObj_type (wpAny_bind (wpAny_pure (wpAny_pure ⟨_, rfl, wpAny_pure h⟩))) ok)
    | exact wpAny_bind (wpAny_bind (m := Builtin.Tuple.tupleExact _)
        (wpAny_newObj_type (wpAny_pure (wpAny_pure ⟨_, rfl, wpAny_pure h⟩)) ok))
    | exact wpAny_bind (wpAny_bind (m := Builtin.Tuple.tupleExact _)
        (wpAny_newObj_type (wpAny_pure ⟨_, rfl, wpAny_pure h⟩) ok))
end
section
variable {X : Cx}
abbrev backSl (s : Shared) (tk : Tok) : Shared := { s with heap := s.heap.push { cls := .type "slice", data := .fields #[.none, .none, .int (-1) tk] } }
/-- x[::-1], x a list or a tuple -/
def tRevA (K : PySem.W.Frag) (te : TE) : TE := fun σ H Q => te σ H fun x H1 => ∃ a xs, x = .ref a ∧
  ((SqL K H1 a xs ∧ ∀ p, H1 p = none → Q (.ref p) (upd H1 p (.lst xs.reverse))) ∨ (SqT K H1 a xs ∧ ∀ p, H1 p = none → Q (.ref p) (upd H1 p (.tup xs.reverse))))
theorem pe_revA {e : Expr} {te : TE} {k : Nat} {p1 p2 p3 pos : Pos} (he : PE X e te) : PE X (.Subscript e (.Slice none none (some (.UnaryOp .USub (.Constant (.int 1) k p1) p2)) p3) pos) (tRevA X.K te) := by
  refine ⟨fun pins s σ H Q I h => Subscript_ (thn (he.run pins s σ H _ I h) fun v s1 ⟨x, H1, I1, r1, q1⟩ => ?_)⟩
  obtain ⟨a, xs, rfl, q⟩ := q1
  cases r1
  have part : PO X (some (.UnaryOp .USub (.Constant (.int 1) k p1) p2))
      (tPart (tUn (rU fun i => .int (-i)) (tC (.int 1)))) := po_some (pe_un un_neg pe_int)
  have no : ∀ (s1 : Shared) (H1 : Hp), L2.Inv X pins σ H1 s1 → wpAny (model X.prog X.w) X.A (evalPart none X.env)
      (fun u s' => ∃ o H', L2.Inv X pins σ H' s' ∧ IsPart u o ∧ (o = none ∧ H' = H1)) X.xe s1 := fun s1 H1 I1 =>
    po_none.run pins s1 σ H1 (fun o H2 => o = none ∧ H2 = H1) I1 ⟨rfl, rfl⟩
  refine wpAny_Slice (thn (no s1 H1 I1) fun vl s2 ⟨l, H2, I2, pl, el, e2⟩ => thn (no s2 H2 I2) fun vu s3 ⟨u, H3, I3, pu, eu, e3⟩ => ?_)
  subst el e2 eu e3
  refine thn (part.run pins s3 σ H3
    (fun o H4 => o = some (-1) ∧ H4 = H3) I3 ⟨1, rfl, -1, rfl, rfl, rfl⟩) fun vs s4 ⟨o, H4, I4, ps, eo, e4⟩ => ?_
  subst eo e4
  cases pl
  cases pu
  cases ps with
  | int _ tk =>
  have I5 : L2.Inv X pins σ H4 (backSl s4 tk) := I4.kept (t' := s4.toks) fun b ob q => Heap.get?_push_of_some _ q
  have sl := Heap.IsSliceOf.new s4.heap .none .none (.int (-1) tk)
  show wpAny (model X.prog X.w) X.A
    (subscriptTail e (.Slice none none (some (.UnaryOp .USub (.Constant (.int 1) k p1) p2)) p3) (.ref a) (.ref s4.heap.objs.size)) (EP X pins σ Q) X.xe (backSl s4 tk)
  rcases q with ⟨hx, q⟩ | ⟨hx, q⟩
  · obtain ⟨its, r, ht, hz⟩ := I5.list hx
    have hlen := r.length
    refine tail_any (ops := [.ref a, .ref s4.heap.objs.size])
      ht.isList.typeIs PySem.slot_list_getitem.lookup ?_ (by with_unfolding_all rfl)
    refine wpAny_getItem_list_slice ht.isList sl .none .none
      (.int (-1) tk) (by decide) ?_ (by rw [List.size_toArray]; omega)
    rw [PySem.W.krv_pick]
    refine ⟨.ref _, _, I5.laid (t' := s4.toks) (o := .lst xs.reverse)
      (fun b ob q => Heap.get?_push_of_some _ q) (Nat.le_refl _) ?_, rfl, q _ (I5.hok.fresh (Nat.le_refl _))⟩
    exact ⟨by rw [List.length_reverse]; omega, _, 0, r.reverse,
      Heap.get?_push_size _ rfl⟩
  · obtain ⟨its, r, ht, hz⟩ := I5.tuple hx
    have hlen := r.length
    refine tail_any (ops := [.ref a, .ref s4.heap.objs.size])
      ht.typeIs slot_tuple_getitem.lookup ?_ (by with_unfolding_all rfl)
    refine tup_back ht sl (by omega) ?_
    refine ⟨.ref _, _, I5.laid (t' := s4.toks) (o := .tup xs.reverse)
      (fun b ob q => Heap.get?_push_of_some _ q) (Nat.le_refl _) ?_, rfl, q _ (I5.hok.fresh (Nat.le_refl _))⟩
    exact ⟨by rw [List.length_reverse]; omega, _, r.reverse, IsTup.new _ _⟩
end
end Py

set_option Elab.async false
set_option linter.all false
set_option maxRecDepth 100000
set_option maxHeartbeats 4000000
/-! Expressions, one rule each. -/
namespace Py
open PySem PySem.Spec PyProof.Rows L2

/-- where the code stands -/
structure Cf (X : Cx) (k : Nat) : Prop where
  calm : X.calm = true
  nd : X.N.Nodup
  gd : X.A.guards = some []
  room : Room k X.A

section
variable {X : Cx} {W : XD} {a b c : Expr} {fa fb fc : Sl → Store → Res D} {pos : Pos} {k : Nat}

theorem e_var {i : Nat} {x : Str} (hN : X.N[i]? = some x) (hv : Vis X.env.scope x) (hd : (x == ("__debug__" : Str)) = false) (hcd : (x == ("__classdict__" : Str)) = false) :
    PE X (.Name x pos) (tI X.K W fun η S => match η[i]? with
      | some (some d) => .ok d S
      | _ => .bad) := by
  refine PE.by (pe_var (i := i) hN hv hd hcd) fun σ H Q h => ?_
  obtain ⟨p, η, S, re, rs, h⟩ := h
  cases e : η[i]? with
  | none => simp only [e] at h; exact False.elim h
  | some o =>
    cases o with
    | none => simp only [e] at h; exact False.elim h
    | some d =>
      simp only [e] at h
      obtain ⟨v, e1, rv⟩ := re.val i d e
      exact ⟨v, e1, h.val rs rv⟩
theorem e_con {d : D} {v : V} {e : Expr} (h : PE X e (tC v)) (rv : ∀ p H, RV X.K p H d v) : PE X e (tI X.K W fun _ S => .ok d S) := by
  refine PE.by h fun σ H Q q => ?_
  obtain ⟨p, η, S, re, rs, q⟩ := q
  exact q.val rs (rv p H)

/-- a binary operator by its rule -/
theorem e_op {op : Operator} {r : R2} {o : BOp} (ho : OpR X (binaryOp op) r) (ha : PE X a (tI X.K W fa)) (hb : PE X b (tI X.K W fb))
    (hr : ∀ (p : List Addr) (H : Hp) (S : Store) (x y d : D) (v u : V) (Q : VK), RS X.K p H S → RV X.K p H x v → RV X.K p H y u → bop S o x y = some d →
      Good X.K p H (.ok d S) (fun p' H' d _ => ∀ v, RV X.K p' H' d v → Q v H') W → r v u H Q) :
    PE X (.BinOp a op b pos) (tI X.K W fun η S => (fa η S).bind fun x S => (fb η S).bind fun y S => .ofO (bop S o x y) S) := by
  refine PE.by (pe_op ho ha hb) fun σ H Q h => ?_
  obtain ⟨p, η, S, re, rs, h⟩ := h
  refine tI_of re rs h fun p1 H1 x S1 v e1 re1 rs1 rv h1 => ?_
  refine tI_of re1 rs1 h1 fun p2 H2 y S2 u e2 re2 rs2 ru h2 => ?_
  cases q : bop S2 o x y with
  | none => rw [q] at h2; exact False.elim h2
  | some d =>
    rw [q] at h2
    exact hr p2 H2 S2 x y d v u Q rs2 (rv.ext e2) ru q h2
/-- on two ints -/
theorem i_op {C : Int → Int → Prop} {g : Int → Int → Int} {K : PySem.W.Frag} {p : List Addr} {H : Hp} {S : Store} {i j : Int} {v u : V} {Q : VK} (rs : RS K p H S) (rv : RV K p H (.int i) v) (ru : RV K p H (.int j) u) (hc : C i j)
    (h : Good K p H (.ok (.int (g i j)) S) (fun p' H' d _ => ∀ v, RV K p' H' d v → Q v H') W) : rI C (fun i j => .int (g i j)) v u H Q := by
  cases rv; cases ru
  exact ⟨i, j, rfl, rfl, hc, h.val rs rfl⟩
theorem i_op0 {g : Int → Int → Int} {K : PySem.W.Frag} {p : List Addr} {H : Hp} {S : Store} {i j : Int} {v u : V} {Q : VK} (rs : RS K p H S) (rv : RV K p H (.int i) v) (ru : RV K p H (.int j) u)
    (h : Good K p H (.ok (.int (g i j)) S) (fun p' H' d _ => ∀ v, RV K p' H' d v → Q v H') W) : rI0 (fun i j => .int (g i j)) v u H Q := by
  cases rv; cases ru
  exact ⟨i, j, rfl, rfl, h.val rs rfl⟩
theorem bop_ls {S : Store} {o : BOp} {x y d : D} (ho : o = .add) (h : bop S o x y = some d) (n1 : ∀ i j, x = .int i → y = .int j → False) (n2 : ∀ i j, x = .str i → y = .str j → False) (n3 : ∀ i j, x = .tup i → y = .tup j → False) :
    ∃ as bs, lsOf S x = some as ∧ lsOf S y = some bs ∧ as.length + bs.length ≤ sizeLine ∧ d = .lv (as ++ bs) := by
  subst ho
  have go : ∀ z : Option D, z = some d → (z = match lsOf S x, lsOf S y with
      | some a, some b => if a.length + b.length ≤ sizeLine then some (.lv (a ++ b)) else none
      | _, _ => none) → ∃ as bs, lsOf S x = some as ∧ lsOf S y = some bs ∧ as.length + bs.length ≤ sizeLine ∧ d = .lv (as ++ bs) := fun z hz e => by
    rw [e] at hz
    split at hz
    · rename_i as bs e1 e2
      split at hz
      · cases hz; exact ⟨as, bs, e1, e2, by assumption, rfl⟩
      · cases hz
    · cases hz
  refine go _ h ?_
  cases x <;> cases y <;> first
    | rfl
    | exact (n1 _ _ rfl rfl).elim
    | exact (n2 _ _ rfl rfl).elim
    | exact (n3 _ _ rfl rfl).elim
theorem e_add (ha : PE X a (tI X.K W fa)) (hb : PE X b (tI X.K W fb)) : PE X (.BinOp a .Add b pos) (tI X.K W fun η S => (fa η S).bind fun x S => (fb η S).bind fun y S => .ofO (bop S .add x y) S) := by
  refine e_op ((op_add (X := X)).or (op_add_str.or (op_catA.or op_cat))) ha hb fun p H S x y d v u Q rs rv ru e h => ?_
  by_cases h1 : ∃ i j, x = .int i ∧ y = .int j
  · obtain ⟨i, j, rfl, rfl⟩ := h1
    cases e
    exact .inl (i_op0 rs rv ru h)
  by_cases h2 : ∃ i j, x = .str i ∧ y = .str j
  · obtain ⟨i, j, rfl, rfl⟩ := h2
    simp only [bop] at e
    split at e
    · cases e; cases rv; cases ru
      exact .inr (.inl ⟨i, j, rfl, rfl, by assumption, h.val rs rfl⟩)
    · cases e
  by_cases h3 : ∃ i j, x = .tup i ∧ y = .tup j
  · obtain ⟨i, j, rfl, rfl⟩ := h3
    simp only [bop] at e
    split at e
    · rename_i hz
      cases e
      obtain ⟨a1, xs, rfl, e2, e3⟩ := rv
      obtain ⟨a2, ys, rfl, e5, e6⟩ := ru
      refine .inr (.inr (.inl ⟨a1, a2, xs, ys, rfl, rfl, SqT_of e3, SqT_of e6, by rw [← e2.length, ← e5.length]; exact hz, fun q => ?_, fun _ q => ?_, fun _ _ => h.new_tup rs (e2.append e5)⟩))
      · subst q
        have z : i = [] := by have := e2.length; simpa using this
        subst z
        exact h.val rs ⟨a2, ys, rfl, e5, e6⟩
      · subst q
        have z : j = [] := by have := e5.length; simpa using this
        subst z
        rw [List.append_nil] at h
        exact h.val rs ⟨a1, xs, rfl, e2, e3⟩
    · cases e
  · obtain ⟨as, bs, e1, e2, e3, rfl⟩ := bop_ls rfl e (fun i j q1 q2 => h1 ⟨i, j, q1, q2⟩) (fun i j q1 q2 => h2 ⟨i, j, q1, q2⟩) (fun i j q1 q2 => h3 ⟨i, j, q1, q2⟩)
    obtain ⟨a1, xs, rfl, q2, q3⟩ := lsOf_lst rs rv e1
    obtain ⟨a2, ys, rfl, q5, q6⟩ := lsOf_lst rs ru e2
    exact .inr (.inr (.inr ⟨a1, a2, xs, ys, rfl, rfl, q3, q6, by rw [← q2.length, ← q5.length]; exact e3, h.new_lv rs (q2.append q5)⟩))
theorem e_sub (ha : PE X a (tI X.K W fa)) (hb : PE X b (tI X.K W fb)) : PE X (.BinOp a .Sub b pos) (tI X.K W fun η S => (fa η S).bind fun x S => (fb η S).bind fun y S => .ofO (bop S .sub x y) S) := by
  refine e_op (op_sub (X := X)) ha hb fun p H S x y d v u Q rs rv ru e h => ?_
  cases x <;> cases y <;> first
    | (cases e; exact i_op0 rs rv ru h)
    | cases e
theorem e_mul (ha : PE X a (tI X.K W fa)) (hb : PE X b (tI X.K W fb)) : PE X (.BinOp a .Mult b pos) (tI X.K W fun η S => (fa η S).bind fun x S => (fb η S).bind fun y S => .ofO (bop S .mul x y) S) := by
  refine e_op ((op_mulW (X := X)).or op_rep) ha hb fun p H S x y d v u Q rs rv ru e h => ?_
  by_cases h1 : ∃ i j, x = .int i ∧ y = .int j
  · obtain ⟨i, j, rfl, rfl⟩ := h1
    simp only [bop] at e
    split at e
    · rename_i hm
      cases e
      exact .inl (i_op (C := CMulW) rs rv ru (show i.natAbs.log2 + j.natAbs.log2 < 1000000 from of_decide_eq_true hm) h)
    · cases e
  · have key : ∃ k as, y = .int k ∧ lsOf S x = some as ∧ (-(2 ^ 63) ≤ k ∧ k < 2 ^ 63 ∧ as.length * k.toNat ≤ sizeLine) ∧ d = .lv (List.replicate k.toNat as).flatten := by
      cases y with
      | int k =>
        have go : ∀ z : Option D, z = some d → (z = match lsOf S x with
            | some a => if -(2 ^ 63) ≤ k ∧ k < 2 ^ 63 ∧ a.length * k.toNat ≤ sizeLine then some (.lv (List.replicate k.toNat a).flatten) else none
            | _ => none) → ∃ k' as, D.int k = .int k' ∧ lsOf S x = some as ∧ (-(2 ^ 63) ≤ k' ∧ k' < 2 ^ 63 ∧ as.length * k'.toNat ≤ sizeLine) ∧ d = .lv (List.replicate k'.toNat as).flatten := fun z hz e => by
          rw [e] at hz
          split at hz
          · rename_i as e1
            split at hz
            · cases hz; exact ⟨k, as, rfl, e1, by assumption, rfl⟩
            · cases hz
          · cases hz
        refine go _ e ?_
        cases x <;> first
          | rfl
          | exact (h1 ⟨_, _, rfl, rfl⟩).elim
      | _ => cases x <;> cases e
    obtain ⟨k, as, rfl, e1, ⟨b1, b2, b3⟩, rfl⟩ := key
    cases ru
    obtain ⟨a1, xs, rfl, q2, q3⟩ := lsOf_lst rs rv e1
    exact .inr ⟨a1, k, xs, rfl, rfl, q3, b1, b2, by rw [← q2.length]; exact b3, h.new_lv rs (q2.rep _)⟩
theorem e_fdiv (ha : PE X a (tI X.K W fa)) (hb : PE X b (tI X.K W fb)) : PE X (.BinOp a .FloorDiv b pos) (tI X.K W fun η S => (fa η S).bind fun x S => (fb η S).bind fun y S => .ofO (bop S .fdiv x y) S) := by
  refine e_op ((op_fdivW (X := X)).or op_fdivN) ha hb fun p H S x y d v u Q rs rv ru e h => ?_
  cases x <;> cases y <;> first
    | cases e
    | (simp only [bop] at e
       split at e
       · rename_i hm
         cases e
         unfold divOk at hm
         rw [Bool.and_eq_true] at hm
         exact .inl (i_op (C := CDivW) rs rv ru ⟨of_decide_eq_true hm.1, of_decide_eq_true hm.2⟩ h)
       · split at e
         · rename_i hm
           cases e
           exact .inr (i_op (C := CDivN) (g := fun i j => i.fdiv j) rs rv ru ⟨by omega, hm.2⟩ h)
         · cases e)
theorem e_mod (ha : PE X a (tI X.K W fa)) (hb : PE X b (tI X.K W fb)) : PE X (.BinOp a .Mod b pos) (tI X.K W fun η S => (fa η S).bind fun x S => (fb η S).bind fun y S => .ofO (bop S .mod x y) S) := by
  refine e_op (op_mod (X := X)) ha hb fun p H S x y d v u Q rs rv ru e h => ?_
  cases x <;> cases y <;> first
    | cases e
    | (simp only [bop] at e
       split at e
       · rename_i hm
         cases e
         exact i_op (C := fun _ j => 0 < j) rs rv ru hm h
       · cases e)
theorem e_pow (ha : PE X a (tI X.K W fa)) (hb : PE X b (tI X.K W fb)) : PE X (.BinOp a .Pow b pos) (tI X.K W fun η S => (fa η S).bind fun x S => (fb η S).bind fun y S => .ofO (bop S .pow x y) S) := by
  refine e_op (op_pow (X := X)) ha hb fun p H S x y d v u Q rs rv ru e h => ?_
  cases x <;> cases y <;> first
    | cases e
    | (simp only [bop] at e
       split at e
       · rename_i hm
         cases e
         exact i_op (C := CPow) rs rv ru hm h
       · cases e)
theorem e_neg (ha : PE X a (tI X.K W fa)) : PE X (.UnaryOp .USub a pos) (tI X.K W fun η S => (fa η S).bind fun x S => match x with
    | .int i => .ok (.int (-i)) S
    | _ => .bad) := by
  refine PE.by (pe_un un_neg ha) fun σ H Q h => ?_
  obtain ⟨p, η, S, re, rs, h⟩ := h
  refine tI_of re rs h fun p1 H1 x S1 v e1 re1 rs1 rv h1 => ?_
  cases x with
  | int i => cases rv; exact ⟨i, rfl, h1.val rs1 rfl⟩
  | _ => exact False.elim h1

/-! ### truth -/
theorem truth_of {K : PySem.W.Frag} {p : List Addr} {H : Hp} {S : Store} {d : D} {v : V} {b : Bool} (rs : RS K p H S) (rv : RV K p H d v) (e : truth S d = some b) : TruV K v H b := by
  have seq : (items S d).map (fun ds => !ds.isEmpty) = some b → TruV K v H b := fun e => by
    obtain ⟨ds, e1, rfl⟩ := Option.map_eq_some_iff.mp e
    obtain ⟨a, xs, rfl, r, h⟩ := items_seq rs rv e1
    have el : ds.isEmpty = xs.isEmpty := by
      have := r.length
      cases ds <;> cases xs <;> simp_all
    rcases h with h | h
    · exact .inl ⟨xs, h, by rw [el]⟩
    · exact .inr (.inl ⟨xs, h, by rw [el]⟩)
  cases d with
  | non => cases rv; cases e; exact rfl
  | bl b => cases rv; cases e; exact rfl
  | int i => cases rv; cases e; exact rfl
  | str x =>
    cases rv
    simp only [truth] at e
    split at e
    · cases e; exact ⟨by assumption, rfl⟩
    · cases e
  | tup ds => exact seq e
  | lv ds => exact seq e
  | fz ds => exact seq e
  | lo n => exact seq e
  | dc => exact seq e
theorem e_not (ha : PE X a (tI X.K W fa)) : PE X (.UnaryOp .Not a pos) (tI X.K W fun η S => (fa η S).bind fun x S => .ofO ((truth S x).map fun b => .bl (!b)) S) := by
  refine PE.by (pe_notT ha) fun σ H Q h => ?_
  obtain ⟨p, η, S, re, rs, h⟩ := h
  refine tI_of re rs h fun p1 H1 x S1 v e1 re1 rs1 rv h1 => ?_
  cases q : truth S1 x with
  | none => rw [q] at h1; exact False.elim h1
  | some b =>
    rw [q] at h1
    exact ⟨b, truth_of rs1 rv q, Good.val (d := .bl (!b)) h1 rs1 rfl⟩
end
end Py

set_option Elab.async false
set_option linter.all false
set_option maxRecDepth 100000
set_option maxHeartbeats 4000000
/-! Comparisons, tests, displays, subscripts. -/
namespace Py
open PySem PySem.Spec PyProof.Rows L2
section
variable {X : Cx} {W : XD} {a b c : Expr} {fa fb fc : Sl → Store → Res D} {pos : Pos} {k : Nat}

/-- what a comparison asks of its operator -/
def CmpR (X : Cx) (W : XD) (o : COp) (op : CmpOp) (r : R2) : Prop := OpR X (compareOp op) r ∧ (∀ (p : List Addr) (H : Hp) (S : Store) (x y : D) (t : Bool) (v u : V) (Q : VK), RS X.K p H S → RV X.K p H x v → RV X.K p H y u → cop S o x y = some t → Q (.bl t) H → r v u H Q)
theorem c_eq (cf : Cf X k) : CmpR X W .eq .Eq (rEqD X.K) := by
  refine ⟨op_eqD cf.room.units, fun p H S x y t v u Q rs rv ru e h => ?_⟩
  simp only [cop, eqP] at e
  split at e
  · rename_i d1 d2 e1 e2
    split at e
    · rename_i hs
      rw [Bool.and_eq_true] at hs
      cases e
      exact ⟨d1, d2, deref_rv rs rv e1, deref_rv rs ru e2, hs.1, hs.2, h⟩
    · cases e
  · cases e
theorem c_ne (cf : Cf X k) : CmpR X W .ne .NotEq (rNeD X.K) := by
  refine ⟨op_neD cf.room.units, fun p H S x y t v u Q rs rv ru e h => ?_⟩
  simp only [cop, eqP, Option.map_eq_some_iff] at e
  obtain ⟨t', e, rfl⟩ := e
  split at e
  · rename_i d1 d2 e1 e2
    split at e
    · rename_i hs
      rw [Bool.and_eq_true] at hs
      cases e
      exact ⟨d1, d2, deref_rv rs rv e1, deref_rv rs ru e2, hs.1, hs.2, h⟩
    · cases e
  · cases e
theorem c_lt : CmpR X W .lt .Lt (rI0 fun i j => .bl (decide (i < j))) := by
  refine ⟨op_lt, fun p H S x y t v u Q rs rv ru e h => ?_⟩
  cases x <;> cases y <;> first
    | (cases e; cases rv; cases ru; exact ⟨_, _, rfl, rfl, h⟩)
    | (cases e; done)
theorem c_le : CmpR X W .le .LtE (rI0 fun i j => .bl (decide (i ≤ j))) := by
  refine ⟨op_le, fun p H S x y t v u Q rs rv ru e h => ?_⟩
  cases x <;> cases y <;> first
    | (cases e; cases rv; cases ru; exact ⟨_, _, rfl, rfl, h⟩)
    | (cases e; done)
theorem c_gt : CmpR X W .gt .Gt (rI0 fun i j => .bl (decide (j < i))) := by
  refine ⟨op_gt, fun p H S x y t v u Q rs rv ru e h => ?_⟩
  cases x <;> cases y <;> first
    | (cases e; cases rv; cases ru; exact ⟨_, _, rfl, rfl, h⟩)
    | (cases e; done)
theorem c_ge : CmpR X W .ge .GtE (rI0 fun i j => .bl (decide (j ≤ i))) := by
  refine ⟨op_ge, fun p H S x y t v u Q rs rv ru e h => ?_⟩
  cases x <;> cases y <;> first
    | (cases e; cases rv; cases ru; exact ⟨_, _, rfl, rfl, h⟩)
    | (cases e; done)
theorem flat_rv {K : PySem.W.Frag} {p : List Addr} {H : Hp} {d : D} {v : V} (f : flatD d = true) (r : RV K p H d v) : flatV v = true ∧ ∀ (e : D) (u : V), RV K p H e u → flatD e = true → eqV u v = eqF e d := by
  cases d <;> first
    | (cases r
       refine ⟨rfl, fun e u ru fe => ?_⟩
       cases e <;> first
         | (cases ru; rfl)
         | (cases fe; done))
    | (cases f; done)
theorem flat_rvs {K : PySem.W.Frag} {p : List Addr} {H : Hp} {d : D} {v : V} (f : flatD d = true) (r : RV K p H d v) : ∀ {ds : List D} {vs : List V}, RVs K p H ds vs → ds.all flatD = true → vs.all flatV = true ∧ vs.any (fun y => eqV y v) = ds.any fun z => eqF z d
  | [], _, h, _ => by cases h; exact ⟨rfl, rfl⟩
  | x :: ds, _, h, g => by
    obtain ⟨w, t, rfl, h2, h3⟩ := h
    rw [List.all_cons, Bool.and_eq_true] at g
    obtain ⟨i1, i2⟩ := flat_rvs f r h3 g.2
    rw [List.all_cons, List.any_cons, List.any_cons, (flat_rv g.1 h2).1, i1, (flat_rv f r).2 x w h2 g.1, i2]
    exact ⟨rfl, rfl⟩
theorem valD_some : ∀ (kvs : List (Int × D)) (i : Int), (valD kvs i).isSome = (kvs.map fun x => (Sum.inl x.1 : Key)).any fun k => decide (k = Sum.inl i)
  | [], _ => rfl
  | x :: r, i => by
    rw [List.map_cons, List.any_cons, ← valD_some r i]
    show (if x.1 = i then some x.2 else valD r i).isSome = _
    by_cases c : x.1 = i
    · rw [if_pos c, c, decide_eq_true rfl]; rfl
    · rw [if_neg c, decide_eq_false (fun e => c (Sum.inl.inj e)), Bool.false_or]
theorem valV_some : ∀ (kws : List (Key × V)) (k : Key), (valV kws k).isSome = (kws.map (·.1)).any fun q => decide (q = k)
  | [], _ => rfl
  | x :: r, k => by
    rw [List.map_cons, List.any_cons, ← valV_some r k]
    unfold valV
    by_cases c : x.1 = k
    · rw [List.find?_cons_of_pos (by simpa using c), decide_eq_true c]; rfl
    · rw [List.find?_cons_of_neg (by simpa using c), decide_eq_false c, Bool.false_or]
theorem rk_some {K : PySem.W.Frag} {p : List Addr} {H : Hp} {kvs : List (Int × D)} {kws : List (Key × V)} (r : RKs K p H kvs kws) (i : Int) : (valV kws (Sum.inl i)).isSome = (valD kvs i).isSome := by
  rw [valV_some, valD_some, r.1]
def rInDk (neg : Bool) : R2 := fun x y H Q => ∃ a ov, y = .ref a ∧ DGet H a x ov ∧ Q (.bl (if neg then !ov.isSome else ov.isSome)) H
theorem op_inDk (hu : X.A.units + 1 < cLine) : OpR X (compareOp .In) (rInDk false) := by
  intro pins s σ H x y v u Q I rx ry h
  obtain ⟨a, ov, rfl, g, q⟩ := h
  obtain rfl : u = Value.ref a := ry
  exact d_in hu I g rx fun s3 I3 => ⟨.bl ov.isSome, H, I3, rfl, q⟩
theorem op_notInDk (hu : X.A.units + 1 < cLine) : OpR X (compareOp .NotIn) (rInDk true) := by
  intro pins s σ H x y v u Q I rx ry h
  obtain ⟨a, ov, rfl, g, q⟩ := h
  obtain rfl : u = Value.ref a := ry
  exact d_notIn hu I g rx fun s3 I3 => ⟨.bl (!ov.isSome), H, I3, rfl, q⟩
theorem inD_of {K : PySem.W.Frag} {p : List Addr} {H : Hp} {S : Store} {x y : D} {v u : V} {t : Bool} (rs : RS K p H S) (rv : RV K p H x v) (ru : RV K p H y u) (e : inD S x y = some t) :
    (∃ a xs, u = .ref a ∧ (SqL K H a xs ∨ SqT K H a xs) ∧ flatV v = true ∧ xs.all flatV = true ∧ inV v xs = t) ∨
    (∃ d ds, Dp K H v d ∧ Dp K H u (.list ds) ∧ SeqAt.shaped d = true ∧ SeqAt.shaped (.list ds) = true ∧ (ds.any fun z => PyData.eqv z d) = t) ∨
    (∃ a ov, u = .ref a ∧ DGet H a v ov ∧ ov.isSome = t) := by
  unfold inD at e
  split at e
  · rename_i ds ei
    split at e
    · rename_i hf
      rw [Bool.and_eq_true] at hf
      cases e
      obtain ⟨a, xs, rfl, r, h⟩ := items_seq rs ru ei
      obtain ⟨g1, g2⟩ := flat_rvs hf.1 rv r hf.2
      exact .inl ⟨a, xs, rfl, h, (flat_rv hf.1 rv).1, g1, g2⟩
    · have list : ∀ q qs, toP x = some q → toPs ds = some qs → (∃ es, y = .lv es) ∨ (∃ n, y = .lo n) → (if (SeqAt.shaped q && SeqAt.shaped (.list qs)) = true then some (qs.any fun z => PyData.eqv z q) else none) = some t →
        (∃ d ds, Dp K H v d ∧ Dp K H u (.list ds) ∧ SeqAt.shaped d = true ∧ SeqAt.shaped (.list ds) = true ∧ (ds.any fun z => PyData.eqv z d) = t) := fun q qs e1 e2 hy e => by
        split at e
        · rename_i hs
          rw [Bool.and_eq_true] at hs
          cases e
          refine ⟨q, qs, toP_Dp x v q rv e1, ?_, hs.1, hs.2, rfl⟩
          rcases hy with ⟨es, rfl⟩ | ⟨n, rfl⟩
          · cases (Option.some.inj ei)
            exact deref_rv (d := .lv ds) (S := S) rs ru (by simp only [deref, toP, e2, Option.map_some])
          · have ed : deref S (.lo n) = .lv ds := by
              simp only [items] at ei
              simp only [deref]
              split at ei
              · rename_i ds' z
                cases ei
                first | rfl | rw [z]
              · cases ei
            exact deref_rv (d := .lo n) (S := S) rs ru (by rw [ed]; simp only [toP, e2, Option.map_some])
        · cases e
      split at e
      · rename_i q qs es e1 e2
        exact .inr (.inl (list _ _ e1 e2 (.inl ⟨_, rfl⟩) e))
      · rename_i q qs n e1 e2
        exact .inr (.inl (list _ _ e1 e2 (.inr ⟨_, rfl⟩) e))
      · cases e
  · split at e
    · rename_i kvs i hd
      cases e
      unfold dctOf at hd
      split at hd
      · rename_i n
        split at hd
        · rename_i kvs' z
          cases hd
          obtain ⟨a, h1, rfl⟩ := ru
          obtain ⟨kws, z2, r⟩ := rs.cel _ a _ h1 z
          cases rv
          exact .inr (.inr ⟨a, _, rfl, DGet.k (k := Sum.inl i) z2, rk_some r i⟩)
        · cases hd
      · cases hd
    · cases e
theorem Cf.u65 (cf : Cf X k) : X.A.units + 65 < cLine := by have := cf.room.un; omega
theorem c_in (cf : Cf X k) : CmpR X W .inn .In (fun x y H Q => (rIn X.K false x y H Q ∨ rInD X.K x y H Q) ∨ rInDk false x y H Q) := by
  refine ⟨(op_in_seq.or (op_inD cf.u65)).or (op_inDk (by have := cf.u65; omega)), fun p H S x y t v u Q rs rv ru e h => ?_⟩
  rcases inD_of rs rv ru e with ⟨a, xs, rfl, h1, h2, h3, rfl⟩ | ⟨d, ds, h1, h2, h3, h4, rfl⟩ | ⟨a, ov, rfl, h1, rfl⟩
  · exact .inl (.inl ⟨a, xs, rfl, h1, h2, h3, h⟩)
  · exact .inl (.inr ⟨d, ds, h1, h2, h3, h4, h⟩)
  · exact .inr ⟨a, ov, rfl, h1, h⟩
theorem c_notin (cf : Cf X k) : CmpR X W .notin .NotIn (fun x y H Q => (rIn X.K true x y H Q ∨ rNotInD X.K x y H Q) ∨ rInDk true x y H Q) := by
  refine ⟨(op_notIn_seq.or (op_notInD cf.u65)).or (op_notInDk (by have := cf.u65; omega)), fun p H S x y t v u Q rs rv ru e h => ?_⟩
  simp only [cop, Option.map_eq_some_iff] at e
  obtain ⟨t', e, rfl⟩ := e
  rcases inD_of rs rv ru e with ⟨a, xs, rfl, h1, h2, h3, rfl⟩ | ⟨d, ds, h1, h2, h3, h4, rfl⟩ | ⟨a, ov, rfl, h1, rfl⟩
  · exact .inl (.inl ⟨a, xs, rfl, h1, h2, h3, h⟩)
  · exact .inl (.inr ⟨d, ds, h1, h2, h3, h4, h⟩)
  · exact .inr ⟨a, ov, rfl, h1, h⟩
theorem rv_none {K : PySem.W.Frag} {p : List Addr} {H : Hp} {x : D} {v : V} (r : RV K p H x v) : (x = .non ∧ v = .non) ∨ (x ≠ .non ∧ v ≠ .non) := by
  cases x with
  | non => cases r; exact .inl ⟨rfl, rfl⟩
  | bl _ => cases r; exact .inr ⟨(fun z => nomatch z), (fun z => nomatch z)⟩
  | int _ => cases r; exact .inr ⟨(fun z => nomatch z), (fun z => nomatch z)⟩
  | str _ => cases r; exact .inr ⟨(fun z => nomatch z), (fun z => nomatch z)⟩
  | tup _ => obtain ⟨_, _, rfl, _⟩ := r; exact .inr ⟨(fun z => nomatch z), (fun z => nomatch z)⟩
  | lv _ => obtain ⟨_, _, rfl, _⟩ := r; exact .inr ⟨(fun z => nomatch z), (fun z => nomatch z)⟩
  | fz _ => obtain ⟨_, _, rfl, _⟩ := r; exact .inr ⟨(fun z => nomatch z), (fun z => nomatch z)⟩
  | lo _ => obtain ⟨_, _, rfl⟩ := r; exact .inr ⟨(fun z => nomatch z), (fun z => nomatch z)⟩
  | dc => obtain ⟨_, rfl, _⟩ := r; exact .inr ⟨(fun z => nomatch z), (fun z => nomatch z)⟩
theorem cop_is {S : Store} {x y : D} {t : Bool} (e : cop S .isn x y = some t) : y = .non ∧ ((x = .non ∧ t = true) ∨ (x ≠ .non ∧ t = false)) := by
  cases y <;> cases x <;> first
    | (cases e; exact ⟨rfl, .inl ⟨rfl, rfl⟩⟩)
    | (cases e; exact ⟨rfl, .inr ⟨(fun z => nomatch z), rfl⟩⟩)
    | (cases e; done)
theorem cop_isnot {S : Store} {x y : D} {t : Bool} (e : cop S .isnot x y = some t) : y = .non ∧ ((x = .non ∧ t = false) ∨ (x ≠ .non ∧ t = true)) := by
  cases y <;> cases x <;> first
    | (cases e; exact ⟨rfl, .inl ⟨rfl, rfl⟩⟩)
    | (cases e; exact ⟨rfl, .inr ⟨(fun z => nomatch z), rfl⟩⟩)
    | (cases e; done)
theorem c_is : CmpR X W .isn .Is (fun x y H Q => y = .non ∧ Q (.bl (decide (x = .non))) H) := by
  refine ⟨op_isN, fun p H S x y t v u Q rs rv ru e h => ?_⟩
  obtain ⟨rfl, z⟩ := cop_is e
  cases ru
  refine ⟨rfl, ?_⟩
  rcases z with ⟨rfl, rfl⟩ | ⟨z, rfl⟩
  · cases rv; exact h
  · rcases rv_none rv with ⟨q, _⟩ | ⟨_, q⟩
    · exact (z q).elim
    · rw [decide_eq_false q]; exact h
theorem c_isnot : CmpR X W .isnot .IsNot (fun x y H Q => y = .non ∧ Q (.bl (!decide (x = .non))) H) := by
  refine ⟨op_notN, fun p H S x y t v u Q rs rv ru e h => ?_⟩
  obtain ⟨rfl, z⟩ := cop_isnot e
  cases ru
  refine ⟨rfl, ?_⟩
  rcases z with ⟨rfl, rfl⟩ | ⟨z, rfl⟩
  · cases rv; exact h
  · rcases rv_none rv with ⟨q, _⟩ | ⟨_, q⟩
    · exact (z q).elim
    · rw [decide_eq_false q]; exact h
def opOf : COp → CmpOp
  | .eq => .Eq | .ne => .NotEq | .lt => .Lt | .le => .LtE | .gt => .Gt | .ge => .GtE | .inn => .In | .notin => .NotIn | .isn => .Is | .isnot => .IsNot
theorem c_any (cf : Cf X k) (o : COp) : ∃ r, CmpR X W o (opOf o) r := by
  cases o
  · exact ⟨_, c_eq cf⟩
  · exact ⟨_, c_ne cf⟩
  · exact ⟨_, c_lt⟩
  · exact ⟨_, c_le⟩
  · exact ⟨_, c_gt⟩
  · exact ⟨_, c_ge⟩
  · exact ⟨_, c_in cf⟩
  · exact ⟨_, c_notin cf⟩
  · exact ⟨_, c_is⟩
  · exact ⟨_, c_isnot⟩
theorem e_cmp (cf : Cf X k) (o : COp) (ha : PE X a (tI X.K W fa)) (hb : PE X b (tI X.K W fb)) (hm : behindInMarks (opOf o) b = false) :
    PE X (.Compare a [opOf o] [b] pos) (tI X.K W fun η S => (fa η S).bind fun x S => (fb η S).bind fun y S => .ofO ((cop S o x y).map .bl) S) := by
  obtain ⟨r, ho, hr⟩ := c_any (W := W) cf o
  refine PE.by (pe_cmpR ho ha hb hm) fun σ H Q h => ?_
  obtain ⟨p, η, S, re, rs, h⟩ := h
  refine tI_of re rs h fun p1 H1 x S1 v e1 re1 rs1 rv h1 => ?_
  refine tI_of re1 rs1 h1 fun p2 H2 y S2 u e2 re2 rs2 ru h2 => ?_
  cases q : cop S2 o x y with
  | none => rw [q] at h2; exact False.elim h2
  | some t =>
    rw [q] at h2
    exact hr p2 H2 S2 x y t v u Q rs2 (rv.ext e2) ru q (Good.val (d := .bl t) h2 rs2 rfl)
theorem e_chain (cf : Cf X k) (o o' : COp) (ha : PE X a (tI X.K W fa)) (hb : PE X b (tI X.K W fb)) (hc : PE X c (tI X.K W fc)) (hm : lastMarks [opOf o, opOf o'] [b, c] = false) :
    PE X (.Compare a [opOf o, opOf o'] [b, c] pos) (tI X.K W fun η S => (fa η S).bind fun x S => (fb η S).bind fun y S => (Res.ofO (cop S o x y) S).bind fun t S =>
      if t then (fc η S).bind fun z S => .ofO ((cop S o' y z).map .bl) S else .ok (.bl false) S) := by
  obtain ⟨r, ho, hr⟩ := c_any (W := W) cf o
  obtain ⟨r', ho', hr'⟩ := c_any (W := W) cf o'
  refine PE.by (pe_chain ho ho' ha hb hc hm) fun σ H Q h => ?_
  obtain ⟨p, η, S, re, rs, h⟩ := h
  refine tI_of re rs h fun p1 H1 x S1 v e1 re1 rs1 rv h1 => ?_
  refine tI_of re1 rs1 h1 fun p2 H2 y S2 u e2 re2 rs2 ru h2 => ?_
  cases q : cop S2 o x y with
  | none => rw [q] at h2; exact False.elim h2
  | some t =>
    rw [q] at h2
    refine hr p2 H2 S2 x y t v u _ rs2 (rv.ext e2) ru q ⟨t, rfl, ?_⟩
    cases t with
    | false =>
      have h2 : Good X.K p2 H2 (.ok (D.bl false) S2) _ W := h2
      first | exact h2.val rs2 rfl | (rw [if_neg Bool.false_ne_true]; exact h2.val rs2 rfl)
    | true =>
      have h2 : Good X.K p2 H2 ((fc η S2).bind fun z S => .ofO ((cop S o' y z).map D.bl) S) _ W := h2
      have fin : tI X.K W fc σ H2 fun z H3 => r' u z H3 Q := tI_of re2 rs2 h2 fun p3 H3 z S3 w e3 re3 rs3 rw' h3 => by
        cases q' : cop S3 o' y z with
        | none => rw [q'] at h3; exact False.elim h3
        | some t =>
          rw [q'] at h3
          exact hr' p3 H3 S3 y z t u w Q rs3 (ru.ext e3) rw' q' (Good.val (d := .bl t) h3 rs3 rfl)
      first | exact fin | (rw [if_pos rfl]; exact fin)
end
end Py

set_option Elab.async false
set_option linter.all false
set_option maxRecDepth 100000
set_option maxHeartbeats 4000000
/-! Chains of comparisons of any length. -/
namespace Py
open PySem PySem.Spec PyProof.Rows L2
/-- the links of a chain behind a value y -/
structure PCh (X : Cx) (ops : List CmpOp) (rs : List Expr) (t : V → TE) : Prop where
  run : ∀ (pos : Pos) (pins : List (Addr × Obj)) (s : Shared) (σ : L2.St) (H : Hp) (Q : VK) (y : V) (u : Value), Inv X pins σ H s → RelV y u → t y σ H Q → wpAny (model X.prog X.w) X.A (compareChain pos u ops (evalEach rs X.env)) (EP X pins σ Q) X.xe s
  tst : ∀ (pos : Pos) (pins : List (Addr × Obj)) (s : Shared) (σ : L2.St) (H : Hp) (Q : Bool → Hp → Prop) (y : V) (u : Value), Inv X pins σ H s → RelV y u → t y σ H (fun x H' => ∃ k, x = .bl k ∧ Q k H') → wpAny (model X.prog X.w) X.A (testChain pos u ops (evalEach rs X.env)) (fun k s' => ∃ H', Inv X pins σ H' s' ∧ Q k H') X.xe s
def tLk (K : PySem.W.Frag) (W : XD) (f : D → Sl → Store → Res D) : V → TE := fun y σ H Q => ∃ p η S d, RE K p H η σ ∧ RS K p H S ∧ RV K p H d y ∧ Good K p H (f d η S) (fun p' H' d _ => ∀ v, RV K p' H' d v → Q v H') W
section
variable {X : Cx} {k : Nat} {W : XD}
theorem ch_last (cf : Cf X k) (o : COp) {b : Expr} {fb : Sl → Store → Res D} (hb : PE X b (tI X.K W fb)) : PCh X [opOf o] [b] (tLk X.K W fun y η S => (fb η S).bind fun z S => .ofO ((cop S o y z).map .bl) S) := by
  obtain ⟨r, ho, hr⟩ := c_any (W := W) cf o
  have key : ∀ (σ : L2.St) (H : Hp) (Q : VK) (y : V), tLk X.K W (fun y η S => (fb η S).bind fun z S => .ofO ((cop S o y z).map .bl) S) y σ H Q → tI X.K W fb σ H fun z H2 => r y z H2 Q := by
    rintro σ H Q y ⟨p, η, S, d, re, rs, rv, h⟩
    refine tI_of re rs h fun p1 H1 z S1 u e1 re1 rs1 ru h1 => ?_
    cases q : cop S1 o d z with
    | none => rw [q] at h1; exact False.elim h1
    | some t =>
      rw [q] at h1
      exact hr p1 H1 S1 d z t y u Q rs1 (rv.ext e1) ru q (Good.val (d := .bl t) h1 rs1 rfl)
  constructor
  · intro pos pins s σ H Q y u I ry h
    exact chain_last (thn (hb.run pins s σ H _ I (key σ H Q y h)) fun w' s4 ⟨z', H4, I4, r4, q4⟩ => ho pins s4 σ H4 y z' u w' Q I4 ry r4 q4)
  · intro pos pins s σ H Q y u I ry h
    refine test_last (thn (hb.run pins s σ H _ I (key σ H _ y h)) fun w' s4 ⟨z', H4, I4, r4, q4⟩ => thn (ho pins s4 σ H4 y z' u w' _ I4 ry r4 q4) fun d' s5 ⟨z2, H5, I5, r5, k2, e2, q5⟩ => ?_)
    subst e2
    cases r5
    exact wpAny_truthy_bool ⟨H5, I5, q5⟩
theorem ch_link (cf : Cf X k) (o : COp) {b b2 : Expr} {op2 : CmpOp} {ops : List CmpOp} {rs : List Expr} {fb : Sl → Store → Res D} {g : D → Sl → Store → Res D} (hb : PE X b (tI X.K W fb)) (hr0 : PCh X (op2 :: ops) (b2 :: rs) (tLk X.K W g)) :
    PCh X (opOf o :: op2 :: ops) (b :: b2 :: rs) (tLk X.K W fun y η S => (fb η S).bind fun z S => (Res.ofO (cop S o y z) S).bind fun t S => if t then g z η S else .ok (.bl false) S) := by
  obtain ⟨r, ho, hr⟩ := c_any (W := W) cf o
  have key : ∀ (σ : L2.St) (H : Hp) (Q : VK) (y : V), tLk X.K W (fun y η S => (fb η S).bind fun z S => (Res.ofO (cop S o y z) S).bind fun t S => if t then g z η S else .ok (.bl false) S) y σ H Q →
      tI X.K W fb σ H fun z H2 => r y z H2 fun x H3 => ∃ k, x = .bl k ∧ (if k = true then tLk X.K W g z σ H3 Q else Q (.bl false) H3) := by
    rintro σ H Q y ⟨p, η, S, d, re, rs, rv, h⟩
    refine tI_of re rs h fun p1 H1 z S1 u e1 re1 rs1 ru h1 => ?_
    cases q : cop S1 o d z with
    | none => rw [q] at h1; exact False.elim h1
    | some t =>
      rw [q] at h1
      refine hr p1 H1 S1 d z t y u _ rs1 (rv.ext e1) ru q ⟨t, rfl, ?_⟩
      cases t with
      | false =>
        rw [if_neg Bool.false_ne_true]
        exact Good.val (d := .bl false) h1 rs1 rfl
      | true =>
        rw [if_pos rfl]
        exact ⟨p1, η, S1, z, re1, rs1, ru, h1⟩
  constructor
  · intro pos pins s σ H Q y u I ry h
    refine chain_link (thn (hb.run pins s σ H _ I (key σ H Q y h)) fun w' s2 ⟨z', H2, I2, r2, q2⟩ => thn (ho pins s2 σ H2 y z' u w' _ I2 ry r2 q2) fun d s3 ⟨z, H3, I3, r3, kk, e, q3⟩ => ?_)
    subst e
    cases r3
    refine wpAny_truthy_bool ?_
    cases kk with
    | false => exact ite_ff ⟨.bl false, H3, I3, rfl, q3⟩
    | true => exact ite_tt (hr0.run pos pins s3 σ H3 Q z' w' I3 r2 q3)
  · intro pos pins s σ H Q y u I ry h
    refine test_link (thn (hb.run pins s σ H _ I (key σ H _ y h)) fun w' s2 ⟨z', H2, I2, r2, q2⟩ => thn (ho pins s2 σ H2 y z' u w' _ I2 ry r2 q2) fun d s3 ⟨z, H3, I3, r3, kk, e, q3⟩ => ?_)
    subst e
    cases r3
    refine wpAny_truthy_bool ?_
    cases kk with
    | false =>
      obtain ⟨k', e', q'⟩ := q3
      cases e'
      exact ite_ff ⟨H3, I3, q'⟩
    | true => exact ite_tt (hr0.tst pos pins s3 σ H3 Q z' w' I3 r2 q3)
theorem e_chn {a b1 b2 : Expr} {o1 o2 : CmpOp} {ops : List CmpOp} {rs : List Expr} {pos : Pos} {fa : Sl → Store → Res D} {g : D → Sl → Store → Res D} (ha : PE X a (tI X.K W fa)) (hr : PCh X (o1 :: o2 :: ops) (b1 :: b2 :: rs) (tLk X.K W g)) (hm : lastMarks (o1 :: o2 :: ops) (b1 :: b2 :: rs) = false) :
    PE X (.Compare a (o1 :: o2 :: ops) (b1 :: b2 :: rs) pos) (tI X.K W fun η S => (fa η S).bind fun x S => g x η S) := by
  refine ⟨fun pins s σ H Q I h => ?_⟩
  obtain ⟨p, η, S, re, rs, h⟩ := h
  refine Compare_chain (thn (ha.run pins s σ H _ I (tI_of re rs h (Q := fun v H' => tLk X.K W g v σ H' Q) fun p1 H1 d S1 v e1 re1 rs1 rv h1 => ⟨p1, η, S1, d, re1, rs1, rv, h1⟩)) fun v s1 ⟨x, H1, I1, r1, q1⟩ => ?_) hm
  exact hr.run pos pins s1 σ H1 Q x v I1 r1 q1
theorem b_chn {a b1 b2 : Expr} {o1 o2 : CmpOp} {ops : List CmpOp} {rs : List Expr} {pos : Pos} {fa : Sl → Store → Res D} {g : D → Sl → Store → Res D} (ha : PE X a (tI X.K W fa)) (hr : PCh X (o1 :: o2 :: ops) (b1 :: b2 :: rs) (tLk X.K W g)) (hm : lastMarks (o1 :: o2 :: ops) (b1 :: b2 :: rs) = false) :
    PT X (.Compare a (o1 :: o2 :: ops) (b1 :: b2 :: rs) pos) (tT X.K W fun η S => (fa η S).bind fun x S => (g x η S).bind fun d S => match d with
      | .bl t => .ok t S
      | _ => .bad) := by
  refine ⟨fun pins s σ H Q I h => ?_⟩
  obtain ⟨p, η, S, re, rs, h⟩ := h
  refine isTrue_chain (thn (ha.run pins s σ H _ I (tI_of re rs h (Q := fun v H' => tLk X.K W g v σ H' fun x H' => ∃ k, x = .bl k ∧ Q k H') fun p1 H1 d S1 v e1 re1 rs1 rv h1 => ⟨p1, η, S1, d, re1, rs1, rv, (Good.bind h1).imp fun p2 H2 d2 S2 e2 rs2 h2 => ?_⟩)) fun v s1 ⟨x, H1, I1, r1, q1⟩ => ?_) hm
  · intro v2 rv2
    cases d2 with
    | bl t => exact ⟨t, rv2, Good.here (a := t) h2 rs2⟩
    | _ => exact False.elim h2
  · exact hr.tst pos pins s1 σ H1 Q x v I1 r1 q1
end
end Py

set_option Elab.async false
set_option linter.all false
set_option maxRecDepth 100000
set_option maxHeartbeats 4000000
/-! Tests, and/or, displays, subscripts, slices. -/
namespace Py
open PySem PySem.Spec PyProof.Rows L2
section
variable {X : Cx} {W : XD} {a b c : Expr} {rest : List Expr} {fa fb fc : Sl → Store → Res D} {ga gb gc : Sl → Store → Res Bool} {pos : Pos} {k : Nat}

theorem e_and (ha : PE X a (tI X.K W fa)) (hb : PE X (.BoolOp .And (b :: rest) pos) (tI X.K W fb)) : PE X (.BoolOp .And (a :: b :: rest) pos) (tI X.K W fun η S => (fa η S).bind fun x S => match x with
    | .bl c => if c then fb η S else .ok (.bl false) S
    | _ => .bad) := by
  refine PE.by (pe_and ha hb) fun σ H Q h => ?_
  obtain ⟨p, η, S, re, rs, h⟩ := h
  refine tI_of re rs h fun p1 H1 x S1 v e1 re1 rs1 rv h1 => ?_
  cases x with
  | bl c =>
    cases rv
    refine ⟨c, rfl, ?_⟩
    cases c with
    | true => exact ⟨p1, η, S1, re1, rs1, h1⟩
    | false => exact Good.val (d := .bl false) h1 rs1 rfl
  | _ => exact False.elim h1
theorem e_or (ha : PE X a (tI X.K W fa)) (hb : PE X (.BoolOp .Or (b :: rest) pos) (tI X.K W fb)) : PE X (.BoolOp .Or (a :: b :: rest) pos) (tI X.K W fun η S => (fa η S).bind fun x S => match x with
    | .bl c => if c then .ok (.bl true) S else fb η S
    | _ => .bad) := by
  refine PE.by (pe_or ha hb) fun σ H Q h => ?_
  obtain ⟨p, η, S, re, rs, h⟩ := h
  refine tI_of re rs h fun p1 H1 x S1 v e1 re1 rs1 rv h1 => ?_
  cases x with
  | bl c =>
    cases rv
    refine ⟨c, rfl, ?_⟩
    cases c with
    | false => exact ⟨p1, η, S1, re1, rs1, h1⟩
    | true => exact Good.val (d := .bl true) h1 rs1 rfl
  | _ => exact False.elim h1
theorem e_ifx (hc : PT X c (tT X.K W gc)) (ha : PE X a (tI X.K W fa)) (hb : PE X b (tI X.K W fb)) : PE X (.IfExp c a b pos) (tI X.K W fun η S => (gc η S).bind fun t S => if t then fa η S else fb η S) := by
  refine PE.by (pe_ifExp hc ha hb) fun σ H Q h => ?_
  obtain ⟨p, η, S, re, rs, h⟩ := h
  refine tT_of re rs h fun p1 H1 t S1 e1 re1 rs1 h1 => ?_
  cases t with
  | true => exact ⟨p1, η, S1, re1, rs1, h1⟩
  | false => exact ⟨p1, η, S1, re1, rs1, h1⟩

/-! ### tests -/
theorem b_val (ha : PE X a (tI X.K W fa)) (he : ∀ whole, isTrue a X.env whole = (do let v ← whole; standAt a.pos; holding [v] (truthy v))) : PT X a (tT X.K W fun η S => (fa η S).bind fun d S => .ofO (truth S d) S) := by
  refine PT.by (pt_truth ha he) fun σ H Q h => ?_
  obtain ⟨p, η, S, re, rs, h⟩ := h
  refine tI_of re rs h fun p1 H1 x S1 v e1 re1 rs1 rv h1 => ?_
  obtain ⟨b, q, h2⟩ := h1.ofO rs1
  exact ⟨b, truth_of rs1 rv q, h2⟩
theorem Res.bind_assoc {α β γ : Type} (r : Res α) (f : α → Store → Res β) (g : β → Store → Res γ) : (r.bind f).bind g = r.bind fun a S => (f a S).bind g := by cases r <;> rfl
theorem truth_bl {S : Store} {b t : Bool} (e : truth S (.bl b) = some t) : b = t := Option.some.inj e
theorem b_cmp (cf : Cf X k) (o : COp) (ha : PE X a (tI X.K W fa)) (hb : PE X b (tI X.K W fb)) (hm : behindInMarks (opOf o) b = false) :
    PT X (.Compare a [opOf o] [b] pos) (tT X.K W fun η S => ((fa η S).bind fun x S => (fb η S).bind fun y S => .ofO ((cop S o x y).map .bl) S).bind fun d S => .ofO (truth S d) S) := by
  obtain ⟨r, ho, hr⟩ := c_any (W := W) cf o
  refine PT.by (pt_cmpR ho ha hb hm) fun σ H Q h => ?_
  obtain ⟨p, η, S, re, rs, h⟩ := h
  have h : Good X.K p H _ _ W := h
  simp only [Res.bind_assoc] at h
  refine tI_of re rs h fun p1 H1 x S1 v e1 re1 rs1 rv h1 => ?_
  refine tI_of re1 rs1 h1 fun p2 H2 y S2 u e2 re2 rs2 ru h2 => ?_
  cases q : cop S2 o x y with
  | none => rw [q] at h2; exact False.elim h2
  | some t =>
    rw [q] at h2
    exact hr p2 H2 S2 x y t v u _ rs2 (rv.ext e2) ru q ⟨t, rfl, Good.here (a := t) h2 rs2⟩
/-- an expression whose value is a bool whenever it is let -/
theorem b_chain (cf : Cf X k) (o o' : COp) (ha : PE X a (tI X.K W fa)) (hb : PE X b (tI X.K W fb)) (hc : PE X c (tI X.K W fc)) (hm : lastMarks [opOf o, opOf o'] [b, c] = false) :
    PT X (.Compare a [opOf o, opOf o'] [b, c] pos) (tT X.K W fun η S => ((fa η S).bind fun x S => (fb η S).bind fun y S => (Res.ofO (cop S o x y) S).bind fun t S =>
      if t then (fc η S).bind fun z S => .ofO ((cop S o' y z).map .bl) S else .ok (.bl false) S).bind fun d S => .ofO (truth S d) S) := by
  obtain ⟨r, ho, hr⟩ := c_any (W := W) cf o
  obtain ⟨r', ho', hr'⟩ := c_any (W := W) cf o'
  refine PT.by (pt_chain ho ho' ha hb hc hm) fun σ H Q h => ?_
  obtain ⟨p, η, S, re, rs, h⟩ := h
  have h : Good X.K p H _ _ W := h
  simp only [Res.bind_assoc] at h
  refine tI_of re rs h fun p1 H1 x S1 v e1 re1 rs1 rv h1 => ?_
  refine tI_of re1 rs1 h1 fun p2 H2 y S2 u e2 re2 rs2 ru h2 => ?_
  cases q : cop S2 o x y with
  | none => rw [q] at h2; exact False.elim h2
  | some t =>
    rw [q] at h2
    refine hr p2 H2 S2 x y t v u _ rs2 (rv.ext e2) ru q ⟨t, rfl, ?_⟩
    cases t with
    | false =>
      have fin : Q false H2 := Good.here (a := false) h2 rs2
      first | exact ⟨false, rfl, fin⟩ | (rw [if_neg Bool.false_ne_true]; exact ⟨false, rfl, fin⟩)
    | true =>
      have h2' : Good X.K p2 H2 ((fc η S2).bind fun z S => (Res.ofO ((cop S o' y z).map D.bl) S).bind fun d S => .ofO (truth S d) S) (fun _ H' b _ => Q b H') W := by
        rw [← Res.bind_assoc]
        exact h2
      have fin : tI X.K W fc σ H2 fun z H3 => r' u z H3 fun x H' => ∃ k, x = .bl k ∧ Q k H' := tI_of re2 rs2 h2' fun p3 H3 z S3 w e3 re3 rs3 rw' h3 => by
        cases q' : cop S3 o' y z with
        | none => rw [q'] at h3; exact False.elim h3
        | some t =>
          rw [q'] at h3
          exact hr' p3 H3 S3 y z t u w _ rs3 (ru.ext e3) rw' q' ⟨t, rfl, Good.here (a := t) h3 rs3⟩
      first | exact fin | (rw [if_pos rfl]; exact fin)
theorem b_one_and (ha : PT X a (tT X.K W ga)) : PW X (.BoolOp .And [a] pos) (tT X.K W ga) := pw_and1 ha
theorem b_one_or (ha : PT X a (tT X.K W ga)) : PW X (.BoolOp .Or [a] pos) (tT X.K W ga) := pw_or1 ha
theorem PW.by {e : Expr} {t t' : TT} (h : PW X e t) (f : ∀ σ H Q, t' σ H Q → t σ H Q) : PW X e t' := ⟨fun wh pins s σ H Q I q => h.run wh pins s σ H Q I (f σ H Q q)⟩
theorem b_and (ha : PT X a (tT X.K W ga)) (hb : PW X (.BoolOp .And (b :: rest) pos) (tT X.K W gb)) : PW X (.BoolOp .And (a :: b :: rest) pos) (tT X.K W fun η S => (ga η S).bind fun t S => if t then gb η S else .ok false S) := by
  refine PW.by (pw_and ha hb) fun σ H Q h => ?_
  obtain ⟨p, η, S, re, rs, h⟩ := h
  refine tT_of re rs h fun p1 H1 t S1 e1 re1 rs1 h1 => ?_
  cases t with
  | true => exact ⟨p1, η, S1, re1, rs1, h1⟩
  | false => exact Good.here (a := false) h1 rs1
theorem b_or (ha : PT X a (tT X.K W ga)) (hb : PW X (.BoolOp .Or (b :: rest) pos) (tT X.K W gb)) : PW X (.BoolOp .Or (a :: b :: rest) pos) (tT X.K W fun η S => (ga η S).bind fun t S => if t then .ok true S else gb η S) := by
  refine PW.by (pw_or ha hb) fun σ H Q h => ?_
  obtain ⟨p, η, S, re, rs, h⟩ := h
  refine tT_of re rs h fun p1 H1 t S1 e1 re1 rs1 h1 => ?_
  cases t with
  | false => exact ⟨p1, η, S1, re1, rs1, h1⟩
  | true => exact Good.here (a := true) h1 rs1
theorem b_not (ha : PT X a (tT X.K W ga)) : PT X (.UnaryOp .Not a pos) (tT X.K W fun η S => (ga η S).bind fun t S => .ok (!t) S) := by
  refine PT.by (pt_not ha) fun σ H Q h => ?_
  obtain ⟨p, η, S, re, rs, h⟩ := h
  refine tT_of re rs h fun p1 H1 t S1 e1 re1 rs1 h1 => ?_
  exact Good.here (a := !t) h1 rs1

/-! ### lists of expressions, displays -/
theorem l_nil : PA X [] (tL X.K W fun _ S => .ok [] S) := by
  refine PA.by pa_nil fun σ H Q h => ?_
  obtain ⟨p, η, S, re, rs, h⟩ := h
  exact Good.here (a := []) h rs [] rfl
theorem l_cons {es : List Expr} {fs : Sl → Store → Res (List D)} (ha : PE X a (tI X.K W fa)) (hr : PA X es (tL X.K W fs)) (hs : starEach (a :: es) X.env = (false, eval a X.env) :: starEach es X.env) :
    PA X (a :: es) (tL X.K W fun η S => (fa η S).bind fun d S => (fs η S).bind fun ds S => .ok (d :: ds) S) := by
  refine PA.by (pa_cons ha hr hs) fun σ H Q h => ?_
  obtain ⟨p, η, S, re, rs, h⟩ := h
  refine tI_of re rs h fun p1 H1 x S1 v e1 re1 rs1 rv h1 => ?_
  refine tL_of re1 rs1 h1 fun p2 H2 xs S2 vs e2 re2 rs2 rvs h2 => ?_
  exact Good.here (a := x :: xs) h2 rs2 (v :: vs) ⟨v, vs, rfl, rv.ext e2, rvs⟩
theorem e_tup {es : List Expr} {fs : Sl → Store → Res (List D)} {x1} (h : PA X es (tL X.K W fs)) : PE X (.Tuple es x1 pos) (tI X.K W fun η S => (fs η S).bind fun ds S => if ds.length ≤ sizeLine then .ok (.tup ds) S else .bad) := by
  refine PE.by (pe_tup h) fun σ H Q h => ?_
  obtain ⟨p, η, S, re, rs, h⟩ := h
  refine tL_of re rs h fun p1 H1 ds S1 vs e1 re1 rs1 rvs h1 => ?_
  by_cases hz : ds.length ≤ sizeLine
  · rw [if_pos hz] at h1
    exact ⟨by rw [← rvs.length]; exact hz, h1.new_tup rs1 rvs⟩
  · rw [if_neg hz] at h1; exact False.elim h1
theorem Good.new_lo {K : PySem.W.Frag} {p : List Addr} {H : Hp} {S : Store} {ds : List D} {xs : List V} {Q : VK} (h : Good K p H (.ok (.lo S.length) (S ++ [.lst ds])) (fun p' H' d _ => ∀ v, RV K p' H' d v → Q v H') W) (rs : RS K p H S) (r : RVs K p H ds xs) :
    ∀ a, H a = none → Q (.ref a) (upd H a (.lst xs)) := fun a ha => by
  refine h (p ++ [a]) _ (Ext.cell ha) (rs.cell ha r) _ ⟨a, ?_, rfl⟩
  rw [← rs.len, List.getElem?_append_right (Nat.le_refl _), Nat.sub_self]
  rfl
theorem e_addl {a b : Expr} {fa fb : Sl → Store → Res D} (ha : PE X a (tI X.K W fa)) (hb : PE X b (tI X.K W fb)) : PE X (.BinOp a .Add b pos) (tI X.K W fun η S => (fa η S).bind fun x S => (fb η S).bind fun y S => addl S x y) := by
  refine PE.by (pe_op op_cat ha hb) fun σ H Q h => ?_
  obtain ⟨p, η, S, re, rs, h⟩ := h
  refine tI_of re rs h fun p1 H1 x S1 v e1 re1 rs1 rv h1 => ?_
  refine tI_of re1 rs1 h1 fun p2 H2 y S2 u e2 re2 rs2 ru h2 => ?_
  have rv2 := rv.ext e2
  unfold addl at h2
  split at h2
  · rename_i xs ys l1 l2
    split at h2
    · rename_i hz
      obtain ⟨a1, as, rfl, q2, q3⟩ := lsOf_lst rs2 rv2 l1
      obtain ⟨a2, bs, rfl, q5, q6⟩ := lsOf_lst rs2 ru l2
      exact ⟨a1, a2, as, bs, rfl, rfl, q3, q6, by rw [← q2.length, ← q5.length]; exact hz, h2.new_lo rs2 (q2.append q5)⟩
    · exact False.elim h2
  · exact False.elim h2
theorem e_mull {a b : Expr} {fa fb : Sl → Store → Res D} (ha : PE X a (tI X.K W fa)) (hb : PE X b (tI X.K W fb)) : PE X (.BinOp a .Mult b pos) (tI X.K W fun η S => (fa η S).bind fun x S => (fb η S).bind fun y S => mull S x y) := by
  refine PE.by (pe_op op_rep ha hb) fun σ H Q h => ?_
  obtain ⟨p, η, S, re, rs, h⟩ := h
  refine tI_of re rs h fun p1 H1 x S1 v e1 re1 rs1 rv h1 => ?_
  refine tI_of re1 rs1 h1 fun p2 H2 y S2 u e2 re2 rs2 ru h2 => ?_
  have rv2 := rv.ext e2
  unfold mull at h2
  split at h2
  · rename_i xs k l1
    cases ru
    split at h2
    · rename_i hz
      obtain ⟨a1, as, rfl, q2, q3⟩ := lsOf_lst rs2 rv2 l1
      exact ⟨a1, k, as, rfl, rfl, q3, hz.1, hz.2.1, by rw [← q2.length]; exact hz.2.2, h2.new_lo rs2 (q2.rep _)⟩
    · exact False.elim h2
  · exact False.elim h2
theorem e_lst {es : List Expr} {fs : Sl → Store → Res (List D)} (kp : Bool) (h : PA X es (tL X.K W fs)) : PE X (.List es pos) (tI X.K W fun η S => (fs η S).bind fun ds S => if ds.length ≤ sizeLine then (if kp then .ok (.lo S.length) (S ++ [.lst ds]) else .ok (.lv ds) S) else .bad) := by
  refine PE.by (pe_lst h) fun σ H Q h => ?_
  obtain ⟨p, η, S, re, rs, h⟩ := h
  refine tL_of re rs h fun p1 H1 ds S1 vs e1 re1 rs1 rvs h1 => ?_
  by_cases hz : ds.length ≤ sizeLine
  · rw [if_pos hz] at h1
    refine ⟨by rw [← rvs.length]; exact hz, ?_⟩
    cases kp with
    | true => exact Good.new_lo h1 rs1 rvs
    | false => exact Good.new_lv h1 rs1 rvs
  · rw [if_neg hz] at h1; exact False.elim h1

/-! ### subscripts -/
theorem atI_rv {K : PySem.W.Frag} {p : List Addr} {H : Hp} {ds : List D} {xs : List V} {i : Int} {d : D} (r : RVs K p H ds xs) (e : atI ds i = some d) : ∃ v, atI xs i = some v ∧ RV K p H d v := by
  have el := r.length
  unfold atI at e ⊢
  rw [← el]
  cases q : ixN ds.length i with
  | none => rw [q] at e; cases e
  | some j =>
    rw [q] at e
    exact r.get e
theorem e_sub' (ha : PE X a (tI X.K W fa)) (hb : PE X b (tI X.K W fb)) (hs : PlainIx b) : PE X (.Subscript a b pos) (tI X.K W fun η S => (fa η S).bind fun x S => (fb η S).bind fun y S => match items S x, y with
    | some ds, .int j => .ofO (atI ds j) S
    | _, _ => .bad) := by
  refine PE.by (pe_ix ix_seq ha hb hs) fun σ H Q h => ?_
  obtain ⟨p, η, S, re, rs, h⟩ := h
  refine tI_of re rs h fun p1 H1 x S1 v e1 re1 rs1 rv h1 => ?_
  refine tI_of re1 rs1 h1 fun p2 H2 y S2 u e2 re2 rs2 ru h2 => ?_
  cases q : items S2 x with
  | none => simp only [q] at h2; exact False.elim h2
  | some ds =>
    cases y with
    | int j =>
      simp only [q] at h2
      cases ru
      obtain ⟨a, xs, rfl, r, hq⟩ := items_seq rs2 (rv.ext e2) q
      cases z : atI ds j with
      | none => rw [z] at h2; exact False.elim h2
      | some d =>
        rw [z] at h2
        obtain ⟨w, e3, rw'⟩ := atI_rv r z
        have fin := Good.val (d := d) h2 rs2 rw'
        rcases hq with hq | hq
        · exact .inl ⟨a, xs, j, w, rfl, rfl, hq, e3, fin⟩
        · exact .inr (.inl ⟨a, xs, j, w, rfl, rfl, hq, e3, fin⟩)
    | _ => simp only [q] at h2; exact False.elim h2

/-! ### slices -/
theorem o_none : PO X none (tOI X.K W fun _ S => .ok none S) := by
  refine PO.by po_none fun σ H Q h => ?_
  obtain ⟨p, η, S, re, rs, h⟩ := h
  exact Good.here (a := none) h rs
theorem o_some (ha : PE X a (tI X.K W fa)) : PO X (some a) (tOI X.K W fun η S => (fa η S).bind fun d S => match d with
    | .int i => .ok (some i) S
    | _ => .bad) := by
  refine PO.by (po_some ha) fun σ H Q h => ?_
  obtain ⟨p, η, S, re, rs, h⟩ := h
  refine tI_of re rs h fun p1 H1 x S1 v e1 re1 rs1 rv h1 => ?_
  cases x with
  | int i => cases rv; exact ⟨i, rfl, Good.here (a := some i) h1 rs1⟩
  | _ => exact False.elim h1
theorem cut_rv {K : PySem.W.Frag} {p : List Addr} {H : Hp} {ds : List D} {xs : List V} (r : RVs K p H ds xs) (l h : Option Int) : RVs K p H (cutD ds l h) (cutV xs l h) := by
  unfold cutD cutV
  rw [r.length]
  exact (r.drop _).take _
theorem cut_whole {ds : List D} {l h : Option Int} (e : HT.sIx ds.length 0 l = 0 ∧ HT.sIx ds.length ds.length h = ds.length) : cutD ds l h = ds := by
  unfold cutD
  rw [e.1, e.2, Nat.sub_zero, List.drop_zero, List.take_length]
theorem e_slc {lo hi : Option Expr} {fl fh : Sl → Store → Res (Option Int)} {p2 : Pos} (ha : PE X a (tI X.K W fa)) (hl : PO X lo (tOI X.K W fl)) (hh : PO X hi (tOI X.K W fh)) :
    PE X (.Subscript a (.Slice lo hi none p2) pos) (tI X.K W fun η S => (fa η S).bind fun x S => (fl η S).bind fun l S => (fh η S).bind fun h S => match x with
    | .tup ds => .ok (.tup (cutD ds l h)) S
    | .lv ds => .ok (.lv (cutD ds l h)) S
    | .fz ds => .ok (.lv (cutD ds l h)) S
    | .lo n => match S[n]? with
      | some (.lst ds) => .ok (.lv (cutD ds l h)) S
      | _ => .bad
    | _ => .bad) := by
  refine PE.by (pe_slice (sl_list.or sl_tupA) ha hl hh) fun σ H Q h => ?_
  obtain ⟨p, η, S, re, rs, h⟩ := h
  refine tI_of re rs h fun p1 H1 x S1 v e1 re1 rs1 rv h1 => ?_
  refine tOI_of re1 rs1 h1 fun p2 H2 l S2 e2 re2 rs2 h2 => ?_
  refine tOI_of re2 rs2 h2 fun p3 H3 h S3 e3 re3 rs3 h3 => ?_
  have rv3 := (rv.ext e2).ext e3
  cases x with
  | tup ds =>
    obtain ⟨a, xs, rfl, r, q⟩ := rv3
    refine .inr ⟨a, xs, rfl, SqT_of q, fun z => ?_, fun _ => h3.new_tup rs3 (cut_rv r l h)⟩
    rw [← r.length] at z
    have h3 : Good X.K p3 H3 (.ok (.tup (cutD ds l h)) S3) (fun p' H' d _ => ∀ v, RV X.K p' H' d v → Q v H') W := h3
    rw [cut_whole z] at h3
    exact h3.val rs3 ⟨a, xs, rfl, r, q⟩
  | lv ds =>
    obtain ⟨a, xs, rfl, r, q1, q2⟩ := rv3
    exact .inl ⟨a, xs, rfl, SqL.of q2, h3.new_lv rs3 (cut_rv r l h)⟩
  | fz ds =>
    obtain ⟨a, xs, rfl, r, q⟩ := rv3
    exact .inl ⟨a, xs, rfl, SqL_of q, h3.new_lv rs3 (cut_rv r l h)⟩
  | lo n =>
    obtain ⟨a, q1, rfl⟩ := rv3
    cases z : S3[n]? with
    | none => simp only [z] at h3; exact False.elim h3
    | some c =>
      cases c with
      | lst ds =>
        simp only [z] at h3
        obtain ⟨xs, q2, r⟩ := rs3.cel n a _ q1 z
        exact .inl ⟨a, xs, rfl, SqL.of q2, h3.new_lv rs3 (cut_rv r l h)⟩
      | dct kvs => simp only [z] at h3; exact False.elim h3
  | _ => exact False.elim h3
end
end Py

set_option Elab.async false
set_option linter.all false
set_option maxRecDepth 100000
set_option maxHeartbeats 4000000
/-! Built-in functions, isinstance, append. -/
namespace Py
open PySem PySem.Spec PyProof.Rows L2

theorem ints_rv {K : PySem.W.Frag} {p : List Addr} {H : Hp} : ∀ {ds : List D} {xs : List V} {ns : List Int}, RVs K p H ds xs → intsOf ds = some ns → xs = ns.map V.int
  | [], _, _, h, e => by cases h; cases e; rfl
  | .int i :: ds, _, ns, h, e => by
    obtain ⟨v, r, rfl, h2, h3⟩ := h
    simp only [intsOf, Option.map_eq_some_iff] at e
    obtain ⟨ms, e, rfl⟩ := e
    cases h2
    rw [ints_rv h3 e]; rfl
  | .non :: _, _, _, _, e => by cases e
  | .bl _ :: _, _, _, _, e => by cases e
  | .str _ :: _, _, _, _, e => by cases e
  | .tup _ :: _, _, _, _, e => by cases e
  | .lv _ :: _, _, _, _, e => by cases e
  | .fz _ :: _, _, _, _, e => by cases e
  | .lo _ :: _, _, _, _, e => by cases e
  | .dc :: _, _, _, _, e => by cases e
theorem bls_rv {K : PySem.W.Frag} {p : List Addr} {H : Hp} : ∀ {ds : List D} {xs : List V} {ns : List Bool}, RVs K p H ds xs → blsOf ds = some ns → xs = ns.map V.bl
  | [], _, _, h, e => by cases h; cases e; rfl
  | .bl i :: ds, _, ns, h, e => by
    obtain ⟨v, r, rfl, h2, h3⟩ := h
    simp only [blsOf, Option.map_eq_some_iff] at e
    obtain ⟨ms, e, rfl⟩ := e
    cases h2
    rw [bls_rv h3 e]; rfl
  | .non :: _, _, _, _, e => by cases e
  | .int _ :: _, _, _, _, e => by cases e
  | .str _ :: _, _, _, _, e => by cases e
  | .tup _ :: _, _, _, _, e => by cases e
  | .lv _ :: _, _, _, _, e => by cases e
  | .fz _ :: _, _, _, _, e => by cases e
  | .lo _ :: _, _, _, _, e => by cases e
  | .dc :: _, _, _, _, e => by cases e
mutual
theorem Dp.nodict {K : PySem.W.Frag} {H : Hp} : ∀ (d : PyData) (v : V), Dp K H v d → d.hasDict = false
  | .none, _, _ => rfl
  | .bool _, _, _ => rfl
  | .int _, _, _ => rfl
  | .str _, _, _ => rfl
  | .list ds, _, h => by cases h with | lst _ h => exact DpAll.nodict ds _ h
  | .tuple ds, _, h => by cases h with | tup _ h => exact DpAll.nodict ds _ h
  | .dict _, _, h => by cases h
theorem DpAll.nodict {K : PySem.W.Frag} {H : Hp} : ∀ (ds : List PyData) (vs : List V), DpAll K H vs ds → PyData.hasDictAll ds = false
  | [], _, _ => rfl
  | d :: ds, _, h => by
    cases h with
    | cons h1 h2 =>
      show (d.hasDict || PyData.hasDictAll ds) = false
      rw [Dp.nodict d _ h1, DpAll.nodict ds _ h2]; rfl
end
section
variable {X : Cx} {k : Nat}
/-- repr of data -/
theorem cr_reprD (cf : Cf X k) : CallR X (.builtin "repr") (fun xs H Q => ∃ x d, xs = [x] ∧ Dp X.K H x d ∧ d.showable = true ∧ d.depth ≤ 64 ∧ d.shown.length ≤ sizeLine ∧ Q (.str d.shown) H) := by
  intro pins s σ H xs us Q I r h
  obtain ⟨x, d, rfl, hd, hs, h64, hz, q⟩ := h
  obtain ⟨u, rfl, rx⟩ := vals1 r
  cases hd with
  | non => cases rx; exact PySem.P.repr_of_none ⟨.str "None", H, I.tok _, ⟨_, rfl⟩, q⟩
  | bl b => cases rx; exact PySem.P.repr_of_bool ⟨.str (if b then "True" else "False"), H, I.tok _, ⟨_, rfl⟩, q⟩
  | int i => obtain ⟨t, rfl⟩ := rx; exact PySem.P.repr_of_int (of_decide_eq_true hs) ⟨.str (toString i), H, I.tok _, ⟨_, rfl⟩, q⟩
  | str z => obtain ⟨t, rfl⟩ := rx; exact PySem.P.repr_of_str ⟨.str (reprText z), H, I.tok _, ⟨_, rfl⟩, q⟩ hz
  | lst h1 h2 =>
    have hd := Dp.lst h1 h2
    obtain ⟨as, rd⟩ := Dp.reads I _ _ u hd rx
    cases (show u = Value.ref _ from rx)
    exact repr_of_reads' rd hs (fun z => by rw [Dp.nodict _ _ hd] at z; cases z) cf.gd (by have := cf.room.un; omega) (fun _ _ e => e) (fun h' u tk kp => ⟨.str _, H, I.kept (t' := tk) kp, ⟨_, rfl⟩, q⟩) hz
  | tup h1 h2 =>
    have hd := Dp.tup h1 h2
    obtain ⟨as, rd⟩ := Dp.reads I _ _ u hd rx
    cases (show u = Value.ref _ from rx)
    exact repr_of_reads' rd hs (fun z => by rw [Dp.nodict _ _ hd] at z; cases z) cf.gd (by have := cf.room.un; omega) (fun _ _ e => e) (fun h' u tk kp => ⟨.str _, H, I.kept (t' := tk) kp, ⟨_, rfl⟩, q⟩) hz
theorem cr_isqrt : CallR X (.builtin "math.isqrt") (fun xs H Q => ∃ i : Int, xs = [.int i] ∧ 0 ≤ i ∧ i.toNat.log2 < 13000 ∧ Q (.int ((Float64.isqrt i.toNat : Nat) : Int)) H) := by
  intro pins s σ H xs us Q I r h
  obtain ⟨i, rfl, h0, h1, q⟩ := h
  obtain ⟨u, rfl, rx⟩ := vals1 r
  obtain ⟨t, rfl⟩ := rx
  exact call_function_meets PySem.W.MGF.kind_isqrt PySem.W.MGF.plain_isqrt PySem.W.MGF.entry_isqrt (PySem.W.MGF.args_isqrt _) (PySem.W.mg_run_isqrt i t (by omega) (by omega) (by omega)).meets ⟨.int _, H, I.tok _, ⟨_, rfl⟩, q⟩
end

/-- a built-in function by its rule -/
def BfR (X : Cx) (W : XD) (f : BF) (u : Value) (r : List V → Hp → VK → Prop) : Prop := CallR X u r ∧
  ∀ (p : List Addr) (H : Hp) (S : Store) (ds : List D) (d : D) (vs : List V) (Q : VK), RS X.K p H S → RVs X.K p H ds vs → bf S f ds = some d → Good X.K p H (.ok d S) (fun p' H' d _ => ∀ v, RV X.K p' H' d v → Q v H') W → r vs H Q
theorem rvs1 {K : PySem.W.Frag} {p : List Addr} {H : Hp} {d : D} {vs : List V} (h : RVs K p H [d] vs) : ∃ v, vs = [v] ∧ RV K p H d v := by
  obtain ⟨v, r, rfl, h2, h3⟩ := h
  cases h3
  exact ⟨v, rfl, h2⟩
theorem rvs2 {K : PySem.W.Frag} {p : List Addr} {H : Hp} {d e : D} {vs : List V} (h : RVs K p H [d, e] vs) : ∃ v u, vs = [v, u] ∧ RV K p H d v ∧ RV K p H e u := by
  obtain ⟨v, r, rfl, h2, h3⟩ := h
  obtain ⟨u, rfl, h4⟩ := rvs1 h3
  exact ⟨v, u, rfl, h2, h4⟩
theorem bf_one {S : Store} {f : BF} {ds : List D} {d : D} (hf : f ≠ .max ∧ f ≠ .min ∧ f ≠ .divmod ∧ f ≠ .gcd) (e : bf S f ds = some d) : ∃ x, ds = [x] := by
  match ds, e with
  | [x], _ => exact ⟨x, rfl⟩
  | [], e => cases f <;> cases e
  | x :: y :: z :: r, e => cases f <;> first | (cases x <;> cases e; done) | (cases x <;> cases y <;> cases e)
  | [x, y], e => cases f <;> first | exact (hf.1 rfl).elim | exact (hf.2.1 rfl).elim | exact (hf.2.2.1 rfl).elim | exact (hf.2.2.2 rfl).elim | (cases x <;> cases e)
theorem bf_two {S : Store} {f : BF} {ds : List D} {d : D} (hf : f = .max ∨ f = .min ∨ f = .divmod ∨ f = .gcd) (e : bf S f ds = some d) : ∃ i j, ds = [.int i, .int j] := by
  match ds, e with
  | [x, y], e => rcases hf with rfl | rfl | rfl | rfl <;> cases x <;> cases y <;> first | exact ⟨_, _, rfl⟩ | (cases e; done)
  | [], e => rcases hf with rfl | rfl | rfl | rfl <;> cases e
  | [x], e => rcases hf with rfl | rfl | rfl | rfl <;> cases x <;> cases e
  | x :: y :: z :: r, e => rcases hf with rfl | rfl | rfl | rfl <;> cases x <;> cases y <;> cases e
def bfVal : BF → Value
  | .len => .builtin "len" | .abs => .builtin "abs" | .max => .builtin "max" | .min => .builtin "min" | .int => .type "int" | .sum => .builtin "sum" | .all => .builtin "all"
  | .tuple => .type "tuple" | .list => .type "list" | .repr => .builtin "repr" | .str => .type "str" | .divmod => .builtin "divmod" | .gcd => .builtin "math.gcd" | .isqrt => .builtin "math.isqrt" | .sort => .builtin "sorted"
section
variable {X : Cx} {W : XD} {k : Nat}
theorem b_len : BfR X W .len (.builtin "len") (fun xs H Q => (∃ p ys, xs = [.ref p] ∧ (SqL X.K H p ys ∨ SqT X.K H p ys) ∧ Q (.int ys.length) H) ∨ (∃ z, xs = [.str z] ∧ z.length ≤ sizeLine ∧ Q (.int z.length) H)) := by
  refine ⟨fun pins s σ H vs us Q I r h => ?_, fun p H S ds d vs Q rs r e h => ?_⟩
  · rcases h with h | h
    · exact call_len_seq pins s σ H vs us Q I r h
    · exact call_len_str pins s σ H vs us Q I r h
  · obtain ⟨x, rfl⟩ := bf_one (by decide) e
    obtain ⟨v, rfl, rv⟩ := rvs1 r
    simp only [bf, Option.map_eq_some_iff] at e
    obtain ⟨n, e, rfl⟩ := e
    have seq : (items S x).map (·.length) = some n → ∃ p ys, v = .ref p ∧ (SqL X.K H p ys ∨ SqT X.K H p ys) ∧ ys.length = n := fun e => by
      obtain ⟨ys, e2, rfl⟩ := Option.map_eq_some_iff.mp e
      obtain ⟨a, xs, rfl, r2, hq⟩ := items_seq rs rv e2
      exact ⟨a, xs, rfl, hq, r2.length.symm⟩
    have fin := Good.val (d := .int (n : Int)) h rs rfl
    cases x with
    | str z =>
      cases rv
      simp only [lensOf] at e
      split at e
      · cases e; exact .inr ⟨z, rfl, by assumption, fin⟩
      · cases e
    | tup _ => obtain ⟨p, ys, rfl, hq, rfl⟩ := seq e; exact .inl ⟨p, ys, rfl, hq, fin⟩
    | lv _ => obtain ⟨p, ys, rfl, hq, rfl⟩ := seq e; exact .inl ⟨p, ys, rfl, hq, fin⟩
    | fz _ => obtain ⟨p, ys, rfl, hq, rfl⟩ := seq e; exact .inl ⟨p, ys, rfl, hq, fin⟩
    | lo _ => obtain ⟨p, ys, rfl, hq, rfl⟩ := seq e; exact .inl ⟨p, ys, rfl, hq, fin⟩
    | _ => cases e
theorem b_abs : BfR X W .abs (.builtin "abs") (fun xs H Q => ∃ i, xs = [.int i] ∧ Q (.int (if i < 0 then -i else i)) H) := by
  refine ⟨call_abs, fun p H S ds d vs Q rs r e h => ?_⟩
  obtain ⟨x, rfl⟩ := bf_one (by decide) e
  obtain ⟨v, rfl, rv⟩ := rvs1 r
  cases x <;> first
    | (cases e; cases rv; exact ⟨_, rfl, h.val rs rfl⟩)
    | (cases e; done)
theorem b_max (cf : Cf X k) : BfR X W .max (.builtin "max") (fun xs H Q => ∃ i j, xs = [.int i, .int j] ∧ Q (.int (if j > i then j else i)) H) := by
  refine ⟨call_max2 cf.calm, fun p H S ds d vs Q rs r e h => ?_⟩
  obtain ⟨i, j, rfl⟩ := bf_two (.inl rfl) e
  obtain ⟨v, u, rfl, rv, ru⟩ := rvs2 r
  cases e; cases rv; cases ru
  exact ⟨_, _, rfl, h.val rs rfl⟩
theorem b_min (cf : Cf X k) : BfR X W .min (.builtin "min") (fun xs H Q => ∃ i j, xs = [.int i, .int j] ∧ Q (.int (if j < i then j else i)) H) := by
  refine ⟨call_min2 cf.calm, fun p H S ds d vs Q rs r e h => ?_⟩
  obtain ⟨i, j, rfl⟩ := bf_two (.inr (.inl rfl)) e
  obtain ⟨v, u, rfl, rv, ru⟩ := rvs2 r
  cases e; cases rv; cases ru
  exact ⟨_, _, rfl, h.val rs rfl⟩
theorem b_divmod : BfR X W .divmod (.builtin "divmod") (fun xs H Q => ∃ i j, xs = [.int i, .int j] ∧ CDiv i j ∧ ∀ p, H p = none → Q (.ref p) (upd H p (.tup [.int (i / j), .int (i % j)]))) := by
  refine ⟨call_divmod, fun p H S ds d vs Q rs r e h => ?_⟩
  obtain ⟨i, j, rfl⟩ := bf_two (.inr (.inr (.inl rfl))) e
  obtain ⟨v, u, rfl, rv, ru⟩ := rvs2 r
  simp only [bf] at e
  split at e
  · rename_i hc
    cases e; cases rv; cases ru
    exact ⟨i, j, rfl, hc, h.new_tup rs ⟨_, _, rfl, rfl, _, _, rfl, rfl, rfl⟩⟩
  · cases e
theorem b_gcd : BfR X W .gcd (.builtin "math.gcd") rGcd := by
  refine ⟨cr_gcd, fun p H S ds d vs Q rs r e h => ?_⟩
  obtain ⟨i, j, rfl⟩ := bf_two (.inr (.inr (.inr rfl))) e
  obtain ⟨v, u, rfl, rv, ru⟩ := rvs2 r
  cases e; cases rv; cases ru
  exact ⟨i, j, rfl, h.val rs rfl⟩
theorem b_isqrt : BfR X W .isqrt (.builtin "math.isqrt") (fun xs H Q => ∃ i : Int, xs = [.int i] ∧ 0 ≤ i ∧ i.toNat.log2 < 13000 ∧ Q (.int ((Float64.isqrt i.toNat : Nat) : Int)) H) := by
  refine ⟨cr_isqrt, fun p H S ds d vs Q rs r e h => ?_⟩
  obtain ⟨x, rfl⟩ := bf_one (by decide) e
  obtain ⟨v, rfl, rv⟩ := rvs1 r
  cases x <;> first
    | (simp only [bf] at e
       split at e
       · rename_i hc
         cases e; cases rv
         exact ⟨_, rfl, hc.1, hc.2, h.val rs rfl⟩
       · cases e)
    | (cases e; done)
theorem b_int : BfR X W .int (.type "int") (fun xs H Q => (∃ i, xs = [.int i] ∧ Q (.int i) H) ∨ ∃ k, xs = [.bl k] ∧ Q (.int (if k then 1 else 0)) H) := by
  refine ⟨call_int1, fun p H S ds d vs Q rs r e h => ?_⟩
  obtain ⟨x, rfl⟩ := bf_one (by decide) e
  obtain ⟨v, rfl, rv⟩ := rvs1 r
  cases x <;> first
    | (cases e; cases rv; exact .inl ⟨_, rfl, h.val rs rfl⟩)
    | (cases e; cases rv; exact .inr ⟨_, rfl, h.val rs rfl⟩)
    | (cases e; done)
theorem b_str : BfR X W .str (.type "str") (fun xs H Q => (∃ i, xs = [.int i] ∧ i.natAbs.log2 < 1920 ∧ Q (.str (toString i)) H) ∨ (∃ a, xs = [.str a] ∧ Q (.str a) H)) := by
  refine ⟨fun pins s σ H vs us Q I r h => ?_, fun p H S ds d vs Q rs r e h => ?_⟩
  · rcases h with h | h
    · exact call_str_int pins s σ H vs us Q I r h
    · exact SkE.call_str_str pins s σ H vs us Q I r h
  · obtain ⟨x, rfl⟩ := bf_one (by decide) e
    obtain ⟨v, rfl, rv⟩ := rvs1 r
    cases x <;> first
      | (simp only [bf] at e
         split at e
         · rename_i hc
           cases e; cases rv
           exact .inl ⟨_, rfl, hc, h.val rs rfl⟩
         · cases e)
      | (cases e; cases rv; exact .inr ⟨_, rfl, h.val rs rfl⟩)
      | (cases e; done)
theorem b_tuple : BfR X W .tuple (.type "tuple") (fun xs H Q => ∃ p ys, xs = [.ref p] ∧ ((SqL X.K H p ys ∧ ∀ l, H l = none → Q (.ref l) (upd H l (.tup ys))) ∨ (SqT X.K H p ys ∧ Q (.ref p) H))) := by
  refine ⟨call_tuple_of, fun p H S ds d vs Q rs r e h => ?_⟩
  obtain ⟨x, rfl⟩ := bf_one (by decide) e
  obtain ⟨v, rfl, rv⟩ := rvs1 r
  simp only [bf, Option.map_eq_some_iff] at e
  obtain ⟨ys, e, rfl⟩ := e
  have go : ∀ a xs, v = .ref a → RVs X.K p H ys xs → SqL X.K H a xs → ∃ p ys, [v] = [V.ref p] ∧ ((SqL X.K H p ys ∧ ∀ l, H l = none → Q (.ref l) (upd H l (.tup ys))) ∨ (SqT X.K H p ys ∧ Q (.ref p) H)) := fun a xs ev r2 hq =>
    ⟨a, xs, by rw [ev], .inl ⟨hq, h.new_tup rs r2⟩⟩
  cases x with
  | tup es =>
    cases (Option.some.inj e)
    have rv' := rv
    obtain ⟨a, xs, rfl, e2, e3⟩ := rv
    exact ⟨a, xs, rfl, .inr ⟨SqT_of e3, h.val rs rv'⟩⟩
  | lv es =>
    obtain ⟨a, xs, ev, r2, hl⟩ := lsOf_lst rs rv (show lsOf S (.lv es) = some ys from e)
    exact go a xs ev r2 (SqL.of hl)
  | fz es =>
    cases (Option.some.inj e)
    obtain ⟨a, xs, ev, e2, e3⟩ := rv
    exact go a xs ev e2 (SqL_of e3)
  | lo n =>
    obtain ⟨a, xs, ev, r2, hl⟩ := lsOf_lst rs rv (show lsOf S (.lo n) = some ys from e)
    exact go a xs ev r2 (SqL.of hl)
  | _ => cases e
theorem b_list : BfR X W .list (.type "list") (fun xs H Q => ∃ p ys, xs = [.ref p] ∧ (SqL X.K H p ys ∨ SqT X.K H p ys) ∧ ∀ l, H l = none → Q (.ref l) (upd H l (.lst ys))) := by
  refine ⟨call_list_of, fun p H S ds d vs Q rs r e h => ?_⟩
  obtain ⟨x, rfl⟩ := bf_one (by decide) e
  obtain ⟨v, rfl, rv⟩ := rvs1 r
  simp only [bf, Option.map_eq_some_iff] at e
  obtain ⟨ys, e, rfl⟩ := e
  obtain ⟨a, xs, rfl, r2, hq⟩ := items_seq rs rv e
  exact ⟨a, xs, rfl, hq, h.new_lv rs r2⟩
theorem b_sum (cf : Cf X k) : BfR X W .sum (.builtin "sum") (rSum X.K) := by
  refine ⟨cr_sum cf.calm, fun p H S ds d vs Q rs r e h => ?_⟩
  obtain ⟨x, rfl⟩ := bf_one (by decide) e
  obtain ⟨v, rfl, rv⟩ := rvs1 r
  simp only [bf] at e
  split at e
  · rename_i ys es ei
    obtain ⟨ns, e2, rfl⟩ := Option.map_eq_some_iff.mp e
    obtain ⟨a, xs, rfl, r2, hl⟩ := lsOf_lst rs rv (show lsOf S (.lv es) = some ys from ei)
    have ex := ints_rv r2 e2
    subst ex
    exact ⟨a, ns, rfl, SqL.of hl, h.val rs rfl⟩
  · rename_i ys es ei
    obtain ⟨ns, e2, rfl⟩ := Option.map_eq_some_iff.mp e
    obtain ⟨a, xs, rfl, r2, hl⟩ := lsOf_lst rs rv (show lsOf S (.lo es) = some ys from ei)
    have ex := ints_rv r2 e2
    subst ex
    exact ⟨a, ns, rfl, SqL.of hl, h.val rs rfl⟩
  · cases e
theorem b_all (cf : Cf X k) : BfR X W .all (.builtin "all") (rAll X.K) := by
  refine ⟨cr_all cf.calm, fun p H S ds d vs Q rs r e h => ?_⟩
  obtain ⟨x, rfl⟩ := bf_one (by decide) e
  obtain ⟨v, rfl, rv⟩ := rvs1 r
  simp only [bf] at e
  split at e
  · rename_i ys es ei
    obtain ⟨ns, e2, rfl⟩ := Option.map_eq_some_iff.mp e
    obtain ⟨a, xs, rfl, r2, hl⟩ := lsOf_lst rs rv (show lsOf S (.lv es) = some ys from ei)
    have ex := bls_rv r2 e2
    subst ex
    exact ⟨a, ns, rfl, SqL.of hl, h.val rs rfl⟩
  · rename_i ys es ei
    obtain ⟨ns, e2, rfl⟩ := Option.map_eq_some_iff.mp e
    obtain ⟨a, xs, rfl, r2, hl⟩ := lsOf_lst rs rv (show lsOf S (.lo es) = some ys from ei)
    have ex := bls_rv r2 e2
    subst ex
    exact ⟨a, ns, rfl, SqL.of hl, h.val rs rfl⟩
  · cases e
theorem b_repr (cf : Cf X k) : BfR X W .repr (.builtin "repr") (fun xs H Q => ∃ x d, xs = [x] ∧ Dp X.K H x d ∧ d.showable = true ∧ d.depth ≤ 64 ∧ d.shown.length ≤ sizeLine ∧ Q (.str d.shown) H) := by
  refine ⟨cr_reprD cf, fun p H S ds d vs Q rs r e h => ?_⟩
  obtain ⟨x, rfl⟩ := bf_one (by decide) e
  obtain ⟨v, rfl, rv⟩ := rvs1 r
  simp only [bf] at e
  split at e
  · rename_i q eq
    split at e
    · rename_i hc
      simp only [Bool.and_eq_true, decide_eq_true_eq] at hc
      cases e
      exact ⟨v, q, rfl, deref_rv rs rv eq, hc.1.1, hc.1.2, hc.2, h.val rs rfl⟩
    · cases e
  · cases e
theorem ints_of_eq : ∀ {ds : List D} {is : List Int}, intsOf ds = some is → is.map D.int = ds
  | [], _, h => by cases h; rfl
  | d :: ds, is, h => by
    cases d with
    | int i =>
      obtain ⟨r, h1, rfl⟩ := Option.map_eq_some_iff.mp (show (intsOf ds).map (i :: ·) = some is from h)
      rw [List.map_cons, ints_of_eq h1]
    | _ => cases h
theorem tks_rv {K : PySem.W.Frag} {p : List Addr} {H : Hp} : ∀ {ds : List D} {ks : List (List Int)} {xs : List V}, tksOf ds = some ks → RVs K p H ds xs → ∃ ps : List (V × List Int), ps.map (·.1) = xs ∧ ps.map (·.2) = ks ∧ ∀ x ∈ ps, RV K p H (tkD x.2) x.1 ∧ ∃ t, x.1 = V.ref t ∧ SqT K H t (x.2.map V.int) ∧ x.2 ≠ []
  | [], ks, xs, h, r => by cases h; cases r; exact ⟨[], rfl, rfl, fun x hx => nomatch hx⟩
  | d :: ds, ks, xs, h, r => by
    obtain ⟨v, xs, rfl, r1, r2⟩ := r
    cases d with
    | tup es =>
      simp only [tksOf] at h
      split at h
      · rename_i i is ks' h1 h2
        cases h
        obtain ⟨ps, q1, q2, q3⟩ := tks_rv h2 r2
        have r1' := r1
        obtain ⟨a, ys, rfl, e2, e3⟩ := r1
        have ey := ints_rv e2 h1
        subst ey
        refine ⟨(V.ref a, i :: is) :: ps, by rw [List.map_cons, q1], by rw [List.map_cons, q2], fun x hx => ?_⟩
        rcases List.mem_cons.mp hx with e | hx
        · subst e
          refine ⟨?_, a, rfl, SqT_of e3, by simp⟩
          have : tkD (i :: is) = .tup es := by
            unfold tkD
            rw [ints_of_eq h1]
          show RV K p H (tkD (i :: is)) (V.ref a)
          rw [this]; exact r1'
        · exact q3 x hx
      · cases h
    | _ => cases h
theorem rvs_pairs {K : PySem.W.Frag} {p : List Addr} {H : Hp} : ∀ {ps : List (V × List Int)}, (∀ x ∈ ps, RV K p H (tkD x.2) x.1) → RVs K p H ((ps.map (·.2)).map tkD) (ps.map (·.1))
  | [], _ => rfl
  | x :: ps, h => ⟨x.1, _, rfl, h x (List.mem_cons_self ..), rvs_pairs fun y hy => h y (List.mem_cons_of_mem _ hy)⟩
def rSortDk : List V → Hp → VK → Prop := fun xs H Q => ∃ (a : Addr) (kvs : List (Key × V)) (ks : List Int), xs = [.ref a] ∧ Rd H a (.dK kvs) ∧ kvs.map (·.1) = ks.map Sum.inl ∧ ks.length < 64 ∧ ∀ (ys : List Int) (p : Addr), ys.Perm ks → ys.Pairwise (· ≤ ·) → H p = none → Q (.ref p) (upd H p (.lst (ys.map V.int)))
theorem b_sort (cf : Cf X k) : BfR X W .sort (.builtin "sorted") (fun vs H Q => (L2.rSortedI X.K vs H Q ∨ rSortedK X.K vs H Q) ∨ rSortDk vs H Q) := by
  refine ⟨fun pins s σ H vs us Q I r h => ?_, fun p H S ds d vs Q rs r e h => ?_⟩
  · rcases h with (h | h) | h
    · exact cr_sortedI pins s σ H vs us Q I r h
    · exact cr_sortedK pins s σ H vs us Q I r h
    · exact call_sortedDI cf.calm pins s σ H vs us Q I r h
  · obtain ⟨x, rfl⟩ := bf_one (by decide) e
    obtain ⟨v, rfl, rv⟩ := rvs1 r
    simp only [bf] at e
    cases q : lsOf S x with
    | none =>
      rw [q] at e
      cases q2 : dctOf S x with
      | none => simp only [q2] at e; cases e
      | some kvs =>
        simp only [q2] at e
        split at e
        · rename_i h64
          cases e
          unfold dctOf at q2
          split at q2
          · rename_i n
            split at q2
            · rename_i kvs' z
              cases q2
              obtain ⟨a, h1, rfl⟩ := rv
              obtain ⟨kws, z2, r2⟩ := rs.cel n a _ h1 z
              refine .inr ⟨a, kws, kvs.map (·.1), rfl, .inl z2, by rw [r2.1, List.map_map]; rfl, by rw [List.length_map]; exact h64, fun ys pp hp hs hH => ?_⟩
              have es : isort ltI (kvs.map (·.1)) = ys := isort_self anti_ltI swo_ltI hp.symm (hs.imp fun {x y} h => decide_eq_false (by omega))
              rw [es] at h
              exact h.new_lv rs (RVs.of_ints ys) pp hH
            · cases q2
          · cases q2
        · cases e
    | some ds =>
      rw [q] at e
      obtain ⟨es, e2, rfl⟩ := Option.map_eq_some_iff.mp (show (srtD ds).map D.lv = some d from e)
      obtain ⟨a, xs, rfl, r2, hl⟩ := lsOf_lst rs rv q
      unfold srtD at e2
      split at e2
      · rename_i ns hn
        cases e2
        have ex := ints_rv r2 hn
        subst ex
        refine .inl (.inl ⟨a, ns, rfl, SqL.of hl, fun ns' pp hp hs hH => ?_⟩)
        have es : isort ltI ns = ns' := isort_self anti_ltI swo_ltI hp.symm (hs.imp fun {x y} h => decide_eq_false (by omega))
        rw [es] at h
        exact h.new_lv rs (RVs.of_ints ns') pp hH
      · rename_i hn
        obtain ⟨ks, hk, rfl⟩ := Option.map_eq_some_iff.mp e2
        obtain ⟨ps, q1, q2, q3⟩ := tks_rv hk r2
        subst q1
        refine .inl (.inr ⟨a, ps, rfl, SqL.of hl, fun x hx => (q3 x hx).2, fun zs pp hs hp hH => ?_⟩)
        have es : isort HT.lexLt ks = zs.map (·.2) := isort_self anti_lexI swo_lexI (by rw [← q2]; exact (hp.map _).symm) (List.pairwise_map.mpr hs)
        rw [es] at h
        exact h.new_lv rs (rvs_pairs fun x hx => (q3 x (hp.mem_iff.mp hx)).1) pp hH
theorem b_any (cf : Cf X k) (f : BF) : ∃ r, BfR X W f (bfVal f) r := by
  cases f
  · exact ⟨_, b_len⟩
  · exact ⟨_, b_abs⟩
  · exact ⟨_, b_max cf⟩
  · exact ⟨_, b_min cf⟩
  · exact ⟨_, b_int⟩
  · exact ⟨_, b_sum cf⟩
  · exact ⟨_, b_all cf⟩
  · exact ⟨_, b_tuple⟩
  · exact ⟨_, b_list⟩
  · exact ⟨_, b_repr cf⟩
  · exact ⟨_, b_str⟩
  · exact ⟨_, b_divmod⟩
  · exact ⟨_, b_gcd⟩
  · exact ⟨_, b_isqrt⟩
  · exact ⟨_, b_sort cf⟩
end
end Py

set_option Elab.async false
set_option linter.all false
set_option maxRecDepth 100000
set_option maxHeartbeats 4000000
/-! isinstance, append; targets, statements. -/
namespace Py
open PySem PySem.Spec PyProof.Rows L2
section
variable {X : Cx} {W : XD} {a b c : Expr} {rest : List Expr} {fa fb fc : Sl → Store → Res D} {pos : Pos} {k : Nat}

def tyNames : List String := ["NoneType", "bool", "int", "str", "tuple", "list", "dict"]
theorem tyD_mem (d : D) : tyD d ∈ tyNames := by cases d <;> simp [tyD, tyNames]
theorem kit_int : ∀ t ∈ tyNames, kitB t "int" = some (decide (t = "int" ∨ t = "bool")) := by decide +kernel
theorem kit_bool : ∀ t ∈ tyNames, kitB t "bool" = some (decide (t = "bool")) := by decide +kernel
theorem kit_tuple : ∀ t ∈ tyNames, kitB t "tuple" = some (decide (t = "tuple")) := by decide +kernel
theorem kit_str : ∀ t ∈ tyNames, kitB t "str" = some (decide (t = "str")) := by decide +kernel
theorem kit_list : ∀ t ∈ tyNames, kitB t "list" = some (decide (t = "list")) := by decide +kernel
theorem isi_nlo {T : String} {d : D} {r : Bool} (e : isiD T d = some r) : ∀ n, d ≠ .lo n := fun n h => by subst h; cases e
theorem isi_of {T : String} {d : D} {r : Bool} (e : isiD T d = some r) : kitB (tyD d) T = some r := by
  replace e : isi0 T d = some r := by
    cases d with
    | lo n => cases e
    | _ => exact e
  unfold isi0 at e
  split at e
  · rename_i h; subst h
    rw [← e]; exact kit_int _ (tyD_mem d)
  · split at e
    · rename_i h
      rw [← e]
      rcases h with rfl | rfl | rfl | rfl
      · exact kit_bool _ (tyD_mem d)
      · exact kit_tuple _ (tyD_mem d)
      · exact kit_str _ (tyD_mem d)
      · exact kit_list _ (tyD_mem d)
    · cases e
theorem ty_of {K : PySem.W.Frag} {p : List Addr} {H : Hp} {S : Store} {d : D} {v : V} (rs : RS K p H S) (r : RV K p H d v) (nl : ∀ n, d ≠ .lo n) : TyX K H v (.type (tyD d)) := by
  cases d with
  | non => cases r; exact .base .non
  | bl b => cases r; exact .base (.bl b)
  | int i => cases r; exact .base (.int i)
  | str x => cases r; exact .base (.str x)
  | tup ds =>
    obtain ⟨a, xs, rfl, _, h⟩ := r
    rcases h with ⟨o, its, n, h1, h2, _⟩ | ⟨_, h | ⟨o, h⟩⟩
    · exact .kTuple h1 h2
    · exact .base (.tup h)
    · exact .fTuple h
  | lv ds =>
    obtain ⟨a, xs, rfl, _, _, h⟩ := r
    exact .base (.lst h)
  | fz ds =>
    obtain ⟨a, xs, rfl, _, h⟩ := r
    rcases h with ⟨o, its, n, h1, h2, _⟩ | ⟨_, h | ⟨o, h⟩⟩
    · exact .kList h1 h2
    · exact .base (.lst h)
    · exact .base (.frz h)
  | lo n => exact absurd rfl (nl n)
  | dc =>
    obtain ⟨a, rfl, _, h⟩ := r
    exact .base (.dK h)
theorem e_isi {T : String} {tn : Expr} {x : Str} {p0 : Pos} (hx : x = "isinstance") (hg : Gl X x) (hm : X.mg x = none) (ha : PE X a (tI X.K W fa)) (ht : PE X tn (tC (.ty T)))
    (he : starEach [a, tn] X.env = (false, eval a X.env) :: starEach [tn] X.env) (he2 : starEach [tn] X.env = (false, eval tn X.env) :: starEach [] X.env) (hpl : (backTo pos (starEach [tn] X.env)).any (·.1) = false) :
    PE X (.Call (.Name x p0) [a, tn] [] pos) (tI X.K W fun η S => (fa η S).bind fun d S => .ofO ((isiD T d).map .bl) S) := by
  subst hx
  refine PE.by (pe_callB call_isi hg hm (by decide +kernel) (pa_cons ha (pa_cons ht pa_nil he2) he) (by decide) (by decide) he hpl) fun σ H Q h => ?_
  obtain ⟨p, η, S, re, rs, h⟩ := h
  refine tI_of re rs h fun p1 H1 d S1 v e1 re1 rs1 rv h1 => ?_
  cases q : isiD T d with
  | none => rw [q] at h1; exact False.elim h1
  | some r =>
    rw [q] at h1
    exact ⟨v, .ty T, _, _, r, rfl, .ty T, ty_of rs1 rv (isi_nlo q), kit_ty (isi_of q), Good.val (d := .bl r) h1 rs1 rfl⟩
theorem isLst_of {S : Store} {n : Nat} (h : isLst S n = true) : ∃ ds, S[n]? = some (.lst ds) := by
  unfold isLst at h
  split at h
  · exact ⟨_, by assumption⟩
  · cases h
theorem isDct_of {S : Store} {n : Nat} (h : isDct S n = true) : ∃ kvs, S[n]? = some (.dct kvs) := by
  unfold isDct at h
  split at h
  · exact ⟨_, by assumption⟩
  · cases h
theorem lo_at {K : PySem.W.Frag} {p : List Addr} {H : Hp} {S : Store} {n : Nat} {v : V} {ds : List D} (rs : RS K p H S) (r : RV K p H (.lo n) v) (e : S[n]? = some (.lst ds)) : ∃ a xs, v = .ref a ∧ p[n]? = some a ∧ H a = some (.lst xs) ∧ RVs K p H ds xs := by
  obtain ⟨a, h1, rfl⟩ := r
  obtain ⟨xs, z, r⟩ := rs.cel n a _ h1 e
  exact ⟨a, xs, rfl, h1, z, r⟩
theorem lo_dct {K : PySem.W.Frag} {p : List Addr} {H : Hp} {S : Store} {n : Nat} {v : V} {kvs : List (Int × D)} (rs : RS K p H S) (r : RV K p H (.lo n) v) (e : S[n]? = some (.dct kvs)) : ∃ a kws, v = .ref a ∧ p[n]? = some a ∧ H a = some (.dK kws) ∧ RKs K p H kvs kws := by
  obtain ⟨a, h1, rfl⟩ := r
  obtain ⟨xs, z, r⟩ := rs.cel n a _ h1 e
  exact ⟨a, xs, rfl, h1, z, r⟩
theorem e_append {apos : Pos} (ha : PE X a (tI X.K W fa)) (hb : PE X b (tI X.K W fb))
    (hbase : attributeBase a "append" X.env (eval a X.env) = eval a X.env) (hline : (apos.endLine == pos.line) = true)
    (hfew : ((backTo pos (starEach [b] X.env)).all (fun x => !x.1) && (backToKw pos (keywordEach [] X.env)).all (fun x => x.1.isSome)
      && decide ([b].length + ([] : List Keyword).length + (if ([] : List Keyword).isEmpty then 0 else 1) < 30)) = true)
    (hs : starEach [b] X.env = (false, eval b X.env) :: starEach [] X.env) (hpl : (backTo pos (starEach [] X.env)).any (·.1) = false) :
    PE X (.Call (.Attribute a "append" apos) [b] [] pos) (tI X.K W fun η S => (fa η S).bind fun x S => match x with
      | .lo n => if isLst S n then (fb η S).bind fun y S => match S[n]? with
        | some (.lst ds) => if ds.length < sizeLine then .ok .non (S.set n (.lst (ds ++ [y]))) else .bad
        | _ => .bad
        else .bad
      | _ => .bad) := by
  refine PE.by (pe_bm PySem.F.plainAttrs_list PySem.F.slot_list_append PySem.F.type_list_append mt_append ha (pa_cons hb pa_nil hs) hbase hfew hline hs hpl) fun σ H Q h => ?_
  obtain ⟨p, η, S, re, rs, h⟩ := h
  refine tI_of re rs h fun p1 H1 x S1 v e1 re1 rs1 rv h1 => ?_
  cases x with
  | lo n =>
    by_cases hL : isLst S1 n = true
    · have h1 := (show _ from h1)
      simp only [hL, if_true] at h1
      obtain ⟨ds1, q2⟩ := isLst_of hL
      obtain ⟨a1, xs1, ev, q1, q3, q4⟩ := lo_at rs1 rv q2
      subst ev
      refine ⟨.inl ⟨rfl, xs1, SqL.of q3⟩, ?_⟩
      refine tI_of re1 rs1 h1 fun p2 H2 y S2 u e2 re2 rs2 ru h2 => ?_
      cases z2 : S2[n]? with
      | none => simp only [z2] at h2; exact False.elim h2
      | some c =>
        cases c with
        | dct kvs => simp only [z2] at h2; exact False.elim h2
        | lst ds =>
          simp only [z2] at h2
          obtain ⟨a2, xs, ev, z1, z3, z4⟩ := lo_at rs2 (rv.ext e2) z2
          cases ev
          by_cases hz : ds.length < sizeLine
          · rw [if_pos hz] at h2
            have r2 : RVs X.K p2 H2 (ds ++ [y]) (xs ++ [u]) := z4.append ⟨u, [], rfl, ru, rfl⟩
            refine ⟨a1, xs, u, rfl, rfl, z3, by rw [← z4.length]; exact hz, ?_⟩
            exact h2 p2 _ (Ext.write (List.mem_of_getElem? z1)) (rs2.write z1 r2) _ rfl
          · rw [if_neg hz] at h2; exact False.elim h2
    · simp only [hL, if_false] at h1
      exact False.elim h1
  | _ => exact False.elim h1
theorem e_extend {apos : Pos} (ha : PE X a (tI X.K W fa)) (hb : PE X b (tI X.K W fb))
    (hbase : attributeBase a "extend" X.env (eval a X.env) = eval a X.env) (hline : (apos.endLine == pos.line) = true)
    (hfew : ((backTo pos (starEach [b] X.env)).all (fun x => !x.1) && (backToKw pos (keywordEach [] X.env)).all (fun x => x.1.isSome)
      && decide ([b].length + ([] : List Keyword).length + (if ([] : List Keyword).isEmpty then 0 else 1) < 30)) = true)
    (hs : starEach [b] X.env = (false, eval b X.env) :: starEach [] X.env) (hpl : (backTo pos (starEach [] X.env)).any (·.1) = false) :
    PE X (.Call (.Attribute a "extend" apos) [b] [] pos) (tI X.K W fun η S => (fa η S).bind fun x S => match x with
      | .lo n => if isLst S n then (fb η S).bind fun y S => extl S n y else .bad
      | _ => .bad) := by
  refine PE.by (pe_bm PySem.F.plainAttrs_list PySem.F.slot_list_extend PySem.F.type_list_extend mt_extend ha (pa_cons hb pa_nil hs) hbase hfew hline hs hpl) fun σ H Q h => ?_
  obtain ⟨p, η, S, re, rs, h⟩ := h
  refine tI_of re rs h fun p1 H1 x S1 v e1 re1 rs1 rv h1 => ?_
  cases x with
  | lo n =>
    by_cases hL : isLst S1 n = true
    · have h1 := (show _ from h1)
      simp only [hL, if_true] at h1
      obtain ⟨ds1, q2⟩ := isLst_of hL
      obtain ⟨a1, xs1, ev, q1, q3, q4⟩ := lo_at rs1 rv q2
      subst ev
      refine ⟨.inl ⟨rfl, xs1, SqL.of q3⟩, ?_⟩
      refine tI_of re1 rs1 h1 fun p2 H2 y S2 u e2 re2 rs2 ru h2 => ?_
      unfold extl at h2
      split at h2
      · rename_i ds es z2 l1
        obtain ⟨a2, xs, ev, z1, z3, z4⟩ := lo_at rs2 (rv.ext e2) z2
        cases ev
        obtain ⟨b1, bs, rfl, q2, q3⟩ := lsOf_lst rs2 ru l1
        split at h2
        · rename_i hz
          refine ⟨a1, b1, xs, bs, rfl, rfl, z3, q3, by rw [← z4.length, ← q2.length]; exact hz, ?_⟩
          exact h2 p2 _ (Ext.write (List.mem_of_getElem? z1)) (rs2.write z1 (z4.append q2)) _ rfl
        · exact False.elim h2
      · exact False.elim h2
    · simp only [hL, if_false] at h1
      exact False.elim h1
  | _ => exact False.elim h1
theorem RVs.erase {K : PySem.W.Frag} {p : List Addr} {H : Hp} : ∀ (n : Nat) {ds : List D} {vs : List V}, RVs K p H ds vs → RVs K p H (ds.eraseIdx n) (vs.eraseIdx n)
  | _, [], _, h => by cases h; rfl
  | 0, d :: ds, _, h => by
    obtain ⟨v, r, rfl, h2, h3⟩ := h
    exact h3
  | n + 1, d :: ds, _, h => by
    obtain ⟨v, r, rfl, h2, h3⟩ := h
    exact ⟨v, r.eraseIdx n, rfl, h2, RVs.erase n h3⟩
theorem e_popi {apos : Pos} (ha : PE X a (tI X.K W fa)) (hb : PE X b (tI X.K W fb))
    (hbase : attributeBase a "pop" X.env (eval a X.env) = eval a X.env) (hline : (apos.endLine == pos.line) = true)
    (hfew : ((backTo pos (starEach [b] X.env)).all (fun x => !x.1) && (backToKw pos (keywordEach [] X.env)).all (fun x => x.1.isSome)
      && decide ([b].length + ([] : List Keyword).length + (if ([] : List Keyword).isEmpty then 0 else 1) < 30)) = true)
    (hs : starEach [b] X.env = (false, eval b X.env) :: starEach [] X.env) (hpl : (backTo pos (starEach [] X.env)).any (·.1) = false) :
    PE X (.Call (.Attribute a "pop" apos) [b] [] pos) (tI X.K W fun η S => (fa η S).bind fun x S => match x with
      | .lo n => if isLst S n then (fb η S).bind fun y S => popl S n y else .bad
      | _ => .bad) := by
  refine PE.by (pe_bm PySem.F.plainAttrs_list PySem.F.slot_list_pop PySem.F.type_list_pop mt_popAt ha (pa_cons hb pa_nil hs) hbase hfew hline hs hpl) fun σ H Q h => ?_
  obtain ⟨p, η, S, re, rs, h⟩ := h
  refine tI_of re rs h fun p1 H1 x S1 v e1 re1 rs1 rv h1 => ?_
  cases x with
  | lo n =>
    by_cases hL : isLst S1 n = true
    · have h1 := (show _ from h1)
      simp only [hL, if_true] at h1
      obtain ⟨ds1, q2⟩ := isLst_of hL
      obtain ⟨a1, xs1, ev, q1, q3, q4⟩ := lo_at rs1 rv q2
      subst ev
      refine ⟨.inl ⟨rfl, xs1, SqL.of q3⟩, ?_⟩
      refine tI_of re1 rs1 h1 fun p2 H2 y S2 u e2 re2 rs2 ru h2 => ?_
      unfold popl at h2
      split at h2
      · rename_i ds i z2
        cases ru
        obtain ⟨a2, xs, ev, z1, z3, z4⟩ := lo_at rs2 (rv.ext e2) z2
        cases ev
        split at h2
        · rename_i hz
          split at h2
          · rename_i d hd
            obtain ⟨w, hw, rw'⟩ := z4.get hd
            have hlt := (List.getElem?_eq_some_iff.mp hw).1
            have sx : seqIndex? i xs.length = some i.toNat := by
              have hi : ¬ i < 0 := by omega
              have hl2 : i < (xs.length : Int) := by omega
              simp [seqIndex?, hi, hl2]
            refine ⟨a1, xs, i, i.toNat, w, rfl, rfl, z3, by omega, by omega, sx, hw, ?_⟩
            exact h2 p2 _ (Ext.write (List.mem_of_getElem? z1)) (rs2.write z1 (z4.erase _)) _ (rw'.ext (Ext.write (List.mem_of_getElem? z1)))
          · exact False.elim h2
        · exact False.elim h2
      · exact False.elim h2
    · simp only [hL, if_false] at h1
      exact False.elim h1
  | _ => exact False.elim h1
theorem e_dcon : PE X (.Dict [] [] pos) (tI X.K W fun _ S => .ok .dc S) := by
  refine PE.by pe_dnewK fun σ H Q h => ?_
  obtain ⟨p, η, S, re, rs, h⟩ := h
  intro a ha
  exact h p _ (Ext.laid ha) (rs.laid ha) _ ⟨a, rfl, rs.notnew ha, upd_same⟩
theorem e_dnew : PE X (.Dict [] [] pos) (tI X.K W fun _ S => .ok (.lo S.length) (S ++ [.dct []])) := by
  refine PE.by pe_dnewK fun σ H Q h => ?_
  obtain ⟨p, η, S, re, rs, h⟩ := h
  intro a ha
  refine h (p ++ [a]) _ (Ext.cell ha) (rs.cellC ha ⟨[], upd_same, rfl, rfl⟩) _ ⟨a, ?_, rfl⟩
  rw [← rs.len, List.getElem?_append_right (Nat.le_refl _), Nat.sub_self]
  rfl
end

/-! ### targets -/
def tG (K : PySem.W.Frag) (W : XD) (f : D → Sl → Store → Res Sl) : TG := fun v σ H Q => ∃ p η S d, RE K p H η σ ∧ RS K p H S ∧ RV K p H d v ∧ Good K p H (f d η S) (fun p' H' η' _ => ∀ σ', RE K p' H' η' σ' → Q σ' H') W
def tGs (K : PySem.W.Frag) (W : XD) (f : List D → Sl → Store → Res Sl) : TGs := fun vs σ H Q => ∃ p η S ds, RE K p H η σ ∧ RS K p H S ∧ RVs K p H ds vs ∧ Good K p H (f ds η S) (fun p' H' η' _ => ∀ σ', RE K p' H' η' σ' → Q σ' H') W
theorem PG.by {X : Cx} {e : Expr} {t t' : TG} (h : PG X e t) (f : ∀ v σ H Q, t' v σ H Q → t v σ H Q) : PG X e t' := ⟨fun pins s σ H v u Q I r q => h.run pins s σ H v u Q I r (f v σ H Q q)⟩
theorem PGs.by {X : Cx} {e : List Expr} {t t' : TGs} (h : PGs X e t) (f : ∀ v σ H Q, t' v σ H Q → t v σ H Q) : PGs X e t' := ⟨fun pins s σ H v u Q I r q => h.run pins s σ H v u Q I r (f v σ H Q q)⟩
theorem RE.set {K : PySem.W.Frag} {p : List Addr} {H : Hp} {η : Sl} {σ : L2.St} {d : D} {v : V} (re : RE K p H η σ) (r : RV K p H d v) (i : Nat) : RE K p H (η.set i (some d)) (σ.set i (some v)) := by
  refine ⟨by rw [List.length_set, List.length_set]; exact re.len, fun j e h => ?_⟩
  by_cases hij : i = j
  · subst hij
    have hi : i < η.length := by
      have := (List.getElem?_eq_some_iff.mp h).1
      rw [List.length_set] at this; exact this
    rw [List.getElem?_set_self hi] at h
    cases h
    exact ⟨v, List.getElem?_set_self (by rw [← re.len]; exact hi), r⟩
  · rw [List.getElem?_set_ne hij] at h
    obtain ⟨w, h1, h2⟩ := re.val j e h
    exact ⟨w, by rw [List.getElem?_set_ne hij]; exact h1, h2⟩
section
variable {X : Cx} {W : XD} {a b : Expr} {fa fb : Sl → Store → Res D} {pos : Pos} {k : Nat}
theorem g_name {i : Nat} {x : Str} (hN : X.N.Nodup) (hi : X.N[i]? = some x) (hx : Loc X.env.scope x) (hf : X.fn x = true ∨ X.env.scope.names.lookup x = some .local) : PG X (.Name x pos) (tG X.K W fun d η S => .ok (η.set i (some d)) S) := by
  refine PG.by (pg_name hN hi hx hf) fun v σ H Q h => ?_
  obtain ⟨p, η, S, d, re, rs, rv, h⟩ := h
  exact Good.here h rs _ (re.set rv i)
theorem gs_nil : PGs X [] (tGs X.K W fun ds η S => match ds with
    | [] => .ok η S
    | _ => .bad) := by
  refine PGs.by pgs_nil fun v σ H Q h => ?_
  obtain ⟨p, η, S, ds, re, rs, rv, h⟩ := h
  cases ds with
  | nil => cases rv; exact ⟨rfl, Good.here h rs _ re⟩
  | cons _ _ => exact False.elim h
theorem gs_cons {e : Expr} {es : List Expr} {f : D → Sl → Store → Res Sl} {fs : List D → Sl → Store → Res Sl} (h1 : PG X e (tG X.K W f)) (h2 : PGs X es (tGs X.K W fs)) (hs : (assignEach (e :: es) X.env).map (·.2) = assign e X.env :: (assignEach es X.env).map (·.2)) :
    PGs X (e :: es) (tGs X.K W fun ds η S => match ds with
      | [] => .bad
      | d :: ds => (f d η S).bind fun η S => fs ds η S) := by
  refine PGs.by (pgs_cons h1 h2 hs) fun v σ H Q h => ?_
  obtain ⟨p, η, S, ds, re, rs, rv, h⟩ := h
  cases ds with
  | nil => exact False.elim h
  | cons d ds =>
    obtain ⟨w, r, rfl, r1, r2⟩ := rv
    refine ⟨w, r, rfl, p, η, S, d, re, rs, r1, ?_⟩
    exact (Good.bind (r := f d η S) h).imp fun p1 H1 η1 S1 e1 rs1 q σ' re1 => ⟨p1, η1, S1, ds, re1, rs1, r2.ext e1, q⟩
theorem pg_or {e : Expr} {t1 t2 : TG} (h1 : PG X e t1) (h2 : PG X e t2) : PG X e (fun v σ H Q => t1 v σ H Q ∨ t2 v σ H Q) := ⟨fun pins s σ H v u Q I r q => q.elim (h1.run pins s σ H v u Q I r) (h2.run pins s σ H v u Q I r)⟩
theorem g_tup {es : List Expr} {fs : List D → Sl → Store → Res Sl} {n x1 : Nat} (hc : X.calm = true) (h : PGs X es (tGs X.K W fs)) (hn : (assignEach es X.env).length = n) (hst : (assignEach es X.env).findIdx? (·.1) = none) :
    PG X (.Tuple es x1 pos) (tG X.K W fun d η S => match d with
      | .tup ds => if ds.length = n then fs ds η S else .bad
      | .lv ds => if ds.length = n then fs ds η S else .bad
      | _ => .bad) := by
  refine PG.by (pg_or (pg_tup (n := n) hc h hn hst) (pg_unl (n := n) hc h hn hst)) fun v σ H Q h => ?_
  obtain ⟨p, η, S, d, re, rs, rv, h⟩ := h
  cases d with
  | tup ds =>
    obtain ⟨a, xs, rfl, r, q⟩ := rv
    by_cases hz : ds.length = n
    · have h : Good X.K p H (if ds.length = n then fs ds η S else .bad) _ W := h
      rw [if_pos hz] at h
      exact .inl ⟨a, xs, rfl, SqT_of q, by rw [← r.length]; exact hz, p, η, S, ds, re, rs, r, h⟩
    · have h : Good X.K p H (if ds.length = n then fs ds η S else .bad) _ W := h
      rw [if_neg hz] at h
      exact False.elim h
  | lv ds =>
    obtain ⟨a, xs, rfl, r, _, q⟩ := rv
    by_cases hz : ds.length = n
    · have h : Good X.K p H (if ds.length = n then fs ds η S else .bad) _ W := h
      rw [if_pos hz] at h
      exact .inr ⟨a, xs, rfl, SqL.of q, by rw [← r.length]; exact hz, p, η, S, ds, re, rs, r, h⟩
    · have h : Good X.K p H (if ds.length = n then fs ds η S else .bad) _ W := h
      rw [if_neg hz] at h
      exact False.elim h
  | _ => exact False.elim h
theorem set_or {X : Cx} {t t' : TSet} (h : PSet X t) (h' : PSet X t') : PSet X (fun x y v H Q => t x y v H Q ∨ t' x y v H Q) := by
  intro pins s σ H x y v ov iv u Q I r1 r2 r3 q
  rcases q with q | q
  · exact h pins s σ H x y v ov iv u Q I r1 r2 r3 q
  · exact h' pins s σ H x y v ov iv u Q I r1 r2 r3 q
theorem set_dct {X : Cx} (cf : Cf X k) : PSet X (fun x y v H Q => ∃ a kvs i, x = .ref a ∧ y = .int i ∧ H a = some (.dK kvs) ∧ kvs.length < sizeLine ∧ Q (upd H a (.dK (putK kvs (Sum.inl i) v)))) := by
  intro pins s σ H x y v ov iv u Q I r1 r2 r3 q
  obtain ⟨a, kvs, i, rfl, rfl, hH, hz, q⟩ := q
  cases r1
  exact d_setItem (by have := cf.room.un; omega) I (DPut.k (k := Sum.inl i) hH hz) r2 r3 fun s' I' => ⟨_, I', q⟩
theorem RKs.len {K : PySem.W.Frag} {p : List Addr} {H : Hp} {kvs : List (Int × D)} {kws : List (Key × V)} (h : RKs K p H kvs kws) : kvs.length = kws.length := by
  have := congrArg List.length h.1
  rw [List.length_map, List.length_map] at this
  exact this.symm
theorem RKs.ext {K : PySem.W.Frag} {p p' : List Addr} {H H' : Hp} {kvs : List (Int × D)} {kws : List (Key × V)} (h : RKs K p H kvs kws) (e : Ext p H p' H') : RKs K p' H' kvs kws := ⟨h.1, h.2.ext e⟩
theorem RKs.cons {K : PySem.W.Frag} {p : List Addr} {H : Hp} {x : Int × D} {kvs : List (Int × D)} {kws : List (Key × V)} (h : RKs K p H (x :: kvs) kws) : ∃ v r, kws = (Sum.inl x.1, v) :: r ∧ RV K p H x.2 v ∧ RKs K p H kvs r := by
  obtain ⟨h1, v, r, h2, h3, h4⟩ := h
  cases kws with
  | nil => cases h1
  | cons y ws =>
    obtain ⟨k, w⟩ := y
    rw [List.map_cons, List.map_cons] at h1
    rw [List.map_cons] at h2
    injection h1 with h5 h6
    injection h2 with h7 h8
    simp only at h5 h7
    subst h5 h7 h8
    exact ⟨_, ws, rfl, h3, h6, h4⟩
theorem RKs.mk {K : PySem.W.Frag} {p : List Addr} {H : Hp} {i : Int} {d : D} {v : V} {kvs : List (Int × D)} {kws : List (Key × V)} (r : RV K p H d v) (h : RKs K p H kvs kws) : RKs K p H ((i, d) :: kvs) ((Sum.inl i, v) :: kws) :=
  ⟨by rw [List.map_cons, List.map_cons, h.1], v, _, rfl, r, h.2⟩
theorem RKs.nil {K : PySem.W.Frag} {p : List Addr} {H : Hp} : RKs K p H [] [] := ⟨rfl, rfl⟩
theorem RKs.any {K : PySem.W.Frag} {p : List Addr} {H : Hp} (k : Int) : ∀ {kvs : List (Int × D)} {kws : List (Key × V)}, RKs K p H kvs kws → (kws.any fun x => decide (x.1 = (Sum.inl k : Key))) = kvs.any fun x => decide (x.1 = k)
  | [], kws, h => by
    have := h.len
    cases kws with
    | nil => rfl
    | cons _ _ => cases this
  | x :: kvs, kws, h => by
    obtain ⟨v, r, rfl, _, h2⟩ := h.cons
    rw [List.any_cons, List.any_cons, RKs.any k h2]
    congr 1
    exact decide_eq_decide.mpr ⟨fun e => Sum.inl.inj e, fun e => congrArg Sum.inl e⟩
theorem RKs.map {K : PySem.W.Frag} {p : List Addr} {H : Hp} (k : Int) {d : D} {v : V} (rv : RV K p H d v) : ∀ {kvs : List (Int × D)} {kws : List (Key × V)}, RKs K p H kvs kws → RKs K p H (kvs.map (fun x => if x.1 = k then (x.1, d) else x)) (kws.map fun kv => if kv.1 = (Sum.inl k : Key) then (kv.1, v) else kv)
  | [], kws, h => by
    have := h.len
    cases kws with
    | nil => exact RKs.nil
    | cons _ _ => cases this
  | x :: kvs, kws, h => by
    obtain ⟨w, r, rfl, h1, h2⟩ := h.cons
    rw [List.map_cons, List.map_cons]
    by_cases e : x.1 = k
    · rw [if_pos e, if_pos (show (Sum.inl x.1 : Key) = Sum.inl k by rw [e])]
      exact RKs.mk rv (RKs.map k rv h2)
    · rw [if_neg e, if_neg (show ¬ (Sum.inl x.1 : Key) = Sum.inl k from fun q => e (Sum.inl.inj q))]
      exact RKs.mk h1 (RKs.map k rv h2)
theorem RKs.snoc {K : PySem.W.Frag} {p : List Addr} {H : Hp} (k : Int) {d : D} {v : V} (rv : RV K p H d v) : ∀ {kvs : List (Int × D)} {kws : List (Key × V)}, RKs K p H kvs kws → RKs K p H (kvs ++ [(k, d)]) (kws ++ [(Sum.inl k, v)])
  | [], kws, h => by
    have := h.len
    cases kws with
    | nil => exact RKs.mk rv RKs.nil
    | cons _ _ => cases this
  | x :: kvs, kws, h => by
    obtain ⟨w, r, rfl, h1, h2⟩ := h.cons
    exact RKs.mk h1 (RKs.snoc k rv h2)
theorem RKs.put {K : PySem.W.Frag} {p : List Addr} {H : Hp} {kvs : List (Int × D)} {kws : List (Key × V)} (h : RKs K p H kvs kws) (k : Int) {d : D} {v : V} (rv : RV K p H d v) : RKs K p H (putD kvs k d) (putK kws (Sum.inl k) v) := by
  unfold putD putK
  rw [h.any k]
  split
  · exact RKs.map k rv h
  · exact RKs.snoc k rv h
theorem RKs.val {K : PySem.W.Frag} {p : List Addr} {H : Hp} (k : Int) : ∀ {kvs : List (Int × D)} {kws : List (Key × V)}, RKs K p H kvs kws → match valD kvs k with
    | some d => ∃ v, valV kws (Sum.inl k) = some v ∧ RV K p H d v
    | none => valV kws (Sum.inl k) = none
  | [], kws, h => by
    have := h.len
    cases kws with
    | nil => exact valV_nil
    | cons _ _ => cases this
  | x :: kvs, kws, h => by
    obtain ⟨v, r, rfl, h1, h2⟩ := h.cons
    unfold valD
    by_cases e : x.1 = k
    · rw [if_pos e]
      exact ⟨v, valV_pos (show (Sum.inl x.1 : Key) = Sum.inl k by rw [e]), h1⟩
    · rw [if_neg e, valV_neg (show ¬ (Sum.inl x.1 : Key) = Sum.inl k from fun q => e (Sum.inl.inj q))]
      exact RKs.val k h2
theorem e_dget {apos : Pos} {e : Expr} {fe : Sl → Store → Res D} (cf : Cf X k) (ha : PE X a (tI X.K W fa)) (hb : PE X b (tI X.K W fb)) (he : PE X e (tI X.K W fe)) (m : M2 X a "get" apos b e pos) :
    PE X (.Call (.Attribute a "get" apos) [b, e] [] pos) (tI X.K W fun η S => (fa η S).bind fun x S => match x with
      | .lo n => if isDct S n then (fb η S).bind fun y S => (fe η S).bind fun z S => match S[n]?, y with
        | some (.dct kvs), .int i => .ok ((valD kvs i).getD z) S
        | _, _ => .bad
        else .bad
      | _ => .bad) := by
  refine PE.by (pe_dget2 (by have := cf.room.un; omega) ha hb he m) fun σ H Q h => ?_
  obtain ⟨p, η, S, re, rs, h⟩ := h
  refine tI_of re rs h fun p1 H1 x S1 v e1 re1 rs1 rv h1 => ?_
  cases x with
  | lo n =>
    by_cases hL : isDct S1 n = true
    · simp only [hL, if_true] at h1
      obtain ⟨kvs1, q2⟩ := isDct_of hL
      obtain ⟨a1, kws1, ev, q1, q3, q4⟩ := lo_dct rs1 rv q2
      subst ev
      refine ⟨a1, rfl, .inl ⟨kws1, .inl q3⟩, ?_⟩
      refine tI_of re1 rs1 h1 fun p2 H2 y S2 u e2 re2 rs2 ru h2 => ?_
      refine tI_of re2 rs2 h2 fun p3 H3 z S3 w e3 re3 rs3 rw' h3 => ?_
      cases z2 : S3[n]? with
      | none => simp only [z2] at h3; exact False.elim h3
      | some c =>
        cases c with
        | lst ds => simp only [z2] at h3; exact False.elim h3
        | dct kvs =>
          cases y with
          | int i =>
            simp only [z2] at h3
            have ru3 := ru.ext e3
            cases ru3
            obtain ⟨a2, kws, ev, z1, z3, z4⟩ := lo_dct rs3 ((rv.ext e2).ext e3) z2
            cases ev
            refine ⟨valV kws (Sum.inl i), DGet.k (k := Sum.inl i) z3, ?_⟩
            have hv := z4.val i
            cases q : valD kvs i with
            | none =>
              rw [q] at hv h3
              rw [show valV kws (Sum.inl i) = none from hv]
              exact Good.val (d := z) h3 rs3 rw'
            | some d =>
              rw [q] at hv h3
              obtain ⟨v', hv1, hv2⟩ := hv
              rw [hv1]
              exact Good.val (d := d) h3 rs3 hv2
          | _ => simp only [z2] at h3; exact False.elim h3
    · simp only [hL, if_false] at h1
      exact False.elim h1
  | _ => exact False.elim h1
theorem g_sub (cf : Cf X k) (ha : PE X a (tI X.K W fa)) (hb : PE X b (tI X.K W fb))
    (hg : ∀ v, assign (.Subscript a b pos) X.env v = (do
      let ov ← holding [v] (eval a X.env)
      let iv ← holding [v, ov] (eval b X.env)
      standAt pos
      holding [v, ov, iv] (setItem ov iv v)
      release [v, ov, iv] [])) :
    PG X (.Subscript a b pos) (tG X.K W fun d η S => (fa η S).bind fun x S => (fb η S).bind fun y S => match x, y with
      | .lo n, .int k => match S[n]? with
        | some (.lst ds) => match ixN ds.length k with
          | some j => .ok η (S.set n (.lst (ds.set j d)))
          | none => .bad
        | some (.dct kvs) => if kvs.length < sizeLine then .ok η (S.set n (.dct (putD kvs k d))) else .bad
        | _ => .bad
      | _, _ => .bad) := by
  refine PG.by (pg_sub ha hb (set_or set_list (set_dct cf)) hg) fun v σ H Q h => ?_
  obtain ⟨p, η, S, d, re, rs, rv, h⟩ := h
  refine tI_of re rs h fun p1 H1 x S1 u e1 re1 rs1 ru h1 => ?_
  refine tI_of re1 rs1 h1 fun p2 H2 y S2 w e2 re2 rs2 rw' h2 => ?_
  cases x with
  | lo n =>
    cases y with
    | int j =>
      cases rw'
      cases z2 : S2[n]? with
      | none => simp only [z2] at h2; exact False.elim h2
      | some c =>
        cases c with
        | lst ds =>
          simp only [z2] at h2
          obtain ⟨a2, xs, ev, z1, z3, z4⟩ := lo_at rs2 (ru.ext e2) z2
          cases ev
          cases q : ixN ds.length j with
          | none => simp only [q] at h2; exact False.elim h2
          | some i =>
            simp only [q] at h2
            have r2 : RVs X.K p2 H2 (ds.set i d) (xs.set i v) := RVs.set ((rv.ext e1).ext e2) i z4
            refine .inl ⟨a2, xs, j, i, rfl, rfl, z3, by rw [← z4.length]; exact q, ?_⟩
            exact h2 p2 _ (Ext.write (List.mem_of_getElem? z1)) (rs2.write z1 r2) σ (re2.ext (Ext.write (List.mem_of_getElem? z1)))
        | dct kvs =>
          simp only [z2] at h2
          obtain ⟨a2, kws, ev, z1, z3, z4⟩ := lo_dct rs2 (ru.ext e2) z2
          cases ev
          by_cases hz : kvs.length < sizeLine
          · rw [if_pos hz] at h2
            refine .inr ⟨a2, kws, j, rfl, rfl, z3, by rw [← z4.len]; exact hz, ?_⟩
            exact h2 p2 _ (Ext.write (List.mem_of_getElem? z1)) (rs2.writeC z1 ⟨_, upd_same, (z4.put j ((rv.ext e1).ext e2)).ext (Ext.write (List.mem_of_getElem? z1))⟩) σ (re2.ext (Ext.write (List.mem_of_getElem? z1)))
          · rw [if_neg hz] at h2; exact False.elim h2
    | _ => exact False.elim h2
  | _ => cases y <;> exact False.elim h2
end

/-! ### statements -/
def EndF (K : PySem.W.Frag) (D : Ends) (p : List Addr) (H : Hp) : Fl → Prop
  | .nx η => ∀ σ, RE K p H η σ → D.nx σ H
  | .rt d => ∀ v, RV K p H d v → D.rt v H
  | .bk η => ∀ σ, RE K p H η σ → D.bk σ H
  | .ct η => ∀ σ, RE K p H η σ → D.ct σ H
def tS (K : PySem.W.Frag) (W : XD) (f : Sl → Store → Res Fl) : TS := fun D σ H => ∃ p η S, RE K p H η σ ∧ RS K p H S ∧ Good K p H (f η S) (fun p' H' fl _ => EndF K D p' H' fl) W
section
variable {X : Cx} {W : XD} {a b c : Expr} {fa fb fc : Sl → Store → Res D} {g1 g2 : Sl → Store → Res Fl} {pos : Pos} {k : Nat}
theorem s_nil : PSs X [] (tS X.K W fun η S => .ok (.nx η) S) := by
  refine PSs.by pss_nil fun D σ H h => ?_
  obtain ⟨p, η, S, re, rs, h⟩ := h
  exact Good.here (a := Fl.nx η) h rs σ re
theorem s_cons {s : Stmt} {ss : List Stmt} (h1 : PS X s (tS X.K W g1)) (h2 : PSs X ss (tS X.K W g2)) : PSs X (s :: ss) (tS X.K W fun η S => (g1 η S).bind fun f S => match f with
    | .nx η => g2 η S
    | f => .ok f S) := by
  refine PSs.by (pss_cons h1 h2) fun D σ H h => ?_
  obtain ⟨p, η, S, re, rs, h⟩ := h
  refine ⟨p, η, S, re, rs, (Good.bind h).imp fun p1 H1 f S1 e1 rs1 q => ?_⟩
  cases f with
  | nx η1 => exact fun σ1 re1 => ⟨p1, η1, S1, re1, rs1, q⟩
  | rt d => exact Good.here (a := Fl.rt d) q rs1
  | bk η1 => exact Good.here (a := Fl.bk η1) q rs1
  | ct η1 => exact Good.here (a := Fl.ct η1) q rs1
theorem s_expr (ha : PE X a (tI X.K W fa)) (hs : swapsWith a none pos.line X.env = pure false) : PS X (.Expr a pos) (tS X.K W fun η S => (fa η S).bind fun _ S => .ok (.nx η) S) := by
  refine PS.by (ps_expr ha hs) fun D σ H h => ?_
  obtain ⟨p, η, S, re, rs, h⟩ := h
  refine tI_of re rs h fun p1 H1 d S1 v e1 re1 rs1 rv h1 => ?_
  exact Good.here (a := Fl.nx η) h1 rs1 σ re1
theorem s_asg {tg : Expr} {g : D → Sl → Store → Res Sl} (ha : PE X a (tI X.K W fa)) (hg : PG X tg (tG X.K W g)) (hs : swapsWithSole [tg] a pos.line X.env = pure false) (hw : swappedStores [tg] a X.env = pure none)
    (h1 : (assignEach [tg] X.env).map (·.2) = [assign tg X.env]) : PS X (.Assign [tg] a pos) (tS X.K W fun η S => (fa η S).bind fun d S => (g d η S).bind fun η S => .ok (.nx η) S) := by
  refine PS.by (ps_asg ha hg hs hw h1) fun D σ H h => ?_
  obtain ⟨p, η, S, re, rs, h⟩ := h
  refine tI_of re rs h fun p1 H1 d S1 v e1 re1 rs1 rv h1 => ?_
  exact ⟨p1, η, S1, d, re1, rs1, rv, (Good.bind (r := g d η S1) h1).imp fun p2 H2 η2 S2 e2 rs2 q σ2 re2 => Good.here (a := Fl.nx η2) q rs2 σ2 re2⟩
theorem s_par {i j : Nat} {x y : Str} {px py pt : Pos} {kt k2 pt2} (hc : X.calm = true) (hN : X.N.Nodup) (hi : X.N[i]? = some x) (hj : X.N[j]? = some y) (hij : i ≠ j)
    (hx : X.env.scope.names.lookup x = some .local) (hy : X.env.scope.names.lookup y = some .local) (ha : PE X a (tI X.K W fa)) (hb : PE X b (tI X.K W fb))
    (hs1 : starEach [a, b] X.env = (false, eval a X.env) :: starEach [b] X.env) (hs2 : starEach [b] X.env = (false, eval b X.env) :: starEach [] X.env)
    (hw : swappedStores [.Tuple [.Name x px, .Name y py] kt pt] (.Tuple [a, b] k2 pt2) X.env = pure (some [x, y]))
    (hs : swapsWithSole [.Tuple [.Name x px, .Name y py] kt pt] (.Tuple [a, b] k2 pt2) pos.line X.env = pure false) :
    PS X (.Assign [.Tuple [.Name x px, .Name y py] kt pt] (.Tuple [a, b] k2 pt2) pos) (tS X.K W fun η S => (fa η S).bind fun x S => (fb η S).bind fun y S => .ok (.nx ((η.set i (some x)).set j (some y))) S) := by
  refine PS.by (ps_par hc hN hi hj hij hx hy (pa_cons ha (pa_cons hb pa_nil hs2) hs1) hw hs) fun D σ H h => ?_
  obtain ⟨p, η, S, re, rs, h⟩ := h
  refine tI_of re rs h fun p1 H1 d S1 v e1 re1 rs1 rv h1 => ?_
  refine tI_of re1 rs1 h1 fun p2 H2 e S2 u e2 re2 rs2 ru h2 => ?_
  exact ⟨v, u, rfl, Good.here (a := Fl.nx _) h2 rs2 _ ((re2.set (rv.ext e2) i).set ru j)⟩
theorem s_if {gc : Sl → Store → Res Bool} {as bs : List Stmt} (hc : PT X c (tT X.K W gc)) (ha : PSs X as (tS X.K W g1)) (hb : PSs X bs (tS X.K W g2)) : PS X (.If c as bs pos) (tS X.K W fun η S => (gc η S).bind fun t S => if t then g1 η S else g2 η S) := by
  refine PS.by (ps_if hc ha hb) fun D σ H h => ?_
  obtain ⟨p, η, S, re, rs, h⟩ := h
  refine tT_of re rs h fun p1 H1 t S1 e1 re1 rs1 h1 => ?_
  cases t with
  | true => exact ⟨p1, η, S1, re1, rs1, h1⟩
  | false => exact ⟨p1, η, S1, re1, rs1, h1⟩
theorem s_ret (ha : PE X a (tI X.K W fa)) : PS X (.Return (some a) pos) (tS X.K W fun η S => (fa η S).bind fun d S => .ok (.rt d) S) := by
  refine PS.by (ps_ret ha) fun D σ H h => ?_
  obtain ⟨p, η, S, re, rs, h⟩ := h
  refine tI_of re rs h fun p1 H1 d S1 v e1 re1 rs1 rv h1 => ?_
  exact Good.here (a := Fl.rt d) h1 rs1 v rv
theorem s_retn : PS X (.Return none pos) (tS X.K W fun _ S => .ok (.rt .non) S) := by
  refine PS.by ps_retN fun D σ H h => ?_
  obtain ⟨p, η, S, re, rs, h⟩ := h
  exact Good.here (a := Fl.rt .non) h rs _ rfl
theorem s_pass : PS X (.Pass pos) (tS X.K W fun η S => .ok (.nx η) S) := by
  refine PS.by ps_pass fun D σ H h => ?_
  obtain ⟨p, η, S, re, rs, h⟩ := h
  exact Good.here (a := Fl.nx η) h rs σ re
theorem s_brk : PS X (.Break pos) (tS X.K W fun η S => .ok (.bk η) S) := by
  refine PS.by ps_break fun D σ H h => ?_
  obtain ⟨p, η, S, re, rs, h⟩ := h
  exact Good.here (a := Fl.bk η) h rs σ re
theorem s_cnt : PS X (.Continue pos) (tS X.K W fun η S => .ok (.ct η) S) := by
  refine PS.by ps_continue fun D σ H h => ?_
  obtain ⟨p, η, S, re, rs, h⟩ := h
  exact Good.here (a := Fl.ct η) h rs σ re
theorem s_never {s : Stmt} : PS X s (tS X.K W fun _ _ => .bad) := by
  refine PS.by ps_never fun D σ H h => ?_
  obtain ⟨p, η, S, re, rs, h⟩ := h
  exact h
/-- a while -/
theorem s_whl {gc : Sl → Store → Res Bool} {bs : List Stmt} (hp : PassesOwn (model X.prog X.w) X.A X.env X.xe) (hc : PT X c (tT X.K W gc)) (hb : PSs X bs (tS X.K W g1)) : PS X (.While c bs [] pos) (tS X.K W (whl gc g1)) := by
  refine PS.by (ps_while hp hc hb) fun D σ H h => ?_
  obtain ⟨p, η, S, re, rs, h⟩ := h
  have hex : ∃ n, whlN gc g1 n η S ≠ .bad := by
    refine Classical.byContradiction fun z => ?_
    unfold whl at h
    rw [dif_neg z] at h
    exact h
  obtain ⟨n, hn⟩ : ∃ n, whl gc g1 η S = whlN gc g1 n η S := ⟨hex.choose, by unfold whl; rw [dif_pos hex]⟩
  rw [hn] at h
  refine ⟨fun m σ H => ∃ p η S, RE X.K p H η σ ∧ RS X.K p H S ∧ Good X.K p H (whlN gc g1 m η S) (fun p' H' fl _ => EndF X.K D p' H' fl) W, ⟨n, p, η, S, re, rs, h⟩, ?_⟩
  rintro m σ H ⟨p, η, S, re, rs, h⟩
  cases m with
  | zero => exact False.elim h
  | succ m =>
    refine tT_of re rs h fun p1 H1 t S1 e1 re1 rs1 h1 => ?_
    cases t with
    | false =>
      have h1 : Good X.K p1 H1 (.ok (.nx η) S1) (fun p' H' fl _ => EndF X.K D p' H' fl) W := h1
      have fin := Good.here h1 rs1 σ re1
      first | exact fin | (rw [if_neg Bool.false_ne_true]; exact fin)
    | true =>
      have fin : ∃ N : L2.St → Hp → Prop, (∀ σ' H', N σ' H' → ∃ m', m' < m + 1 ∧ ∃ p η S, RE X.K p H' η σ' ∧ RS X.K p H' S ∧ Good X.K p H' (whlN gc g1 m' η S) (fun p' H' fl _ => EndF X.K D p' H' fl) W) ∧ tS X.K W g1 { D with nx := N, ct := N, bk := D.nx } σ H1 := by
        refine ⟨_, fun σ' H' q => ⟨m, Nat.lt_succ_self m, q⟩, p1, η, S1, re1, rs1, (Good.bind (r := g1 η S1) h1).imp fun p2 H2 f S2 e2 rs2 q => ?_⟩
        cases f with
        | nx η2 => exact fun σ2 re2 => ⟨p2, η2, S2, re2, rs2, q⟩
        | ct η2 => exact fun σ2 re2 => ⟨p2, η2, S2, re2, rs2, q⟩
        | bk η2 => exact fun σ2 re2 => Good.here (a := Fl.nx η2) q rs2 σ2 re2
        | rt d => exact Good.here (a := Fl.rt d) q rs2
      first | exact fin | (rw [if_pos rfl]; exact fin)
end
end Py

set_option Elab.async false
set_option linter.all false
set_option maxRecDepth 100000
set_option maxHeartbeats 4000000
/-! What is walked; for; comprehensions. -/
namespace Py
open PySem PySem.Spec PyProof.Rows L2

/-- the walk J hands on the items ds, from wherever the heap has come to, as long as the guard holds -/
def Drw (K : PySem.W.Frag) (J : It) (g : Store → Bool) (ds : List D) (p0 : List Addr) (H0 : Hp) : Prop :=
  ∀ (i : Nat) (p : List Addr) (H : Hp) (S : Store), Ext p0 H0 p H → RS K p H S → g S = true →
    (∀ d, ds[i]? = some d → J.go i H ∧ ∀ x H', J.yld i H x H' → Ext p H p H' ∧ RS K p H' S ∧ RV K p H' d x) ∧ (ds.length ≤ i → J.stop i H)
def tW (K : PySem.W.Frag) (W : XD) (f : Sl → Store → Res (D × List D)) : TI := fun σ H R => ∃ p η S, RE K p H η σ ∧ RS K p H S ∧ Good K p H (f η S) (fun p' H' x S' => ∀ J, Drw K J (guardOf x.1 S') x.2 p' H' → R J H') W
theorem PI.by {X : Cx} {tg e : Expr} {t t' : L2.TI} (h : PI X tg e t) (f : ∀ σ H R, t' σ H R → t σ H R) : PI X tg e t' := ⟨fun pins s σ H R I q => h.run pins s σ H R I (f σ H R q)⟩
theorem PI.or {X : Cx} {tg e : Expr} {t t' : L2.TI} (h : PI X tg e t) (h' : PI X tg e t') : PI X tg e (fun σ H R => t σ H R ∨ t' σ H R) := ⟨fun pins s σ H R I q => by
  rcases q with q | q
  · exact h.run pins s σ H R I q
  · exact h'.run pins s σ H R I q⟩
section
variable {K : PySem.W.Frag} {p : List Addr} {H : Hp} {S : Store} {W : XD}
theorem items_list {d : D} {ds : List D} {v : V} (rs : RS K p H S) (rv : RV K p H d v) (nt : ∀ es, d ≠ .tup es) (e : items S d = some ds) : ∃ a xs, v = .ref a ∧ RVs K p H ds xs ∧ SqL K H a xs := by
  cases d with
  | tup es => exact (nt es rfl).elim
  | lv es =>
    cases (Option.some.inj e)
    obtain ⟨a, xs, e1, e2, _, e3⟩ := rv
    exact ⟨a, xs, e1, e2, SqL.of e3⟩
  | fz es =>
    cases (Option.some.inj e)
    obtain ⟨a, xs, e1, e2, e3⟩ := rv
    exact ⟨a, xs, e1, e2, SqL_of e3⟩
  | lo n =>
    obtain ⟨a, xs, h1, h2, h3⟩ := lsOf_lst (d := .lo n) rs rv e
    exact ⟨a, xs, h1, h2, SqL.of h3⟩
  | _ => cases e
theorem items_tup {ds : List D} {v : V} (rv : RV K p H (.tup ds) v) : ∃ a xs, v = .ref a ∧ RVs K p H ds xs ∧ SqT K H a xs := by
  obtain ⟨a, xs, e1, e2, e3⟩ := rv
  exact ⟨a, xs, e1, e2, SqT_of e3⟩
/-- what is walked stands -/
theorem items_keep {d : D} {ds : List D} {S' : Store} (e : items S d = some ds) (g : guardOf d S S' = true) : items S' d = some ds := by
  cases d with
  | lo n =>
    have q : S'[n]? = S[n]? := by
      unfold guardOf at g
      exact @of_decide_eq_true _ (Classical.propDecidable _) g
    simp only [items] at e ⊢
    rw [q]; exact e
  | _ => exact e
theorem drw_list {d : D} {ds : List D} {v : V} (rs : RS K p H S) (rv : RV K p H d v) (e : items S d = some ds) (nt : ∀ es, d ≠ .tup es) : ∃ a xs, v = .ref a ∧ RVs K p H ds xs ∧ SqL K H a xs ∧ Drw K (Itl K a) (guardOf d S) ds p H := by
  obtain ⟨a, xs, rfl, r0, h0⟩ := items_list rs rv nt e
  refine ⟨a, xs, rfl, r0, h0, fun i p' H' S' ex rs' g => ?_⟩
  obtain ⟨a', ys, ea, r, hq⟩ := items_list rs' (rv.ext ex) nt (items_keep e g)
  cases ea
  refine ⟨fun d' hd => ?_, fun hl => ⟨ys, hq, by rw [← r.length]; exact hl⟩⟩
  obtain ⟨w, hw, rw'⟩ := r.get hd
  refine ⟨⟨ys, w, hq, hw⟩, fun x H'' y => ?_⟩
  obtain ⟨rfl, y⟩ := y
  have z := y ys hq
  rw [hw] at z
  cases z
  exact ⟨Ext.refl, rs', rw'⟩
theorem drw_tup {ds : List D} {v : V} (rs : RS K p H S) (rv : RV K p H (.tup ds) v) : ∃ a xs, v = .ref a ∧ RVs K p H ds xs ∧ SqT K H a xs ∧ Drw K (Itt K a) (guardOf (.tup ds) S) ds p H := by
  obtain ⟨a, xs, rfl, r0, h0⟩ := items_tup rv
  refine ⟨a, xs, rfl, r0, h0, fun i p' H' S' ex rs' g => ?_⟩
  obtain ⟨a', ys, ea, r, hq⟩ := items_tup (rv.ext ex)
  cases ea
  refine ⟨fun d' hd => ?_, fun hl => ⟨ys, hq, by rw [← r.length]; exact hl⟩⟩
  obtain ⟨w, hw, rw'⟩ := r.get hd
  refine ⟨⟨ys, w, hq, hw⟩, fun x H'' y => ?_⟩
  obtain ⟨rfl, y⟩ := y
  have z := y ys hq
  rw [hw] at z
  cases z
  exact ⟨Ext.refl, rs', rw'⟩
theorem rng_get : ∀ (n : Nat) (lo : Int) (i : Nat) (d : D), (rng lo n)[i]? = some d → i < n ∧ d = .int (lo + i)
  | 0, _, _, _, h => by simp [rng] at h
  | n + 1, lo, 0, d, h => by
    simp only [rng, List.getElem?_cons_zero, Option.some.injEq] at h
    subst h
    exact ⟨Nat.succ_pos n, by simp⟩
  | n + 1, lo, i + 1, d, h => by
    simp only [rng, List.getElem?_cons_succ] at h
    obtain ⟨h1, h2⟩ := rng_get n (lo + 1) i d h
    refine ⟨Nat.succ_lt_succ h1, ?_⟩
    rw [h2]
    congr 1
    omega
theorem rng_len : ∀ (n : Nat) (lo : Int), (rng lo n).length = n
  | 0, _ => rfl
  | n + 1, lo => by rw [rng, List.length_cons, rng_len n]
theorem drw_rng {lo : Int} {n : Nat} : Drw K (Itr lo n) (guardOf .non S) (rng lo n) p H := by
  refine fun i p' H' S' ex rs' g => ⟨fun d hd => ?_, fun hl => by rw [rng_len] at hl; exact hl⟩
  obtain ⟨h1, rfl⟩ := rng_get n lo i d hd
  refine ⟨h1, fun x H'' y => ?_⟩
  obtain ⟨rfl, rfl⟩ := y
  exact ⟨Ext.refl, rs', rfl⟩
theorem enum_get : ∀ (ds : List D) (k : Int) (i : Nat) (e : D), (enumL k ds)[i]? = some e → ∃ d, ds[i]? = some d ∧ e = .tup [.int (k + i), d]
  | [], _, _, _, h => by simp [enumL] at h
  | d :: ds, k, 0, e, h => by
    simp only [enumL, List.getElem?_cons_zero, Option.some.injEq] at h
    subst h
    exact ⟨d, rfl, by simp⟩
  | d :: ds, k, i + 1, e, h => by
    simp only [enumL, List.getElem?_cons_succ] at h
    obtain ⟨d', h1, h2⟩ := enum_get ds (k + 1) i e h
    refine ⟨d', h1, ?_⟩
    rw [h2]
    congr 3
    omega
theorem enum_len : ∀ (ds : List D) (k : Int), (enumL k ds).length = ds.length
  | [], _ => rfl
  | d :: ds, k => by rw [enumL, List.length_cons, List.length_cons, enum_len ds]
theorem drw_enum {d : D} {ds : List D} {v : V} (rs : RS K p H S) (rv : RV K p H d v) (e : items S d = some ds) (nt : ∀ es, d ≠ .tup es) : ∃ a xs, v = .ref a ∧ SqL K H a xs ∧ Drw K (Ite K a) (guardOf d S) (enumL 0 ds) p H := by
  obtain ⟨a, xs, rfl, r0, h0⟩ := items_list rs rv nt e
  refine ⟨a, xs, rfl, h0, fun i p' H' S' ex rs' g => ?_⟩
  obtain ⟨a', ys, ea, r, hq⟩ := items_list rs' (rv.ext ex) nt (items_keep e g)
  cases ea
  refine ⟨fun d' hd => ?_, fun hl => ⟨ys, hq, by rw [enum_len] at hl; rw [← r.length]; exact hl⟩⟩
  obtain ⟨d1, hd1, rfl⟩ := enum_get ds 0 i d' hd
  obtain ⟨w, hw, rw'⟩ := r.get hd1
  refine ⟨⟨ys, w, hq, hw⟩, fun x H'' y => ?_⟩
  obtain ⟨T, x1, rfl, hT, rfl, y⟩ := y
  have z := y ys hq
  rw [hw] at z
  cases z
  refine ⟨Ext.laid hT, rs'.laid hT, RV.new_tup rs' hT ⟨_, _, rfl, ?_, _, [], rfl, rw', rfl⟩⟩
  show V.int (i : Int) = V.int (0 + (i : Int))
  rw [Int.zero_add]
theorem zip_get : ∀ (as bs : List D) (i : Nat) (e : D), (zipL as bs)[i]? = some e → ∃ a b, as[i]? = some a ∧ bs[i]? = some b ∧ e = .tup [a, b]
  | [], _, _, _, h => by simp [zipL] at h
  | _ :: _, [], _, _, h => by simp [zipL] at h
  | a :: as, b :: bs, 0, e, h => by
    simp only [zipL, List.getElem?_cons_zero, Option.some.injEq] at h
    exact ⟨a, b, rfl, rfl, h.symm⟩
  | a :: as, b :: bs, i + 1, e, h => by
    simp only [zipL, List.getElem?_cons_succ] at h
    exact zip_get as bs i e h
theorem zip_end : ∀ (as bs : List D) (i : Nat), (zipL as bs).length ≤ i → as.length ≤ i ∨ bs.length ≤ i
  | [], _, _, _ => .inl (Nat.zero_le _)
  | _ :: _, [], _, _ => .inr (Nat.zero_le _)
  | a :: as, b :: bs, 0, h => by simp [zipL] at h
  | a :: as, b :: bs, i + 1, h => by
    have h' : (zipL as bs).length ≤ i := by simpa [zipL] using h
    rcases zip_end as bs i h' with q | q
    · exact .inl (by simpa using q)
    · exact .inr (by simpa using q)
end
section
variable {X : Cx} {W : XD} {a b : Expr} {fa fb : Sl → Store → Res D} {pos : Pos} {k : Nat} {tg : Expr}
theorem e_rev {kk : Nat} {p1 p2 p3 : Pos} (ha : PE X a (tI X.K W fa)) : PE X (.Subscript a (.Slice none none (some (.UnaryOp .USub (.Constant (.int 1) kk p1) p2)) p3) pos) (tI X.K W fun η S => (fa η S).bind fun x S => match x with
    | .tup ds => .ok (.tup ds.reverse) S
    | x => match items S x with
      | some ds => .ok (.lv ds.reverse) S
      | none => .bad) := by
  refine PE.by (pe_revA ha) fun σ H Q h => ?_
  obtain ⟨p, η, S, re, rs, h⟩ := h
  refine tI_of re rs h fun p1 H1 x S1 v e1 re1 rs1 rv h1 => ?_
  have go : (∀ es, x ≠ .tup es) → Good X.K p1 H1 (match items S1 x with
      | some ds => .ok (.lv ds.reverse) S1
      | none => .bad) (fun p' H' d _ => ∀ v, RV X.K p' H' d v → Q v H') W → ∃ a xs, v = .ref a ∧ ((SqL X.K H1 a xs ∧ ∀ p, H1 p = none → Q (.ref p) (upd H1 p (.lst xs.reverse))) ∨ (SqT X.K H1 a xs ∧ ∀ p, H1 p = none → Q (.ref p) (upd H1 p (.tup xs.reverse)))) := fun nt h1 => by
    cases q : items S1 x with
    | none => rw [q] at h1; exact False.elim h1
    | some ds =>
      rw [q] at h1
      obtain ⟨a, xs, rfl, r2, hq⟩ := items_list rs1 rv nt q
      exact ⟨a, xs, rfl, .inl ⟨hq, h1.new_lv rs1 r2.reverse⟩⟩
  cases x with
  | tup es =>
    obtain ⟨a, xs, rfl, r2, hq⟩ := items_tup rv
    exact ⟨a, xs, rfl, .inr ⟨hq, h1.new_tup rs1 r2.reverse⟩⟩
  | _ => exact go nofun h1
theorem i_seq (ha : PE X a (tI X.K W fa)) : PI X tg a (tW X.K W fun η S => (fa η S).bind fun d S => match items S d with
    | some ds => .ok (d, ds) S
    | none => .bad) := by
  refine PI.by (Py.PI.or (pi_list ha) (pi_tup ha)) fun σ H R h => ?_
  obtain ⟨p, η, S, re, rs, h⟩ := h
  dsimp only at h
  cases q : fa η S with
  | bad => rw [q] at h; exact False.elim h
  | exc x d S1 => rw [q] at h; exact .inl ⟨p, η, S, re, rs, by rw [q]; exact h⟩
  | ok d S1 =>
    simp only [q, Res.bind] at h
    by_cases ht : ∃ ds, d = .tup ds
    · obtain ⟨ds, rfl⟩ := ht
      refine .inr ⟨p, η, S, re, rs, ?_⟩
      rw [q]
      intro p1 H1 e1 rs1 v rv
      obtain ⟨a1, xs, rfl, _, h0, dr⟩ := drw_tup rs1 rv
      exact ⟨a1, rfl, ⟨xs, h0⟩, (Good.mono (r := .ok (D.tup ds, ds) S1) h e1).here rs1 _ dr⟩
    · refine .inl ⟨p, η, S, re, rs, ?_⟩
      rw [q]
      intro p1 H1 e1 rs1 v rv
      cases z : items S1 d with
      | none => simp only [z] at h; exact False.elim h
      | some ds =>
        simp only [z] at h
        obtain ⟨a1, xs, rfl, _, h0, dr⟩ := drw_list rs1 rv z fun es e => ht ⟨es, e⟩
        exact ⟨a1, rfl, ⟨xs, h0⟩, (Good.mono (r := .ok (d, ds) S1) h e1).here rs1 _ dr⟩
theorem i_rng1 {x : Str} {p0 : Pos} (hx : x = "range") (hg : Gl X x) (hm : X.mg x = none) (ha : PE X a (tI X.K W fa)) (hs : starEach [a] X.env = [(false, eval a X.env)]) (hs2 : starEach [a] X.env = (false, eval a X.env) :: starEach [] X.env) : PI X tg (.Call (.Name x p0) [a] [] pos) (tW X.K W fun η S => (fa η S).bind fun d S => match d with
    | .int j => if -(2 ^ 62) ≤ j ∧ j < 2 ^ 62 then .ok (.non, rng 0 j.toNat) S else .bad
    | _ => .bad) := by
  subst hx
  refine PI.by (pi_range1 hg hm (pa_cons ha pa_nil hs2) hs) fun σ H R h => ?_
  obtain ⟨p, η, S, re, rs, h⟩ := h
  refine tI_of re rs h fun p1 H1 d S1 v e1 re1 rs1 rv h1 => ?_
  cases d with
  | int j =>
    cases rv
    have h1 : Good X.K p1 H1 (if -(2 ^ 62) ≤ j ∧ j < 2 ^ 62 then .ok (D.non, rng 0 j.toNat) S1 else .bad) _ W := h1
    by_cases hj : -(2 ^ 62) ≤ j ∧ j < 2 ^ 62
    · rw [if_pos hj] at h1
      exact ⟨j, rfl, hj.1, hj.2, h1.here rs1 _ drw_rng⟩
    · rw [if_neg hj] at h1; exact False.elim h1
  | _ => exact False.elim h1
theorem i_rng2 {x : Str} {p0 : Pos} (hx : x = "range") (hg : Gl X x) (hm : X.mg x = none) (ha : PE X a (tI X.K W fa)) (hb : PE X b (tI X.K W fb)) (hs : starEach [a, b] X.env = [(false, eval a X.env), (false, eval b X.env)]) (hs2 : starEach [b] X.env = [(false, eval b X.env)])
    (hs3 : starEach [a, b] X.env = (false, eval a X.env) :: starEach [b] X.env) (hs4 : starEach [b] X.env = (false, eval b X.env) :: starEach [] X.env) :
    PI X tg (.Call (.Name x p0) [a, b] [] pos) (tW X.K W fun η S => (fa η S).bind fun x S => (fb η S).bind fun y S => match x, y with
    | .int i, .int j => if -(2 ^ 62) ≤ i ∧ i < 2 ^ 62 ∧ -(2 ^ 62) ≤ j ∧ j < 2 ^ 62 then .ok (.non, rng i (j - i).toNat) S else .bad
    | _, _ => .bad) := by
  subst hx
  refine PI.by (pi_range2 hg hm (pa_cons ha (pa_cons hb pa_nil hs4) hs3) hs hs2) fun σ H R h => ?_
  obtain ⟨p, η, S, re, rs, h⟩ := h
  refine tI_of re rs h fun p1 H1 d S1 v e1 re1 rs1 rv h1 => ?_
  refine tI_of re1 rs1 h1 fun p2 H2 e S2 u e2 re2 rs2 ru h2 => ?_
  cases d with
  | int i =>
    cases e with
    | int j =>
      cases rv
      cases ru
      have h2 : Good X.K p2 H2 (if -(2 ^ 62) ≤ i ∧ i < 2 ^ 62 ∧ -(2 ^ 62) ≤ j ∧ j < 2 ^ 62 then .ok (D.non, rng i (j - i).toNat) S2 else .bad) _ W := h2
      by_cases hj : -(2 ^ 62) ≤ i ∧ i < 2 ^ 62 ∧ -(2 ^ 62) ≤ j ∧ j < 2 ^ 62
      · rw [if_pos hj] at h2
        exact ⟨i, j, rfl, hj, h2.here rs2 _ drw_rng⟩
      · rw [if_neg hj] at h2; exact False.elim h2
    | _ => exact False.elim h2
  | _ => cases e <;> exact False.elim h2
theorem rngd_eq : ∀ (n : Nat) (i : Int), rngd i n = (List.range n).map fun (k : Nat) => D.int (i + (k : Nat) * (-1))
  | 0, _ => rfl
  | n + 1, i => by
    rw [List.range_succ_eq_map, List.map_cons, List.map_map]
    unfold rngd
    rw [rngd_eq n (i - 1)]
    congr 1
    · congr 1; omega
    · refine List.map_congr_left fun k _ => ?_
      show D.int _ = D.int _
      congr 1
      show i - 1 + (k : Int) * (-1) = i + ((k + 1 : Nat) : Int) * (-1)
      omega
theorem drw_rngd {K : PySem.W.Frag} {p : List Addr} {H : Hp} {S : Store} {lo : Int} {n : Nat} : Drw K (Itc lo (-1) n) (guardOf .non S) (rngd lo n) p H := by
  refine fun i p' H' S' ex rs' g => ⟨fun d hd => ?_, fun hl => by rw [rngd_eq, List.length_map, List.length_range] at hl; exact hl⟩
  rw [rngd_eq, List.getElem?_map] at hd
  obtain ⟨j, h1, rfl⟩ := Option.map_eq_some_iff.mp hd
  have h2 := (List.getElem?_eq_some_iff.mp h1).1
  rw [List.length_range] at h2
  rw [List.getElem?_range h2] at h1
  cases h1
  refine ⟨h2, fun x H'' y => ?_⟩
  obtain ⟨rfl, rfl⟩ := y
  exact ⟨Ext.refl, rs', rfl⟩
theorem i_rngD {x : Str} {p0 pc pu : Pos} {kk : Nat} (hx : x = "range") (hg : Gl X x) (hm : X.mg x = none) (ha : PE X a (tI X.K W fa)) (hb : PE X b (tI X.K W fb))
    (hs3 : ∀ c, starEach [a, b, c] X.env = (false, eval a X.env) :: starEach [b, c] X.env) (hs4 : ∀ c, starEach [b, c] X.env = (false, eval b X.env) :: starEach [c] X.env) (hpl : (backTo pos (starEach [b, .UnaryOp .USub (.Constant (.int 1) kk pc) pu] X.env)).any (·.1) = false) :
    PI X tg (.Call (.Name x p0) [a, b, .UnaryOp .USub (.Constant (.int 1) kk pc) pu] [] pos) (tW X.K W fun η S => (fa η S).bind fun x S => (fb η S).bind fun y S => match x, y with
    | .int i, .int j => if -(2 ^ 62) ≤ i ∧ i < 2 ^ 62 ∧ -(2 ^ 62) ≤ j ∧ j < 2 ^ 62 then .ok (.non, rngd i (i - j).toNat) S else .bad
    | _, _ => .bad) := by
  subst hx
  refine PI.by (pi_range3 hg hm (pa_cons ha (pa_cons hb (pa_cons (pe_un un_neg pe_int) pa_nil rfl) (hs4 _)) (hs3 _)) (hs3 _) hpl) fun σ H R h => ?_
  obtain ⟨p, η, S, re, rs, h⟩ := h
  refine tI_of re rs h fun p1 H1 d S1 v e1 re1 rs1 rv h1 => ?_
  refine tI_of re1 rs1 h1 fun p2 H2 e S2 u e2 re2 rs2 ru h2 => ?_
  cases d with
  | int i =>
    cases e with
    | int j =>
      cases rv
      cases ru
      have h2 : Good X.K p2 H2 (if -(2 ^ 62) ≤ i ∧ i < 2 ^ 62 ∧ -(2 ^ 62) ≤ j ∧ j < 2 ^ 62 then .ok (D.non, rngd i (i - j).toNat) S2 else .bad) _ W := h2
      by_cases hj : -(2 ^ 62) ≤ i ∧ i < 2 ^ 62 ∧ -(2 ^ 62) ≤ j ∧ j < 2 ^ 62
      · rw [if_pos hj] at h2
        exact ⟨1, rfl, i, j, -1, _, rfl, RgC.neg hj.1 hj.2.1 hj.2.2.1 hj.2.2.2, h2.here rs2 _ drw_rngd⟩
      · rw [if_neg hj] at h2; exact False.elim h2
    | _ => exact False.elim h2
  | _ => cases e <;> exact False.elim h2
theorem i_enum {x : Str} {p0 tpos : Pos} {elts : List Expr} {kk : Nat} (hx : x = "enumerate") (hg : Gl X x) (hm : X.mg x = none) (ha : PE X a (tI X.K W fa)) (hs : starEach [a] X.env = [(false, eval a X.env)]) (hs2 : starEach [a] X.env = (false, eval a X.env) :: starEach [] X.env) :
    PI X (.Tuple elts kk tpos) (.Call (.Name x p0) [a] [] pos) (tW X.K W fun η S => (fa η S).bind fun d S => match d with
    | .lv ds => .ok (d, enumL 0 ds) S
    | _ => .bad) := by
  subst hx
  refine PI.by (pi_enum hg hm (pa_cons ha pa_nil hs2) hs) fun σ H R h => ?_
  obtain ⟨p, η, S, re, rs, h⟩ := h
  refine tI_of re rs h fun p1 H1 d S1 v e1 re1 rs1 rv h1 => ?_
  cases d with
  | lv ds =>
    obtain ⟨a1, xs, rfl, h0, dr⟩ := drw_enum rs1 rv (show items S1 (.lv ds) = some ds from rfl) nofun
    exact ⟨a1, xs, rfl, h0, Good.here (a := (D.lv ds, enumL 0 ds)) h1 rs1 _ dr⟩
  | _ => exact False.elim h1
theorem i_zip {x : Str} {p0 tpos : Pos} {elts : List Expr} {kk : Nat} (hx : x = "zip") (hg : Gl X x) (hm : X.mg x = none) (ha : PE X a (tI X.K W fa)) (hb : PE X b (tI X.K W fb)) (hs3 : starEach [a, b] X.env = (false, eval a X.env) :: starEach [b] X.env) (hs4 : starEach [b] X.env = (false, eval b X.env) :: starEach [] X.env)
    (hpl : (backTo pos (starEach [b] X.env)).any (·.1) = false) :
    PI X (.Tuple elts kk tpos) (.Call (.Name x p0) [a, b] [] pos) (tW X.K W fun η S => (fa η S).bind fun x S => (fb η S).bind fun y S => match x, y with
    | .lv xs, .lv ys => .ok (.non, zipL xs ys) S
    | .tup xs, .tup ys => .ok (.non, zipL xs ys) S
    | _, _ => .bad) := by
  subst hx
  refine PI.by (RZ.pi_zipA hg hm (pa_cons ha (pa_cons hb pa_nil hs4) hs3) hs3 hpl) fun σ H R h => ?_
  obtain ⟨p, η, S, re, rs, h⟩ := h
  refine tI_of re rs h fun p1 H1 d S1 v e1 re1 rs1 rv h1 => ?_
  refine tI_of re1 rs1 h1 fun p2 H2 e S2 u e2 re2 rs2 ru h2 => ?_
  have rv2 := rv.ext e2
  cases d with
  | lv xs =>
    cases e with
    | lv ys =>
      obtain ⟨a1, vs, rfl, r1, n1, q1⟩ := id rv2
      obtain ⟨a2, us, rfl, r2, n2, q2⟩ := id ru
      refine ⟨a1, a2, vs, us, rfl, .inl ⟨SqL.of q1, SqL.of q2, Good.here (a := (D.non, zipL xs ys)) h2 rs2 _ fun i p' H' S' ex rs' g => ?_⟩⟩
      obtain ⟨_, vs', ea, t1, m1, w1⟩ := rv2.ext ex
      cases ea
      obtain ⟨_, us', ea, t2, m2, w2⟩ := ru.ext ex
      cases ea
      refine ⟨fun d' hd => ?_, fun hl => ?_⟩
      · obtain ⟨da, db, ha', hb', rfl⟩ := zip_get xs ys i d' hd
        obtain ⟨va, hva, rva⟩ := t1.get ha'
        obtain ⟨vb, hvb, rvb⟩ := t2.get hb'
        refine ⟨⟨vs', us', va, vb, SqL.of w1, SqL.of w2, hva, hvb⟩, fun x H'' y => ?_⟩
        obtain ⟨T, x1, y1, rfl, hT, rfl, z1, z2⟩ := y
        have z1 := z1 _ (SqL.of w1)
        have z2 := z2 _ (SqL.of w2)
        rw [hva] at z1; cases z1
        rw [hvb] at z2; cases z2
        exact ⟨Ext.laid hT, rs'.laid hT, RV.new_tup rs' hT ⟨_, _, rfl, rva, _, [], rfl, rvb, rfl⟩⟩
      · refine ⟨vs', us', SqL.of w1, SqL.of w2, ?_⟩
        rw [← t1.length, ← t2.length]
        exact zip_end xs ys i hl
    | _ => exact False.elim h2
  | tup xs =>
    cases e with
    | tup ys =>
      obtain ⟨a1, vs, rfl, r1, q1⟩ := items_tup rv2
      obtain ⟨a2, us, rfl, r2, q2⟩ := items_tup ru
      refine ⟨a1, a2, vs, us, rfl, .inr ⟨q1, q2, Good.here (a := (D.non, zipL xs ys)) h2 rs2 _ fun i p' H' S' ex rs' g => ?_⟩⟩
      obtain ⟨_, vs', ea, t1, w1⟩ := items_tup (rv2.ext ex)
      cases ea
      obtain ⟨_, us', ea, t2, w2⟩ := items_tup (ru.ext ex)
      cases ea
      refine ⟨fun d' hd => ?_, fun hl => ?_⟩
      · obtain ⟨da, db, ha', hb', rfl⟩ := zip_get xs ys i d' hd
        obtain ⟨va, hva, rva⟩ := t1.get ha'
        obtain ⟨vb, hvb, rvb⟩ := t2.get hb'
        refine ⟨⟨vs', us', va, vb, w1, w2, hva, hvb⟩, fun x H'' y => ?_⟩
        obtain ⟨T, x1, y1, rfl, hT, rfl, z1, z2⟩ := y
        have z1 := z1 _ w1
        have z2 := z2 _ w2
        rw [hva] at z1; cases z1
        rw [hvb] at z2; cases z2
        exact ⟨Ext.laid hT, rs'.laid hT, RV.new_tup rs' hT ⟨_, _, rfl, rva, _, [], rfl, rvb, rfl⟩⟩
      · refine ⟨vs', us', w1, w2, ?_⟩
        rw [← t1.length, ← t2.length]
        exact zip_end xs ys i hl
    | _ => exact False.elim h2
  | _ => cases e <;> exact False.elim h2
/-- a for -/
theorem s_for {iter : Expr} {bs : List Stmt} {fi : Sl → Store → Res (D × List D)} {g : D → Sl → Store → Res Sl} {gb : Sl → Store → Res Fl} (hp : PassesOwn (model X.prog X.w) X.A X.env X.xe) (hc : X.calm = true) (hi : PI X tg iter (tW X.K W fi)) (hg : PG X tg (tG X.K W g)) (hb : PSs X bs (tS X.K W gb))
    (hs : ∀ x, foldedSetIterable iter X.env x = pure x) : PS X (.For tg iter bs [] pos) (tS X.K W fun η S => (fi η S).bind fun x S1 => forL (guardOf x.1 S1) g gb x.2 η S1) := by
  refine PS.by (ps_for hp hc hi hg hb hs) fun D σ H h => ?_
  obtain ⟨p, η, S, re, rs, h⟩ := h
  refine ⟨p, η, S, re, rs, (Good.bind h).imp fun p1 H1 x S1 e1 rs1 q J dr => ?_⟩
  refine ⟨fun i m σ' H' => i + m = x.2.length ∧ ∃ p' η' S', Ext p1 H1 p' H' ∧ RE X.K p' H' η' σ' ∧ RS X.K p' H' S' ∧ Good X.K p' H' (forL (guardOf x.1 S1) g gb (x.2.drop i) η' S') (fun p' H' fl _ => EndF X.K D p' H' fl) W,
    ⟨x.2.length, Nat.zero_add _, p1, η, S1, Ext.refl, re.ext e1, rs1, by rw [List.drop_zero]; exact q⟩, ?_⟩
  rintro i m σ' H' ⟨im, p', η', S', ex, re', rs', h'⟩
  cases hd : x.2.drop i with
  | nil =>
    rw [hd] at h'
    simp only [forL] at h'
    by_cases hgd : guardOf x.1 S1 S' = true
    · rw [if_pos hgd] at h'
      have hl : x.2.length ≤ i := by
        have := congrArg List.length hd
        rw [List.length_drop, List.length_nil] at this
        omega
      exact .inl ⟨(dr i p' H' S' ex rs' hgd).2 hl, Good.here (a := Fl.nx η') h' rs' σ' re'⟩
    · rw [if_neg hgd] at h'; exact False.elim h'
  | cons d ds =>
    rw [hd] at h'
    simp only [forL] at h'
    by_cases hgd : guardOf x.1 S1 S' = true
    · rw [if_pos hgd] at h'
      have hi' : x.2[i]? = some d := by
        have := congrArg (·[0]?) hd
        simpa using this
      have hds : x.2.drop (i + 1) = ds := by
        have : x.2.drop (i + 1) = (x.2.drop i).drop 1 := by rw [List.drop_drop]
        rw [this, hd]; rfl
      have hm : i < x.2.length := (List.getElem?_eq_some_iff.mp hi').1
      obtain ⟨go, yl⟩ := (dr i p' H' S' ex rs' hgd).1 d hi'
      refine .inr ⟨go, fun σ2 H2 => i + 1 + (m - 1) = x.2.length ∧ ∃ p' η' S', Ext p1 H1 p' H2 ∧ RE X.K p' H2 η' σ2 ∧ RS X.K p' H2 S' ∧ Good X.K p' H2 (forL (guardOf x.1 S1) g gb ds η' S') (fun p' H' fl _ => EndF X.K D p' H' fl) W,
        fun σ2 H2 n => ⟨m - 1, by omega, by subst hds; exact n⟩, fun y H2 hy => ?_⟩
      obtain ⟨e2, rs2, rv2⟩ := yl y H2 hy
      refine ⟨p', η', S', d, re'.ext e2, rs2, rv2, (Good.bind (r := g d η' S') (h'.mono e2)).imp fun p3 H3 η3 S3 e3 rs3 q3 σ3 re3 => ?_⟩
      refine ⟨p3, η3, S3, re3, rs3, (Good.bind (r := gb η3 S3) q3).imp fun p4 H4 f S4 e4 rs4 q4 => ?_⟩
      have ex4 := ((ex.trans e2).trans e3).trans e4
      cases f with
      | nx η4 => exact fun σ4 re4 => ⟨by omega, p4, η4, S4, ex4, re4, rs4, q4⟩
      | ct η4 => exact fun σ4 re4 => ⟨by omega, p4, η4, S4, ex4, re4, rs4, q4⟩
      | bk η4 => exact fun σ4 re4 => Good.here (a := Fl.nx η4) q4 rs4 σ4 re4
      | rt d4 => exact Good.here (a := Fl.rt d4) q4 rs4
    · rw [if_neg hgd] at h'; exact False.elim h'
end
end Py

set_option Elab.async false
set_option linter.all false
set_option maxRecDepth 100000
set_option maxHeartbeats 4000000
/-! A block is left; comprehensions. -/
namespace Py
open PySem PySem.Spec PyProof.Rows L2
section
variable {K : PySem.W.Frag}
mutual
theorem RV.clo {p : List Addr} {H : Hp} : ∀ (d : D) (v : V), RV K p H d v → clo p.length d = true
  | .non, _, _ => rfl
  | .bl _, _, _ => rfl
  | .int _, _, _ => rfl
  | .str _, _, _ => rfl
  | .tup ds, _, h => by obtain ⟨a, xs, _, r, _⟩ := h; exact RVs.clo ds xs r
  | .lv ds, _, h => by obtain ⟨a, xs, _, r, _⟩ := h; exact RVs.clo ds xs r
  | .fz ds, _, h => by obtain ⟨a, xs, _, r, _⟩ := h; exact RVs.clo ds xs r
  | .lo n, _, h => by obtain ⟨a, h, _⟩ := h; exact decide_eq_true (List.getElem?_eq_some_iff.mp h).1
  | .dc, _, _ => rfl
theorem RVs.clo {p : List Addr} {H : Hp} : ∀ (ds : List D) (vs : List V), RVs K p H ds vs → clos p.length ds = true
  | [], _, _ => rfl
  | d :: ds, _, h => by
    obtain ⟨v, r, _, h1, h2⟩ := h
    show (Py.clo p.length d && clos p.length ds) = true
    rw [RV.clo d v h1, RVs.clo ds r h2]; rfl
end
mutual
theorem RV.down {p p' : List Addr} {H : Hp} (e : p <+: p') : ∀ (d : D) (v : V), Py.clo p.length d = true → RV K p' H d v → RV K p H d v
  | .non, _, _, h => h
  | .bl _, _, _, h => h
  | .int _, _, _, h => h
  | .str _, _, _, h => h
  | .tup ds, _, c, h => by
    obtain ⟨a, xs, e1, r, q⟩ := h
    refine ⟨a, xs, e1, RVs.down e ds xs c r, ?_⟩
    rcases q with q | ⟨q1, q2⟩
    · exact .inl q
    · exact .inr ⟨fun z => q1 (e.subset z), q2⟩
  | .lv ds, _, c, h => by
    obtain ⟨a, xs, e1, r, q1, q2⟩ := h
    exact ⟨a, xs, e1, RVs.down e ds xs c r, fun z => q1 (e.subset z), q2⟩
  | .fz ds, _, c, h => by
    obtain ⟨a, xs, e1, r, q⟩ := h
    refine ⟨a, xs, e1, RVs.down e ds xs c r, ?_⟩
    rcases q with q | ⟨q1, q2⟩
    · exact .inl q
    · exact .inr ⟨fun z => q1 (e.subset z), q2⟩
  | .dc, _, _, h => by
    obtain ⟨a, e1, q1, q2⟩ := h
    exact ⟨a, e1, fun z => q1 (e.subset z), q2⟩
  | .lo n, _, c, h => by
    obtain ⟨a, e1, e2⟩ := h
    have hn : n < p.length := of_decide_eq_true c
    obtain ⟨t, rfl⟩ := e
    rw [List.getElem?_append_left hn] at e1
    exact ⟨a, e1, e2⟩
theorem RVs.down {p p' : List Addr} {H : Hp} (e : p <+: p') : ∀ (ds : List D) (vs : List V), clos p.length ds = true → RVs K p' H ds vs → RVs K p H ds vs
  | [], _, _, h => h
  | d :: ds, _, c, h => by
    obtain ⟨v, r, e1, h1, h2⟩ := h
    have c : (Py.clo p.length d && clos p.length ds) = true := c
    rw [Bool.and_eq_true] at c
    exact ⟨v, r, e1, RV.down e d v c.1 h1, RVs.down e ds r c.2 h2⟩
end
mutual
theorem rs_ok {p p' : List Addr} {H : Hp} {S' : Store} (e : p <+: p') (r' : RS K p' H S') : ∀ (d d' : D) (v : V), rs S' p.length d = some d' → RV K p' H d v → RV K p H d' v
  | .non, _, _, q, h => by cases q; exact h
  | .bl _, _, _, q, h => by cases q; exact h
  | .int _, _, _, q, h => by cases q; exact h
  | .str _, _, _, q, h => by cases q; exact h
  | .tup ds, _, _, q, h => by
    simp only [rs, Option.map_eq_some_iff] at q
    obtain ⟨es, q, rfl⟩ := q
    obtain ⟨a, xs, e1, r, z⟩ := h
    refine ⟨a, xs, e1, rss_ok e r' ds es xs q r, ?_⟩
    rcases z with z | ⟨z1, z2⟩
    · exact .inl z
    · exact .inr ⟨fun w => z1 (e.subset w), z2⟩
  | .lv ds, _, _, q, h => by
    simp only [rs, Option.map_eq_some_iff] at q
    obtain ⟨es, q, rfl⟩ := q
    obtain ⟨a, xs, e1, r, z1, z2⟩ := h
    exact ⟨a, xs, e1, rss_ok e r' ds es xs q r, fun w => z1 (e.subset w), z2⟩
  | .fz ds, _, _, q, h => by
    simp only [rs, Option.map_eq_some_iff] at q
    obtain ⟨es, q, rfl⟩ := q
    obtain ⟨a, xs, e1, r, z⟩ := h
    refine ⟨a, xs, e1, rss_ok e r' ds es xs q r, ?_⟩
    rcases z with z | ⟨z1, z2⟩
    · exact .inl z
    · exact .inr ⟨fun w => z1 (e.subset w), z2⟩
  | .dc, _, _, q, h => by
    cases q
    obtain ⟨a, e1, q1, q2⟩ := h
    exact ⟨a, e1, fun z => q1 (e.subset z), q2⟩
  | .lo n, _, v, q, h => by
    simp only [rs] at q
    split at q
    · rename_i hn
      cases q
      exact RV.down e (.lo n) v (decide_eq_true hn) h
    · rename_i hn
      cases h2 : S'[n]? with
      | none => simp only [h2] at q; cases q
      | some c =>
        cases c with
        | dct kvs => simp only [h2] at q; cases q
        | lst ds =>
          simp only [h2] at q
          obtain ⟨a, xs, ev, h1, h3, h4⟩ := lo_at r' h h2
          split at q
          · rename_i hc
            cases q
            refine ⟨a, xs, ev, RVs.down e ds xs hc h4, fun z => hn ?_, h3⟩
            obtain ⟨i, hi, ei⟩ := List.getElem_of_mem z
            obtain ⟨t, rfl⟩ := e
            have hj : (p ++ t)[i]? = some a := by rw [List.getElem?_append_left hi, List.getElem?_eq_getElem hi, ei]
            have := (List.getElem?_inj (by rw [List.length_append]; omega) r'.nd).mp (hj.trans h1.symm)
            omega
          · cases q
theorem rss_ok {p p' : List Addr} {H : Hp} {S' : Store} (e : p <+: p') (r' : RS K p' H S') : ∀ (ds es : List D) (vs : List V), rss S' p.length ds = some es → RVs K p' H ds vs → RVs K p H es vs
  | [], _, _, q, h => by cases q; exact h
  | d :: ds, _, _, q, h => by
    obtain ⟨v, r, e1, h1, h2⟩ := h
    simp only [rss] at q
    split at q
    · rename_i x xs q1 q2
      cases q
      exact ⟨v, r, e1, rs_ok e r' d x v q1 h1, rss_ok e r' ds xs r q2 h2⟩
    · cases q
end
theorem store_ok' {p p' : List Addr} {H H' : Hp} {S S' : Store} (r : RS K p H S) (e : Ext p H p' H') (r' : RS K p' H' S') (o : OkC S S') : RS K p H' (S'.take S.length) := by
  have hl : p.length = S.length := r.len
  refine ⟨by rw [List.length_take, hl]; have := o.1; omega, r.nd, fun n a c h1 h2 => ?_⟩
  have hn : n < S.length := by rw [← hl]; exact (List.getElem?_eq_some_iff.mp h1).1
  rw [List.getElem?_take_of_lt hn] at h2
  have h1' : p'[n]? = some a := by
    obtain ⟨t, rfl⟩ := e.pre
    rw [List.getElem?_append_left (by rw [hl]; exact hn)]; exact h1
  have z := r'.cel n a c h1' h2
  cases c with
  | lst ds =>
    obtain ⟨xs, z1, z2⟩ := z
    refine ⟨xs, z1, RVs.down e.pre ds xs ?_ z2⟩
    rcases o.2 n hn with q | ⟨c, q1, q2⟩
    · rw [h2] at q
      obtain ⟨ys, _, w⟩ := r.cel n a _ h1 q.symm
      exact RVs.clo ds ys w
    · rw [h2] at q1
      cases q1
      rw [hl]; exact q2
  | dct kvs =>
    obtain ⟨kws, z1, z2, z3⟩ := z
    refine ⟨kws, z1, z2, RVs.down e.pre _ _ ?_ z3⟩
    rcases o.2 n hn with q | ⟨c, q1, q2⟩
    · rw [h2] at q
      obtain ⟨ys, _, _, w⟩ := r.cel n a _ h1 q.symm
      exact RVs.clo _ _ w
    · rw [h2] at q1
      cases q1
      rw [hl]; exact q2
/-- a wish that goes by values alone -/
def WOk (K : PySem.W.Frag) (W : XD) : Prop := ∀ p p' H x d d', (∀ v, RV K p' H d v → RV K p H d' v) → W p H x d' → W p' H x d
theorem WOk.never : WOk K (fun _ _ _ _ => False) := fun _ _ _ _ _ _ _ h => h
theorem Good.unleave {p : List Addr} {H : Hp} {S : Store} {r : Res D} {Q : VK} {W : XD} (hW : WOk K W) (h : Good K p H (leave S r) (fun p' H' d _ => ∀ v, RV K p' H' d v → Q v H') W) (rs0 : RS K p H S) :
    Good K p H r (fun p' H' d _ => ∀ v, RV K p' H' d v → Q v H') W := by
  have hl : p.length = S.length := rs0.len
  cases r with
  | ok d S' =>
    intro p1 H1 e rs1 v rv
    simp only [leave] at h
    split at h
    · rename_i o
      split at h
      · rename_i d' q
        rw [← hl] at q
        exact h p H1 ⟨List.prefix_refl p, e.same, fun _ z => .inl z⟩ (store_ok' rs0 e rs1 o) v (rs_ok e.pre rs1 d d' v q rv)
      · exact False.elim h
    · exact False.elim h
  | exc x d S' =>
    intro p1 H1 e rs1
    simp only [leave] at h
    split at h
    · rename_i o
      split at h
      · rename_i d' q
        rw [← hl] at q
        exact hW p p1 H1 x d d' (fun v rv => rs_ok e.pre rs1 d d' v q rv) (h p H1 ⟨List.prefix_refl p, e.same, fun _ z => .inl z⟩ (store_ok' rs0 e rs1 o))
      · exact False.elim h
    · exact False.elim h
  | bad => exact False.elim h
end

/-! ### a comprehension -/
theorem Good.bindN {K : PySem.W.Frag} {p : List Addr} {H : Hp} {α β : Type} {r : Res α} {g : α → Store → Res β} {F : List Addr → Hp → β → Store → Prop} {W W' : XD} (h : Good K p H (r.bindN g) F W) : Good K p H r (fun p1 H1 a S1 => Good K p1 H1 (g a S1) F W) W' := by
  cases r with
  | ok a S => exact fun p' H' e rs => Good.mono (r := g a S) h e
  | exc x d S => exact False.elim h
  | bad => exact False.elim h
abbrev W0 : XD := fun _ _ _ _ => False
def gNames : List Nat → TGs
  | [] => gNil
  | i :: is => gCons (gName i) (gNames is)
def setAllV : List Nat → List V → L2.St → L2.St
  | i :: is, v :: vs, σ => setAllV is vs (σ.set i (some v))
  | _, _, σ => σ
theorem gNames_of {Q : L2.St → Hp → Prop} {H : Hp} : ∀ {is : List Nat} {vs : List V} {σ : L2.St}, is.length = vs.length → Q (setAllV is vs σ) H → gNames is vs σ H Q
  | [], [], σ, _, h => ⟨rfl, h⟩
  | [], _ :: _, _, e, _ => by simp at e
  | _ :: _, [], _, e, _ => by simp at e
  | i :: is, v :: vs, σ, e, h => ⟨v, vs, rfl, gNames_of (is := is) (by simpa using e) h⟩
theorem wipe_get (σ : L2.St) (j : Nat) : ∀ vs : List Nat, (wipe σ vs)[j]? = if j ∈ vs ∧ j < σ.length then some none else σ[j]?
  | [] => by simp [wipe]
  | v :: vs => by
    unfold wipe
    by_cases hv : v = j
    · subst hv
      by_cases hl : v < σ.length
      · rw [List.getElem?_set_self (by rw [wipe_length]; exact hl), if_pos ⟨List.mem_cons_self, hl⟩]
      · rw [if_neg fun z => hl z.2, List.getElem?_eq_none (by rw [List.length_set, wipe_length]; omega), List.getElem?_eq_none (by omega)]
    · rw [List.getElem?_set_ne hv, wipe_get σ j vs]
      simp only [List.mem_cons]
      by_cases hm : j ∈ vs
      · simp [hm]
      · have : ¬ (j = v) := fun z => hv z.symm
        simp [hm, this]
theorem wipe_set {σ : L2.St} {i : Nat} {v : Option V} {vs : List Nat} (h : i ∈ vs) : wipe (σ.set i v) vs = wipe σ vs := by
  refine List.ext_getElem? fun j => ?_
  rw [wipe_get, wipe_get, List.length_set]
  by_cases hj : j ∈ vs ∧ j < σ.length
  · rw [if_pos hj, if_pos hj]
  · rw [if_neg hj, if_neg hj]
    by_cases hij : i = j
    · subst hij
      have : ¬ i < σ.length := fun z => hj ⟨h, z⟩
      rw [List.getElem?_eq_none (by rw [List.length_set]; omega), List.getElem?_eq_none (by omega)]
    · rw [List.getElem?_set_ne hij]
theorem wipe_wipe (σ : L2.St) (vs : List Nat) : wipe (wipe σ vs) vs = wipe σ vs := by
  refine List.ext_getElem? fun j => ?_
  rw [wipe_get (wipe σ vs), wipe_get σ, wipe_length]
  by_cases hj : j ∈ vs ∧ j < σ.length
  · rw [if_pos hj]
    simp [hj]
  · rw [if_neg hj]
theorem wipe_setAll {vs : List Nat} : ∀ {is : List Nat} {xs : List V} {σ : L2.St}, (is.all fun i => vs.contains i) = true → wipe (setAllV is xs σ) vs = wipe σ vs
  | [], xs, σ, _ => by cases xs <;> rfl
  | _ :: _, [], _, _ => rfl
  | i :: is, x :: xs, σ, h => by
    rw [List.all_cons, Bool.and_eq_true] at h
    show wipe (setAllV is xs (σ.set i (some x))) vs = _
    rw [wipe_setAll h.2, wipe_set (by simpa using h.1)]
theorem wipeD_len (η : Sl) : ∀ vs : List Nat, (wipeD η vs).length = η.length
  | [] => rfl
  | v :: vs => by unfold wipeD; rw [List.length_set, wipeD_len η vs]
theorem wipeD_some {η : Sl} {d : D} {j : Nat} : ∀ {vs : List Nat}, (wipeD η vs)[j]? = some (some d) → η[j]? = some (some d) ∧ j ∉ vs
  | [], h => ⟨h, by simp⟩
  | v :: vs, h => by
    unfold wipeD at h
    by_cases hv : v = j
    · subst hv
      by_cases hl : v < (wipeD η vs).length
      · rw [List.getElem?_set_self hl] at h; cases h
      · rw [List.getElem?_eq_none (by rw [List.length_set]; omega)] at h; cases h
    · rw [List.getElem?_set_ne hv] at h
      obtain ⟨h1, h2⟩ := wipeD_some h
      exact ⟨h1, by simp only [List.mem_cons, not_or]; exact ⟨fun z => hv z.symm, h2⟩⟩
theorem RE.wipe {K : PySem.W.Frag} {p : List Addr} {H : Hp} {η : Sl} {σ : L2.St} (re : RE K p H η σ) (vs : List Nat) : RE K p H (wipeD η vs) (L2.wipe σ vs) := by
  refine ⟨by rw [wipeD_len, wipe_length]; exact re.len, fun i d h => ?_⟩
  obtain ⟨h1, h2⟩ := wipeD_some h
  obtain ⟨v, h3, h4⟩ := re.val i d h1
  exact ⟨v, by rw [wipe_get, if_neg fun z => h2 z.1]; exact h3, h4⟩
theorem RE.setAll {K : PySem.W.Frag} {p : List Addr} {H : Hp} : ∀ {is : List Nat} {ds : List D} {vs : List V} {η η' : Sl} {σ : L2.St}, RE K p H η σ → RVs K p H ds vs → Py.setAll is ds η = some η' → is.length = vs.length ∧ RE K p H η' (setAllV is vs σ)
  | [], [], _, η, η', σ, re, r, e => by
    cases r
    cases e
    exact ⟨rfl, re⟩
  | [], _ :: _, _, _, _, _, _, _, e => by cases e
  | _ :: _, [], _, _, _, _, _, _, e => by cases e
  | i :: is, d :: ds, _, η, η', σ, re, r, e => by
    obtain ⟨v, vs, rfl, h1, h2⟩ := r
    obtain ⟨h3, h4⟩ := RE.setAll (is := is) (re.set h1 i) h2 e
    exact ⟨by rw [List.length_cons, List.length_cons, h3], h4⟩
/-- the target of a comprehension -/
def gC (K : PySem.W.Frag) (one : Bool) (is : List Nat) : TG := if one then fun v σ H Q => ∃ i, is = [i] ∧ gName i v σ H Q else gTup K is.length (gNames is)
theorem gC_of {K : PySem.W.Frag} {p : List Addr} {H : Hp} {own : List Nat} {one : Bool} {is : List Nat} {d : D} {v : V} {η η' : Sl} {σ : L2.St} {Q : L2.St → Hp → Prop} (re : RE K p H η σ) (rv : RV K p H d v) (e : asgC own one is d η = some η')
    (h : ∀ σ', RE K p H η' σ' → L2.wipe σ' own = L2.wipe σ own → Q σ' H) : gC K one is v σ H Q := by
  unfold asgC at e
  split at e
  · rename_i ha
    cases one with
    | true =>
      simp only [if_true] at e
      obtain ⟨h1, h2⟩ := RE.setAll re (show RVs K p H [d] [v] from ⟨v, [], rfl, rv, rfl⟩) e
      match is, h1, ha, h2, e with
      | [i], _, ha, h2, _ =>
        exact ⟨i, rfl, h _ h2 (wipe_setAll (is := [i]) (xs := [v]) ha)⟩
    | false =>
      cases d with
      | tup ds =>
        obtain ⟨a, xs, rfl, r, z⟩ := rv
        have e : setAll is ds η = some η' := e
        obtain ⟨h1, h2⟩ := RE.setAll re r e
        exact ⟨a, xs, rfl, SqT_of z, h1.symm, gNames_of h1 (h _ h2 (wipe_setAll ha))⟩
      | _ => cases e
  · cases e
section
variable {X : Cx} {W : XD} {tg iter elt : Expr} {ifs : List Expr} {scope : Scope} {own : List (Str × Nat)} {pos : Pos} {fi : Sl → Store → Res (D × List D)} {gc : Sl → Store → Res Bool} {fe : Sl → Store → Res D} {one : Bool} {is : List Nat} {k : Nat}
theorem lc_read (hW : WOk X.K W) {σ : L2.St} {H : Hp} {Q : VK} (h : tI X.K W (fun η S => (fi η S).bind fun x S1 => leave S1 (comL (guardOf x.1 S1) (fun d => asgC (own.map (·.2)) one is d (wipeD η (own.map (·.2)))) gc fe S1.length x.2 (S1 ++ [.lst []]))) σ H Q) :
    tLc (tW X.K W fi) (gC X.K one is) (tT X.K W0 gc) (tI X.K W0 fe) (own.map (·.2)) σ H Q := by
  obtain ⟨p, η, S, re, rs0, h⟩ := h
  refine ⟨p, η, S, re, rs0, (Good.bind h).imp fun p1 H1 x S1 e1 rs1 q J dr D hD => ?_⟩
  have q1 := Good.unleave hW q rs1
  have hex : Ext p1 H1 (p1 ++ [D]) (upd H1 D (.lst [])) := Ext.cell hD
  have hrs : RS X.K (p1 ++ [D]) (upd H1 D (.lst [])) (S1 ++ [.lst []]) := rs1.cell hD rfl
  have hDn : ∀ {p' : List Addr} {H' : Hp}, Ext (p1 ++ [D]) (upd H1 D (.lst [])) p' H' → p'[S1.length]? = some D := fun {p' H'} ex => by
    obtain ⟨t, rfl⟩ := ex.pre
    rw [List.append_assoc, List.getElem?_append_right (by rw [rs1.len]; exact Nat.le_refl _), rs1.len, Nat.sub_self]
    rfl
  have q2 := Good.mono q1 hex
  generalize hpd : p1 ++ [D] = pD at *
  generalize hhd : upd H1 D (.lst []) = HD at *
  refine ⟨fun i m H' => i + m = x.2.length ∧ ∃ p' S', Ext pD HD p' H' ∧ RS X.K p' H' S' ∧ Good X.K p' H' (comL (guardOf x.1 S1) (fun d => asgC (own.map (·.2)) one is d (wipeD η (own.map (·.2)))) gc fe S1.length (x.2.drop i) S') (fun p' H' d _ => ∀ v, RV X.K p' H' d v → Q v H') W,
    ⟨x.2.length, Nat.zero_add _, pD, S1 ++ [.lst []], Ext.refl, hrs, by rw [List.drop_zero]; exact q2⟩, ?_⟩
  rintro i m H' ⟨im, p', S', ex, rs', h'⟩
  cases hd : x.2.drop i with
  | nil =>
    rw [hd] at h'
    simp only [comL] at h'
    by_cases hgd : guardOf x.1 S1 S' = true
    · rw [if_pos hgd] at h'
      have hl : x.2.length ≤ i := by
        have := congrArg List.length hd
        rw [List.length_drop, List.length_nil] at this
        omega
      exact .inl ⟨(dr i p' H' S' (hex.trans ex) rs' hgd).2 hl, Good.val (d := .lo S1.length) h' rs' ⟨D, hDn ex, rfl⟩⟩
    · rw [if_neg hgd] at h'; exact False.elim h'
  | cons d ds =>
    rw [hd] at h'
    simp only [comL] at h'
    by_cases hgd : guardOf x.1 S1 S' = true
    · rw [if_pos hgd] at h'
      have hi' : x.2[i]? = some d := by
        have := congrArg (·[0]?) hd
        simpa using this
      have hds : x.2.drop (i + 1) = ds := by
        have : x.2.drop (i + 1) = (x.2.drop i).drop 1 := by rw [List.drop_drop]
        rw [this, hd]; rfl
      have hm : i < x.2.length := (List.getElem?_eq_some_iff.mp hi').1
      obtain ⟨go, yl⟩ := (dr i p' H' S' (hex.trans ex) rs' hgd).1 d hi'
      refine .inr ⟨go, fun H2 => i + 1 + (m - 1) = x.2.length ∧ ∃ p' S', Ext pD HD p' H2 ∧ RS X.K p' H2 S' ∧ Good X.K p' H2 (comL (guardOf x.1 S1) (fun d => asgC (own.map (·.2)) one is d (wipeD η (own.map (·.2)))) gc fe S1.length ds S') (fun p' H' d _ => ∀ v, RV X.K p' H' d v → Q v H') W,
        fun H2 n => ⟨m - 1, by omega, by subst hds; exact n⟩, fun y H2 hy => ?_⟩
      obtain ⟨e2, rs2, rv2⟩ := yl y H2 hy
      cases ha : asgC (own.map (·.2)) one is d (wipeD η (own.map (·.2))) with
      | none => simp only [ha] at h'; exact False.elim h'
      | some η2 =>
        simp only [ha] at h'
        have ex2 : Ext p1 H1 p' H2 := (hex.trans ex).trans e2
        have rew : RE X.K p' H2 (wipeD η (own.map (·.2))) (L2.wipe σ (own.map (·.2))) := ((re.ext e1).ext ex2).wipe _
        refine gC_of rew rv2 ha fun σ2 re2 hw => ⟨by rw [hw, wipe_wipe], ?_⟩
        refine ⟨p', η2, S', re2, rs2, (Good.bindN (W' := W0) (r := gc η2 S') (h'.mono e2)).imp fun p3 H3 c S3 e3 rs3 q3 => ?_⟩
        cases c with
        | false =>
          have fin : i + 1 + (m - 1) = x.2.length ∧ ∃ p' S', Ext pD HD p' H3 ∧ RS X.K p' H3 S' ∧ Good X.K p' H3 (comL (guardOf x.1 S1) (fun d => asgC (own.map (·.2)) one is d (wipeD η (own.map (·.2)))) gc fe S1.length ds S') (fun p' H' d _ => ∀ v, RV X.K p' H' d v → Q v H') W :=
            ⟨by omega, p3, S3, (ex.trans e2).trans e3, rs3, q3⟩
          first | exact fin | (rw [if_neg Bool.false_ne_true]; exact fin)
        | true =>
          have q3 : Good X.K p3 H3 ((fe η2 S3).bindN fun x_1 S3 => match S3[S1.length]? with
            | some (.lst acc) => if acc.length < sizeLine then comL (guardOf x.1 S1) (fun d => asgC (own.map (·.2)) one is d (wipeD η (own.map (·.2)))) gc fe S1.length ds (S3.set S1.length (.lst (acc ++ [x_1]))) else .bad
            | _ => .bad) (fun p' H' d _ => ∀ v, RV X.K p' H' d v → Q v H') W := q3
          have fin : tI X.K W0 fe σ2 H3 fun y H4 => ∃ acc, H4 D = some (.lst acc) ∧ acc.length < sizeLine ∧ (i + 1 + (m - 1) = x.2.length ∧ ∃ p' S', Ext pD HD p' (upd H4 D (.lst (acc ++ [y]))) ∧ RS X.K p' (upd H4 D (.lst (acc ++ [y]))) S' ∧
              Good X.K p' (upd H4 D (.lst (acc ++ [y]))) (comL (guardOf x.1 S1) (fun d => asgC (own.map (·.2)) one is d (wipeD η (own.map (·.2)))) gc fe S1.length ds S') (fun p' H' d _ => ∀ v, RV X.K p' H' d v → Q v H') W) := by
            refine ⟨p3, η2, S3, re2.ext e3, rs3, (Good.bindN (W' := W0) (r := fe η2 S3) q3).imp fun p4 H4 y4 S4 e4 rs4 q4 v4 rv4 => ?_⟩
            have ex4 : Ext pD HD p4 H4 := ((ex.trans e2).trans e3).trans e4
            have hn4 : p4[S1.length]? = some D := hDn ex4
            have hS4 : S1.length < S4.length := by rw [← rs4.len]; exact (List.getElem?_eq_some_iff.mp hn4).1
            have zc := rs4.cel S1.length D _ hn4 (List.getElem?_eq_getElem hS4)
            cases zz : S4[S1.length] with
            | dct kvs =>
              have zz' : S4[S1.length]? = some (.dct kvs) := by rw [List.getElem?_eq_getElem hS4, zz]
              simp only [zz'] at q4
              exact False.elim q4
            | lst acc =>
              rw [zz] at zc
              obtain ⟨vs, w1, w2⟩ := zc
              have zz' : S4[S1.length]? = some (.lst acc) := by rw [List.getElem?_eq_getElem hS4, zz]
              simp only [zz'] at q4
              by_cases hz : acc.length < sizeLine
              · rw [if_pos hz] at q4
                have wr : Ext p4 H4 p4 (upd H4 D (.lst (vs ++ [v4]))) := Ext.write (List.mem_of_getElem? hn4)
                have r2 : RVs X.K p4 H4 (acc ++ [y4]) (vs ++ [v4]) := w2.append ⟨v4, [], rfl, rv4, rfl⟩
                exact ⟨vs, w1, by rw [← w2.length]; exact hz, by omega, p4, _, ex4.trans wr, rs4.write hn4 r2, q4.mono wr⟩
              · rw [if_neg hz] at q4; exact False.elim q4
          first | exact fin | (rw [if_pos rfl]; exact fin)
    · rw [if_neg hgd] at h'; exact False.elim h'
theorem e_comp (hW : WOk X.K W) (hc : X.calm = true) (hN : X.N.Nodup) (hi : PI X tg iter (tW X.K W fi)) (ok : BlkOk X.N X.env.scope scope own)
    (hg : ∀ (s : Shared) (H : Hp) (C : Addr) (cl : List (Str × Addr)) (fp : List Addr), PG (X.blk s H scope (compEnvC scope cl C X.env) fp) tg (gC X.K one is))
    (ht : ∀ (s : Shared) (H : Hp) (C : Addr) (cl : List (Str × Addr)) (fp : List Addr), PTs (X.blk s H scope (compEnvC scope cl C X.env) fp) ifs (tT X.K W0 gc))
    (he : ∀ (s : Shared) (H : Hp) (C : Addr) (cl : List (Str × Addr)) (fp : List Addr), PE (X.blk s H scope (compEnvC scope cl C X.env) fp) elt (tI X.K W0 fe)) (hs : ∀ x, foldedSetIterable iter X.env x = pure x) :
    PE X (.ListComp elt [⟨tg, iter, ifs, 0⟩] scope pos) (tI X.K W (fun η S => (fi η S).bind fun x S1 => leave S1 (comL (guardOf x.1 S1) (fun d => asgC (own.map (·.2)) one is d (wipeD η (own.map (·.2)))) gc fe S1.length x.2 (S1 ++ [.lst []])))) :=
  PE.by (pe_lc hc hN hi ok hg ht he hs) fun _ _ _ h => lc_read hW h
theorem s_comp {i : Nat} {y : Str} {py : Pos} (hW : WOk X.K W) (hc : X.calm = true) (hN : X.N.Nodup) (hy : X.N[i]? = some y) (hyl : X.env.scope.names.lookup y = some .local)
    (hsw : swapsWith (.ListComp elt [⟨tg, iter, ifs, 0⟩] scope pos) (some (.Name y py)) spos.line X.env = pure true) (hi : PI X tg iter (tW X.K W fi)) (ok : BlkOk X.N X.env.scope scope own)
    (hg : ∀ (s : Shared) (H : Hp) (C : Addr) (cl : List (Str × Addr)) (fp : List Addr), PG (X.blk s H scope (compEnvC scope cl C X.env) fp) tg (gC X.K one is))
    (ht : ∀ (s : Shared) (H : Hp) (C : Addr) (cl : List (Str × Addr)) (fp : List Addr), PTs (X.blk s H scope (compEnvC scope cl C X.env) fp) ifs (tT X.K W0 gc))
    (he : ∀ (s : Shared) (H : Hp) (C : Addr) (cl : List (Str × Addr)) (fp : List Addr), PE (X.blk s H scope (compEnvC scope cl C X.env) fp) elt (tI X.K W0 fe)) (hs : ∀ x, foldedSetIterable iter X.env x = pure x) :
    PS X (.Assign [.Name y py] (.ListComp elt [⟨tg, iter, ifs, 0⟩] scope pos) spos) (tS X.K W (fun η S => ((fi η S).bind fun x S1 => leave S1 (comL (guardOf x.1 S1) (fun d => asgC (own.map (·.2)) one is d (wipeD η (own.map (·.2)))) gc fe S1.length x.2 (S1 ++ [.lst []]))).bind fun d S => .ok (.nx (η.set i (some d))) S)) := by
  refine PS.by (ps_setLc hc hN hy hyl hsw hi ok hg ht he hs) fun D σ H h => ?_
  obtain ⟨p, η, S, re, rs, h⟩ := h
  exact lc_read hW (tI_of (f := fun η S => (fi η S).bind fun x S1 => leave S1 (comL (guardOf x.1 S1) (fun d => asgC (own.map (·.2)) one is d (wipeD η (own.map (·.2)))) gc fe S1.length x.2 (S1 ++ [.lst []]))) re rs (F := fun p' H' fl _ => EndF X.K D p' H' fl) h fun p1 H1 d S1 v e1 re1 rs1 rv h1 => Good.here (a := Fl.nx (η.set i (some d))) h1 rs1 _ (re1.set rv i))
end
end Py

set_option Elab.async false
set_option linter.all false
set_option maxRecDepth 100000
set_option maxHeartbeats 4000000
/-! {(1, 2): 3, ..}.get(key, other): a display of written tuples of ints, asked at once. -/
namespace Py
open PySem PySem.Spec PyProof.Rows L2

abbrev kI (is : List Int) : List Key := is.map .inl
theorem kI_kV (is : List Int) : (kI is).map kV = is.map V.int := by
  unfold kI
  rw [List.map_map]; rfl
def tCs : List Int → TA
  | [] => tNil
  | i :: is => tCons (tC (.int i)) (tCs is)
theorem tCs_is {σ : L2.St} : ∀ {is : List Int} {H : Hp} {Q : List V → Hp → Prop}, Q (is.map V.int) H → tCs is σ H Q
  | [], _, _, h => h
  | i :: is, H, Q, h => by
    show tCs is σ H fun vs H1 => Q (.int i :: vs) H1
    exact tCs_is h
section
variable {X : Cx}
theorem pa_lit : ∀ {es : List Expr} {is : List Int}, litIs es = some is → PA X es (tCs is)
  | [], _, h => by cases h; exact pa_nil
  | e :: es, is, h => by
    cases e with
    | Constant c k p =>
      cases c with
      | int i =>
        obtain ⟨r, h1, rfl⟩ := Option.map_eq_some_iff.mp (show (litIs es).map (i :: ·) = some is from h)
        exact pa_cons pe_int (pa_lit h1)
      | _ => cases h
    | _ => cases h
def trs (ks : List (List Int × Int)) : List (TE × TE) := ks.map fun k => (tTup (tCs k.1), tC (.int k.2))
theorem pps_lit {pos : Pos} : ∀ {keys : List (Option Expr)} {values : List Expr} {ks : List (List Int × Int)}, litKs keys values = some ks →
    PPs X pos keys values (trs ks) ∧ keys.all (·.isSome) = true ∧ keys.length = values.length ∧ keys.length = ks.length
  | [], [], _, h => by cases h; exact ⟨pps_nil, rfl, rfl, rfl⟩
  | [], _ :: _, _, h => by simp [litKs] at h
  | none :: _, _, _, h => by simp [litKs] at h
  | some k :: keys, [], _, h => by cases k <;> simp [litKs] at h
  | some k :: keys, v :: values, ks, h => by
    cases k with
    | Tuple es a b =>
      cases v with
      | Constant c a' b' =>
        cases c with
        | int i =>
          simp only [litKs] at h
          split at h
          · rename_i is r h1 h2
            cases h
            obtain ⟨q1, q2, q3, q4⟩ := pps_lit (pos := pos) h2
            exact ⟨pps_cons (pe_tup (pa_lit h1)) pe_int q1, by rw [List.all_cons, q2]; rfl, by rw [List.length_cons, List.length_cons, q3], by rw [List.length_cons, List.length_cons, q4]⟩
          · cases h
        | _ => simp [litKs] at h
      | _ => simp [litKs] at h
    | _ => simp [litKs] at h
/-- the pairs, as they lie -/
def LitP (H : Hp) : List (List Int × Int) → List (V × V) → Prop := Paired fun k p => ∃ a, p = (.ref a, .int k.2) ∧ H a = some (.tup (k.1.map V.int))
def Keep (H H' : Hp) : Prop := ∀ b o, H b = some o → H' b = some o
theorem LitP.keep {H H' : Hp} (k : Keep H H') : ∀ {ks : List (List Int × Int)} {ps : List (V × V)}, LitP H ks ps → LitP H' ks ps
  | _, _, .nil => .nil
  | _, _, .cons h t => .cons (let ⟨a, e1, e2⟩ := h; ⟨a, e1, k _ _ e2⟩) (LitP.keep k t)
theorem tPairs_lit {σ : L2.St} : ∀ {ks : List (List Int × Int)} {H : Hp} {Q : List (V × V) → Hp → Prop}, (∀ k ∈ ks, k.1.length ≤ sizeLine) → (∀ H' ps, Keep H H' → LitP H' ks ps → Q ps H') → tPairs (trs ks) σ H Q
  | [], H, Q, _, h => h H [] (fun _ _ e => e) .nil
  | k :: ks, H, Q, hz, h => by
    show (tTup (tCs k.1)) σ H fun x H1 => tC (.int k.2) σ H1 fun y H2 => tPairs (trs ks) σ H2 fun ps H3 => Q ((x, y) :: ps) H3
    refine tCs_is ⟨by rw [List.length_map]; exact hz k (List.mem_cons_self ..), fun p hp => ?_⟩
    show tPairs (trs ks) σ (upd H p (.tup (k.1.map V.int))) fun ps H3 => Q ((.ref p, .int k.2) :: ps) H3
    refine tPairs_lit (fun j hj => hz j (List.mem_cons_of_mem _ hj)) fun H' ps kp lp => h H' _ (fun b o e => kp b o ?_) (.cons ⟨p, rfl, kp p _ upd_same⟩ lp)
    rw [upd_ne (ne_of_none e hp)]; exact e
theorem carriesH {P : Program} {w : World} {H : Hp} {h : Heap} (ok : HOk P w H h) : ∀ {ks : List (List Int × Int)} {ps : List (V × V)} {ws : List (Value × Value)}, LitP H ks ps → VV ps ws →
    ∃ xs, CarriesH (tupleKind (mixKind P w)) h ws xs ∧ L2.KT H (ks.map fun k => (kI k.1, V.int k.2)) xs ∧ xs.map (·.1) = ks.map fun k => kI k.1
  | _, _, _, .nil, .nil => ⟨[], trivial, .nil, rfl⟩
  | _, _, _, @Paired.cons _ _ _ k p ks ps hk t, r => by
    cases r with
    | @cons _ q _ qs h1 t1 =>
      obtain ⟨xs, c1, c2, c3⟩ := carriesH ok t t1
      obtain ⟨a, rfl, ha⟩ := hk
      obtain ⟨q1, q2⟩ := q
      obtain ⟨e1, e2⟩ := h1
      obtain rfl : q1 = Value.ref a := e1
      have ha' : H a = some (.tup ((kI k.1).map kV)) := by rw [kI_kV]; exact ha
      exact ⟨(kI k.1, a, q2) :: xs, ⟨rfl, rfl, key_of ok ha', c1⟩, .cons ⟨rfl, ha', e2⟩ c2, by rw [List.map_cons, List.map_cons, c3]⟩
theorem RS.keep {K : PySem.W.Frag} {p : List Addr} {H H' : Hp} {S : Store} (r : RS K p H S) (k : Keep H H') : RS K p H' S :=
  ⟨r.len, r.nd, fun n b c h1 h2 => by
    have e : Ext p H p H' := ⟨List.prefix_refl p, fun b o _ e => k b o e, fun _ q => .inl q⟩
    have q := r.cel n b c h1 h2
    cases c with
    | lst ds =>
      obtain ⟨xs, q1, q2⟩ := q
      exact ⟨xs, k _ _ q1, q2.ext e⟩
    | dct kvs =>
      obtain ⟨xs, q1, q2⟩ := q
      exact ⟨xs, k _ _ q1, q2.ext e⟩⟩
theorem Ext.keep {p : List Addr} {H H' : Hp} (k : Keep H H') : Ext p H p H' := ⟨List.prefix_refl p, fun b o _ e => k b o e, fun _ q => .inl q⟩
/-- the display, then what the whole makes of it -/
def tDispI (ks : List (List Int × Int)) : TE := fun _ H Q => ∀ a H', Keep H H' → H' a = some (.dT (ks.map fun k => (kI k.1, V.int k.2))) → Q (.ref a) H'
theorem nodup_kI {ks : List (List Int × Int)} (h : (ks.map (·.1)).Nodup) : (ks.map fun k => kI k.1).Nodup := by
  have : (ks.map fun k => kI k.1) = (ks.map (·.1)).map kI := by rw [List.map_map]; rfl
  rw [this]
  refine List.Pairwise.map _ (fun a b hab e => hab ?_) h
  have inj : ∀ (x y : List Int), kI x = kI y → x = y := by
    intro x
    induction x with
    | nil => intro y q; cases y with
      | nil => rfl
      | cons _ _ => cases q
    | cons a x ih => intro y q; cases y with
      | nil => cases q
      | cons b y =>
        unfold kI at q
        rw [List.map_cons, List.map_cons] at q
        injection q with q1 q2
        rw [Sum.inl.inj q1, ih y q2]
  exact inj a b e
theorem pe_dispI {pos : Pos} {keys : List (Option Expr)} {values : List Expr} {ks : List (List Int × Int)} (h : litKs keys values = some ks) (h0 : ks ≠ []) (hl : ks.length ≤ 15) (hz : ∀ k ∈ ks, k.1.length ≤ sizeLine) (hn : (ks.map (·.1)).Nodup) (hu : X.A.units + 1 < cLine) :
    PE X (.Dict keys values pos) (tDispI ks) := by
  obtain ⟨pp, q1, q2, q3⟩ := pps_lit (X := X) (pos := pos) h
  refine ⟨fun pins s σ H Q I q => ?_⟩
  have hf := I.hok.fresh (Nat.le_refl s.heap.objs.size)
  have I1 := I.laid (a := s.heap.objs.size) (o := .dT []) (h' := s.heap.push { cls := .type "dict", data := .dict #[] }) (t' := s.toks) (fun _ _ q => Heap.get?_push_of_some _ q) (Nat.le_refl _) (dt_empty s.heap I.big)
  have hp := pairTrees_length keys values X.env pos q1 q2
  rw [arm_eval_Dict, zip_pairTrees keys values X.env pos q1 q2, dictDisplay_pairs _ (fun e => by rw [e] at hp; exact h0 (List.length_eq_zero_iff.mp (q3.symm.trans hp.symm))) (by omega)]
  refine wpAny_bind (wpAny_standAt (wpAny_bind (wpAny_subDictH (knd := tupleKind (mixKind X.prog X.w)) (Nat.lt_of_succ_lt hu) (by omega) ?_)))
  refine thn (pp.run pins _ σ _ (fun ps H' => Keep (upd H s.heap.objs.size (.dT [])) H' ∧ LitP H' ks ps) I1 (tPairs_lit hz fun H' ps k l => ⟨k, l⟩)) fun ws s2 ⟨ps, H2, I2, rel, k2, l2⟩ => ?_
  obtain ⟨xs, c1, c2, c3⟩ := carriesH I2.hok l2 rel
  have e2 : H2 s.heap.objs.size = some (.dT []) := k2 _ _ upd_same
  obtain ⟨z, hd, ys, r0, dd⟩ := dt_of I2.hok e2
  cases r0
  refine ⟨xs, c1, dd, fun h' tk dd' hs => wpAny_pure ?_⟩
  rw [storedAllH_nil_of_nodup xs (by rw [c3]; exact nodup_kI hn)] at dd'
  have he : ∃ q, h'.get? s.heap.objs.size = some q := let ⟨q, _, _, hq, _⟩ := dd'; ⟨q, hq⟩
  have ne : ∀ b o, H b = some o → b ≠ s.heap.objs.size := fun b o e => ne_of_none e hf
  have kk : L2.KT (upd H2 s.heap.objs.size (.dT (ks.map fun k => (kI k.1, V.int k.2)))) (ks.map fun k => (kI k.1, V.int k.2)) xs := by
    have gen : ∀ {A : List (List Key × V)} {B : List (List Key × Addr × Value)}, L2.KT H2 A B → L2.KT (upd H2 s.heap.objs.size (.dT (ks.map fun k => (kI k.1, V.int k.2)))) A B := by
      intro A B r
      induction r with
      | nil => exact .nil
      | cons h t ih =>
        obtain ⟨a1, a2, a3⟩ := h
        refine .cons ⟨a1, ?_, a3⟩ ih
        rw [upd_ne (fun z => by rw [z, e2] at a2; cases a2)]
        exact a2
    exact gen c2
  have I3 : Inv X pins σ (upd H2 s.heap.objs.size (.dT (ks.map fun k => (kI k.1, V.int k.2)))) { s2 with heap := h', toks := tk } := by
    refine d_write I2 (by rw [e2]; exact True.intro) hs he ?_
    obtain ⟨o, es, ep, d1, d2, d3, d4, _, d6⟩ := dd'
    exact ⟨by rw [List.length_map, sizeLine_eq]; omega, hd, xs, kk, o, es, ep, d1, d2, d3, d4, d6⟩
  refine ⟨.ref s.heap.objs.size, _, I3, rfl, q _ _ (fun b o e => ?_) upd_same⟩
  rw [upd_ne (ne b o e)]
  exact k2 b o (by rw [upd_ne (ne b o e)]; exact e)

theorem kI_inj : ∀ {x y : List Int}, kI x = kI y → x = y
  | [], [], _ => rfl
  | [], _ :: _, q => by cases q
  | _ :: _, [], q => by cases q
  | a :: x, b :: y, q => by
    unfold kI at q
    rw [List.map_cons, List.map_cons] at q
    injection q with q1 q2
    rw [Sum.inl.inj q1, kI_inj q2]
theorem valV_lit (is : List Int) : ∀ ks : List (List Int × Int), valV (ks.map fun k => (kI k.1, V.int k.2)) (kI is) = (ks.lookup is).map V.int
  | [] => rfl
  | k :: ks => by
    rw [List.map_cons, List.lookup_cons]
    by_cases h : k.1 = is
    · rw [valV_pos (by rw [← h]), h, beq_self_eq_true]; rfl
    · rw [valV_neg (fun e => h (kI_inj e)), valV_lit is ks]
      have : (is == k.1) = false := by simpa using fun e => h e.symm
      rw [this]
theorem intsOf_is : ∀ {ds : List D} {is : List Int}, intsOf ds = some is → ds = is.map D.int
  | [], _, h => by cases h; rfl
  | d :: ds, is, h => by
    cases d with
    | int i =>
      obtain ⟨r, h1, rfl⟩ := Option.map_eq_some_iff.mp (show (intsOf ds).map (i :: ·) = some is from h)
      rw [List.map_cons, ← intsOf_is h1]
    | _ => cases h
theorem tup_key {pins : List (Addr × Obj)} {σ : L2.St} {H : Hp} {s : Shared} {p : List Addr} {is : List Int} {v : V} (I : Inv X pins σ H s) (r : RV X.K p H (.tup (is.map D.int)) v) : ∃ b, v = .ref b ∧ (tupleKind (mixKind X.prog X.w)).is s.heap (kI is) b := by
  obtain ⟨b, xs, rfl, h1, h2⟩ := r
  obtain rfl := RVs.ints h1
  refine ⟨b, rfl, ?_⟩
  have fin : ∀ {o : Obj} {its : List Value} {n : Nat}, Vals (is.map V.int) its → s.heap.get? b = some o → o.cls = .type "tuple" → o.data = .seq its.toArray n → (tupleKind (mixKind X.prog X.w)).is s.heap (kI is) b := fun {o its n} r h1 h2 h3 =>
    ⟨o, its.toArray, n, h1, h2, h3, by
      rw [← kI_kV] at r
      simpa using items_are r⟩
  rcases h2 with ⟨o, its, n, e1, e2, e3, _, e5⟩ | ⟨_, hr⟩
  · exact fin (n := n) e5 (I.kIn b o e1) e2 (by simpa using e3)
  · have ok : ObjOk X.prog X.w H s.heap b (.tup (is.map V.int)) := by
      rcases hr with q | ⟨o, q⟩
      · exact I.hok b _ q
      · exact (I.hok b _ q).2
    obtain ⟨_, its, r, o, g1, g2, n, g3⟩ := ok
    exact fin r g1 g2 g3
theorem e_dgt {W : XD} {dpos apos cpos : Pos} {keys : List (Option Expr)} {values : List Expr} {ks : List (List Int × Int)} {e f : Expr} {fe ff : Sl → Store → Res D} (h : litKs keys values = some ks) (h0 : ks ≠ []) (hl : ks.length ≤ 15)
    (hz : ∀ k ∈ ks, k.1.length ≤ sizeLine) (hn : (ks.map (·.1)).Nodup) (hu : X.A.units + 1 < cLine) (he : PE X e (tI X.K W fe)) (hf : PE X f (tI X.K W ff)) (m : M2 X (.Dict keys values dpos) "get" apos e f cpos) :
    PE X (.Call (.Attribute (.Dict keys values dpos) "get" apos) [e, f] [] cpos) (tI X.K W fun η S => (fe η S).bind fun x S => (ff η S).bind fun y S => .ofO (dgt ks x y) S) := by
  refine ⟨fun pins s σ H Q I q => ?_⟩
  obtain ⟨p, η, S, re, rs, q⟩ := q
  refine wpAny_Call_method m.base m.few m.line PySem.F.plainAttrs_dict PySem.F.slot_dict_get PySem.F.type_dict_get (thn ((pe_dispI h h0 hl hz hn hu).run pins s σ H (fun v H' => ∃ a, v = .ref a ∧ Keep H H' ∧ H' a = some (.dT (ks.map fun k => (kI k.1, V.int k.2)))) I (fun a H' k e => ⟨a, rfl, k, e⟩)) fun u s1 ⟨x, H1, I1, rx, a, ex, k1, e1⟩ => ?_)
  subst ex
  obtain rfl : u = Value.ref a := rx
  obtain ⟨t1, t2, _⟩ := isD_at I1 (.inr ⟨_, .inl e1⟩)
  refine ⟨t1, t2, ?_⟩
  rw [m.trees]
  have hx1 : Ext p H p H1 := Ext.keep k1
  have rs1 := rs.keep k1
  have ha : a ∉ p := fun z => by
    obtain ⟨n, hn, e⟩ := List.getElem_of_mem z
    have hs : n < S.length := by rw [← rs1.len]; exact hn
    have c := rs1.cel n a S[n] (by rw [List.getElem?_eq_getElem hn, e]) (List.getElem?_eq_getElem hs)
    cases ec : S[n] with
    | lst ds =>
      rw [ec] at c
      obtain ⟨xs, c, _⟩ := c
      rw [e1] at c; cases c
    | dct kvs =>
      rw [ec] at c
      obtain ⟨xs, c, _⟩ := c
      rw [e1] at c; cases c
  refine Calls.callWith_builtin rfl (Calls.evalArgs_plain (Calls.spliced_cons (thn (he.run pins s1 σ H1 _ I1 (tI_of (re.ext hx1) rs1 (q.mono hx1) (Q := fun v H2 => ∃ p2 S2 d, Ext p H1 p2 H2 ∧ RE X.K p2 H2 η σ ∧ RS X.K p2 H2 S2 ∧ RV X.K p2 H2 d v ∧ Good X.K p2 H2 ((ff η S2).bind fun y S => Res.ofO (dgt ks d y) S) (fun p' H' d _ => ∀ v, RV X.K p' H' d v → Q v H') W)
    fun p2 H2 d S2 v e2 re2 rs2 rv q2 => ⟨p2, S2, d, e2, re2, rs2, rv, q2⟩)) fun iv s2 ⟨y, H2, I2, ry, p2, S2, d, x2, re2, rs2, rv2, q2⟩ => ?_)))
  refine Calls.spliced_cons (thn (hf.run pins s2 σ H2 _ I2 (tI_of re2 rs2 q2 (Q := fun v H3 => ∃ p3 S3 d3, Ext p2 H2 p3 H3 ∧ RS X.K p3 H3 S3 ∧ RV X.K p3 H3 d3 v ∧ Good X.K p3 H3 (Res.ofO (dgt ks d d3) S3) (fun p' H' d _ => ∀ v, RV X.K p' H' d v → Q v H') W)
    fun p3 H3 d3 S3 v e3 re3 rs3 rv q3 => ⟨p3, S3, d3, e3, rs3, rv, q3⟩)) fun fv s3 ⟨z, H3, I3, rz, p3, S3, d3, x3, rs3, rv3, q3⟩ => Calls.spliced_nil ?_)
  obtain ⟨r, hr, hq⟩ := q3.ofO rs3
  cases d with
  | tup ds =>
    obtain ⟨is, hi, rfl⟩ := Option.map_eq_some_iff.mp (show (intsOf ds).map _ = some r from hr)
    have eds := intsOf_is hi
    subst eds
    obtain ⟨b, eb, hk⟩ := tup_key I3 (rv2.ext x3)
    subst eb
    obtain rfl : iv = Value.ref b := ry
    have e3 : H3 a = some (.dT (ks.map fun k => (kI k.1, V.int k.2))) := (x2.trans x3).same a _ ha e1
    obtain ⟨_, hd, xs, rel, dd⟩ := dt_of I3.hok e3
    refine call_meetsIn PySem.F.slot_dict_get dd.typeIs PySem.F.entry_dict_get (PySem.F.args_dict_get_3 _ _ _) (meetsH_dict_get_default (tupleKind (mixKind X.prog X.w)) a b hd fv) ⟨tupleKind_room_in1 hu, kI is, xs, hk, dd, ?_⟩
    have hv := rel.val (kI is)
    rw [valV_lit] at hv
    refine ⟨_, H3, I3.tok _, hv.getD rz, ?_⟩
    cases hlk : ks.lookup is with
    | none =>
      rw [hlk] at hq
      exact hq z rv3
    | some v =>
      rw [hlk] at hq
      exact hq (.int v) rfl
  | _ => cases hr
end

/-! ### {1: a, 2: b, ..}, a new dict -/
theorem merge_new : ∀ (more kvs : List (Key × V)), ((kvs ++ more).map (·.1)).Nodup → mergeK kvs more = kvs ++ more
  | [], kvs, _ => (List.append_nil _).symm
  | x :: more, kvs, h => by
    have e : putK kvs x.1 x.2 = kvs ++ [x] := by
      unfold putK
      rw [if_neg]
      rw [List.any_eq_true]
      rintro ⟨y, hy, e⟩
      have e := of_decide_eq_true e
      rw [List.map_append, List.nodup_append] at h
      exact h.2.2 y.1 (List.mem_map.mpr ⟨y, hy, rfl⟩) x.1 (List.mem_map.mpr ⟨x, List.mem_cons_self .., rfl⟩) e
    show mergeK (putK kvs x.1 x.2) more = _
    rw [e, merge_new more (kvs ++ [x]) (by rw [List.append_assoc]; exact h), List.append_assoc]
    rfl
def tPr (K : PySem.W.Frag) (W : XD) (ks : List Int) (f : Sl → Store → Res (List D)) (trs : List (TE × TE)) : Prop := ∀ p η S σ H Q, RE K p H η σ → RS K p H S →
  Good K p H (f η S) (fun p' H' ds _ => ds.length = ks.length → ∀ vs, RVs K p' H' ds vs → Q ((ks.map V.int).zip vs) H') W → Good K p H (f η S) (fun _ _ ds _ => ds.length = ks.length) W → tPairs trs σ H Q
section
variable {X : Cx} {W : XD} {pos : Pos}
theorem pr_nil : tPr X.K W [] (fun _ S => .ok [] S) [] := fun p η S σ H Q re rs h _ => h.here rs rfl [] rfl
theorem pr_cons {k : Int} {ks : List Int} {fe : Sl → Store → Res D} {f : Sl → Store → Res (List D)} {trs : List (TE × TE)} (hr : tPr X.K W ks f trs) : tPr X.K W (k :: ks) (fun η S => (fe η S).bind fun d S => (f η S).bind fun ds S => .ok (d :: ds) S) ((tC (.int k), tI X.K W fe) :: trs) := by
  intro p η S σ H Q re rs h hl
  show tI X.K W fe σ H fun y H2 => tPairs trs σ H2 fun ps H3 => Q ((.int k, y) :: ps) H3
  refine ⟨p, η, S, re, rs, ?_⟩
  have both : Good X.K p H (fe η S) (fun p1 H1 d S1 => Good X.K p1 H1 ((f η S1).bind fun ds S => .ok (d :: ds) S) (fun p' H' ds _ => (ds.length = (k :: ks).length → ∀ vs, RVs X.K p' H' ds vs → Q (((k :: ks).map V.int).zip vs) H')) W) W := Good.bind h
  have bl : Good X.K p H (fe η S) (fun p1 H1 d S1 => Good X.K p1 H1 ((f η S1).bind fun ds S => .ok (d :: ds) S) (fun _ _ ds _ => ds.length = (k :: ks).length) W) W := Good.bind hl
  cases q : fe η S with
  | bad => rw [q] at both; exact both
  | exc x d S1 => rw [q] at both; exact both
  | ok d S1 =>
    rw [q] at both bl
    intro p1 H1 e1 rs1 v rv
    have g1 := both p1 H1 e1 rs1
    have g2 := bl p1 H1 e1 rs1
    refine hr p1 η S1 σ H1 _ (re.ext e1) rs1 ?_ ?_
    · refine (Good.bind g1).imp fun p2 H2 ds S2 e2 rs2 z hz vs rvs => ?_
      exact Good.here (a := d :: ds) z rs2 (by rw [List.length_cons, List.length_cons, hz]) (v :: vs) ⟨v, vs, rfl, rv.ext e2, rvs⟩
    · refine (Good.bind g2).imp fun p2 H2 ds S2 e2 rs2 z => ?_
      have := Good.here (a := d :: ds) z rs2
      simpa using this
theorem e_ddsp {keys : List (Option Expr)} {values : List Expr} {ks : List Int} {f : Sl → Store → Res (List D)} {trs : List (TE × TE)} (h : PPs X pos keys values trs) (ht : tPr X.K W ks f trs) (hall : keys.all (·.isSome) = true) (hl : keys.length = values.length) (h0 : keys ≠ [])
    (h15 : keys.length ≤ 15) (hk : ks.length = keys.length) (nd : ks.Nodup) : PE X (.Dict keys values pos) (tI X.K W fun η S => (f η (S ++ [.dct []])).bind fun ds S1 => if ks.length = ds.length then match S1[S.length]? with
      | some (.dct []) => .ok (.lo S.length) (S1.set S.length (.dct (ks.zip ds)))
      | _ => .bad
      else .bad) := by
  refine PE.by (pe_disp h hall hl h0 h15) fun σ H Q h => ?_
  obtain ⟨p, η, S, re, rs, h⟩ := h
  intro a ha
  have e1 : Ext p H (p ++ [a]) (upd H a (.dK [])) := Ext.cell ha
  have rs1 := rs.cellC ha (c := .dct []) ⟨[], upd_same, rfl, rfl⟩
  have hp : (p ++ [a])[S.length]? = some a := by
    rw [← rs.len, List.getElem?_append_right (Nat.le_refl _), Nat.sub_self]; rfl
  have g := Good.bind (Good.mono h e1)
  refine ht (p ++ [a]) η (S ++ [.dct []]) σ _ _ (re.ext e1) rs1 ?_ ?_
  · refine g.imp fun p2 H2 ds S2 e2 rs2 z hz vs rvs => ?_
    rw [if_pos hz.symm] at z
    cases q : S2[S.length]? with
    | none => rw [q] at z; exact False.elim z
    | some c =>
      rw [q] at z
      cases c with
      | lst _ => exact False.elim z
      | dct kvs =>
        cases kvs with
        | cons _ _ => exact False.elim z
        | nil =>
          have hp2 : p2[S.length]? = some a := by
            obtain ⟨t, rfl⟩ := e2.pre
            rw [List.getElem?_append_left (List.getElem?_eq_some_iff.mp hp).1]; exact hp
          obtain ⟨kws, c1, c2, c3⟩ := rs2.cel _ a _ hp2 q
          have : kws = [] := by
            cases kws with
            | nil => rfl
            | cons _ _ => simp at c2
          subst this
          have lv : vs.length = ks.length := by rw [← rvs.length, hz]
          have eqs : (ks.map V.int).zip vs = ((ks.zip vs).map fun x => ((Sum.inl x.1 : Key), x.2)).map fun kv => (kV kv.1, kv.2) := by
            rw [List.map_map, List.zip_map_left]; rfl
          have m1 : ((ks.zip vs).map fun x => ((Sum.inl x.1 : Key), x.2)).map (·.1) = ks.map Sum.inl := by
            rw [List.map_map]
            have : (ks.zip vs).map (fun x => (Sum.inl x.1 : Key)) = ((ks.zip vs).map Prod.fst).map Sum.inl := by rw [List.map_map]; rfl
            rw [show ((fun x : Key × V => x.1) ∘ fun x : Int × V => ((Sum.inl x.1 : Key), x.2)) = fun x => (Sum.inl x.1 : Key) from rfl, this, List.map_fst_zip (by omega)]
          refine ⟨c1, (ks.zip vs).map fun x => ((Sum.inl x.1 : Key), x.2), eqs, by rw [List.length_map, List.length_zip]; omega, ?_⟩
          rw [merge_new _ [] (by
            rw [List.nil_append, m1]
            exact List.Pairwise.map _ (fun a b hab e => hab (Sum.inl.inj e)) nd), List.nil_append]
          refine z p2 _ (Ext.write (List.mem_of_getElem? hp2)) (rs2.writeC hp2 ⟨_, upd_same, ?_, ?_⟩) _ ⟨a, hp2, rfl⟩
          · rw [m1]
            have : (ks.zip ds).map (fun x => (Sum.inl x.1 : Key)) = ((ks.zip ds).map Prod.fst).map Sum.inl := by rw [List.map_map]; rfl
            rw [this, List.map_fst_zip (by omega)]
          · have z1 : (ks.zip ds).map (·.2) = ds := List.map_snd_zip (by omega)
            have z2 : ((ks.zip vs).map fun x => ((Sum.inl x.1 : Key), x.2)).map (·.2) = vs := by
              rw [List.map_map, show ((fun x : Key × V => x.2) ∘ fun x : Int × V => ((Sum.inl x.1 : Key), x.2)) = fun x => x.2 from rfl]
              exact List.map_snd_zip (by omega)
            rw [z1, z2]
            exact rvs.ext (Ext.write (List.mem_of_getElem? hp2))
  · refine g.imp fun p2 H2 ds S2 e2 rs2 z => ?_
    by_cases c : ks.length = ds.length
    · exact c.symm
    · rw [if_neg c] at z; exact False.elim z
end
end Py

set_option Elab.async false
set_option linter.all false
set_option maxRecDepth 100000
set_option maxHeartbeats 4000000
/-! sorted({t: True, ..}), the keys tuples of numbers: the members once each, in order. -/
namespace Py
open PySem PySem.Spec PyProof.Rows L2
section
variable {X : Cx} {pins : List (Addr × Obj)} {σ : L2.St} {H : Hp} {s : Shared}
theorem sq_key {b : Addr} {is : List Int} (I : Inv X pins σ H s) (h : SqT X.K H b (is.map V.int)) : (tupleKind (mixKind X.prog X.w)).is s.heap (kI is) b := by
  have fin : ∀ {o : Obj} {its : List Value} {n : Nat}, Vals (is.map V.int) its → s.heap.get? b = some o → o.cls = .type "tuple" → o.data = .seq its.toArray n → (tupleKind (mixKind X.prog X.w)).is s.heap (kI is) b := fun {o its n} r h1 h2 h3 =>
    ⟨o, its.toArray, n, h1, h2, h3, by
      rw [← kI_kV] at r
      simpa using items_are r⟩
  rcases h with hr | ⟨o, its, n, e1, e2, e3, _, e5⟩
  · have ok : ObjOk X.prog X.w H s.heap b (.tup (is.map V.int)) := by
      rcases hr with q | ⟨o, q⟩
      · exact I.hok b _ q
      · exact (I.hok b _ q).2
    obtain ⟨_, its, r, o, g1, g2, n, g3⟩ := ok
    exact fin r g1 g2 g3
  · exact fin (n := n) e5 (I.kIn b o e1) e2 (by simpa using e3)
/-- the places of the keys that a dict ends up with -/
theorem stored_keys {K : Type} [DecidableEq K] : ∀ {ps acc : List (K × Addr × Value)} {k : K}, k ∈ acc.map (·.1) ∨ k ∈ ps.map (·.1) → k ∈ (storedAllH acc ps).map (·.1)
  | [], acc, k, h => by
    rcases h with h | h
    · exact h
    · cases h
  | p :: ps, acc, k, h => by
    have one : ∀ k, k ∈ acc.map (·.1) ∨ k = p.1 → k ∈ (storedH acc p.1 p.2.1 p.2.2).map (·.1) := fun k h => by
      cases e : atKey acc p.1 with
      | none =>
        rw [storedH_new e, List.map_append]
        rcases h with h | h
        · exact List.mem_append_left _ h
        · exact List.mem_append_right _ (by rw [h]; exact List.mem_singleton.mpr rfl)
      | some v =>
        rw [storedH_old e, List.map_map]
        have same : ((fun x : K × Addr × Value => x.1) ∘ putAt p.1 p.2.2) = fun x => x.1 := by
          funext x
          show (putAt p.1 p.2.2 x).1 = x.1
          unfold putAt
          split <;> rfl
        rw [same]
        rcases h with h | h
        · exact h
        · subst h
          unfold atKey at e
          obtain ⟨x, hx, _⟩ := Option.map_eq_some_iff.mp e
          have := List.find?_some hx
          exact List.mem_map.mpr ⟨x, List.mem_of_find?_eq_some hx, of_decide_eq_true this⟩
    refine stored_keys (ps := ps) (acc := storedH acc p.1 p.2.1 p.2.2) ?_
    rcases h with h | h
    · exact .inl (one k (.inl h))
    · rw [List.map_cons] at h
      rcases List.mem_cons.mp h with h | h
      · exact .inl (one k (.inr h))
      · exact .inr h
theorem carry_sq (I : Inv X pins σ H s) : ∀ {ps : List (V × V)} {ws : List (Value × Value)} {L : List (Addr × List Int)}, VV ps ws → ps.map (·.1) = L.map (fun x => V.ref x.1) → (∀ x ∈ L, SqT X.K H x.1 (x.2.map V.int)) →
    ∃ xs : List (List Key × Addr × Value), CarriesH (tupleKind (mixKind X.prog X.w)) s.heap ws xs ∧ xs.map (fun x => (x.1, x.2.1)) = L.map fun x => (kI x.2, x.1)
  | _, _, [], .nil, _, _ => ⟨[], trivial, rfl⟩
  | _, _, _ :: _, .nil, e, _ => by cases e
  | _, _, [], .cons _ _, e, _ => by cases e
  | _, _, (b, is) :: L, @Paired.cons _ _ _ (p1, p2) (w1, w2) ps ws hh t, e, key => by
    rw [List.map_cons, List.map_cons] at e
    injection e with e1 e2
    obtain ⟨xs, c1, c2⟩ := carry_sq I t e2 fun x hx => key x (List.mem_cons_of_mem _ hx)
    have k1 := key (b, is) (List.mem_cons_self ..)
    obtain ⟨g1, g2⟩ := hh
    have e1 : p1 = V.ref b := e1
    subst e1
    obtain rfl : w1 = Value.ref b := g1
    exact ⟨(kI is, b, w2) :: xs, ⟨rfl, rfl, sq_key I k1, c1⟩, by rw [List.map_cons, List.map_cons, c2]⟩
def emptyD : Obj := { cls := .type "dict", data := .dict #[] }
/-- the display: a dict that is not tracked -/
theorem disp_raw {pos : Pos} {keys : List (Option Expr)} {values : List Expr} {trs : List (TE × TE)} {R : List (Addr × List Int) → Hp → Prop} (hu : X.A.units + 1 < cLine) (I : Inv X pins σ H s) (hp : PPs X pos keys values trs)
    (h1 : keys.all (·.isSome) = true) (h2 : keys.length = values.length) (h0 : keys ≠ []) (h15 : keys.length ≤ 15)
    (q : tPairs trs σ H fun ps H2 => ∃ L : List (Addr × List Int), ps.map (·.1) = L.map (fun x => V.ref x.1) ∧ (∀ x ∈ L, SqT X.K H2 x.1 (x.2.map V.int)) ∧ R L H2) :
    wpAny (model X.prog X.w) X.A (eval (.Dict keys values pos) X.env) (fun u s' => ∃ L H2 d, ∃ xs : List (List Key × Addr × Value), Inv X pins σ H2 s' ∧ R L H2 ∧ u = .ref d ∧ (d == sysModules) = false ∧ s'.heap.DictOfH (tupleKind (mixKind X.prog X.w)) d (storedAllH [] xs) ∧
      (∀ x ∈ L, SqT X.K H2 x.1 (x.2.map V.int)) ∧ xs.map (fun x => (x.1, x.2.1)) = L.map fun x => (kI x.2, x.1)) X.xe s := by
  have hf := I.hok.fresh (Nat.le_refl s.heap.objs.size)
  have hl := pairTrees_length keys values X.env pos h1 h2
  rw [arm_eval_Dict, zip_pairTrees keys values X.env pos h1 h2, dictDisplay_pairs _ (fun e => by rw [e] at hl; exact h0 (List.length_eq_zero_iff.mp hl.symm)) (by omega)]
  refine wpAny_bind (wpAny_standAt (wpAny_bind (wpAny_subDictH (knd := tupleKind (mixKind X.prog X.w)) (Nat.lt_of_succ_lt hu) (by omega) ?_)))
  have I1 : Inv X ((s.heap.objs.size, emptyD) :: pins) σ H { s with heap := s.heap.push emptyD } := by
    have I0 : Inv X pins σ H { s with heap := s.heap.push emptyD } := I.kept (t' := s.toks) fun b o e => Heap.get?_push_of_some _ e
    refine I0.pins_of fun p hp => ?_
    rcases List.mem_cons.mp hp with rfl | hp
    · exact ⟨Heap.get?_push_size _ rfl, hf, Nat.ne_of_gt I.lt, I.nofs (Nat.le_refl _), fun v e => by cases e⟩
    · exact I0.pin p (List.mem_append_right _ hp)
  refine thn (hp.run _ _ σ _ _ I1 q) fun ws s2 ⟨ps, H2, I2, rel, L, hL, key, hR⟩ => ?_
  obtain ⟨xs, c1, c2⟩ := carry_sq I2 rel hL key
  obtain ⟨pg, pn, _, _, _⟩ := I2.pin (s.heap.objs.size, emptyD) (List.mem_append_right _ (List.mem_cons_self ..))
  refine ⟨xs, c1, ⟨emptyD, #[], 0, pg, ⟨rfl, rfl, rfl⟩, rfl, rfl, fun _ hx => (nomatch hx), List.nodup_nil⟩, fun h' tk dd' hs => wpAny_pure ?_⟩
  have I3 : Inv X pins σ H2 s2 := I2.pins_of fun p hp => I2.pin p (List.mem_append_right _ (List.mem_cons_of_mem _ hp))
  have I4 : Inv X pins σ H2 { s2 with heap := h', toks := tk } := I3.turned (it := s.heap.objs.size) (fun b o ne e => (hs.2 b ne).trans e) pn (Nat.ne_of_gt I.lt) (.inr I.sz)
    (fun x c e z => by
      obtain ⟨v, o, ho, _⟩ := I.cell x c e
      have := Heap.lt_size ho
      rw [z] at this
      exact Nat.lt_irrefl _ this)
    (fun p hp z => by
      obtain ⟨ho, _⟩ := I.pin p hp
      have := Heap.lt_size ho
      rw [z] at this
      exact Nat.lt_irrefl _ this)
  exact ⟨L, H2, s.heap.objs.size, xs, I4, hR, rfl, beq_eq_false_iff_ne.mpr (Nat.ne_of_gt I.big), dd', key, c2⟩
theorem vals_refs : ∀ l : List Addr, Vals (l.map V.ref) (l.map Value.ref)
  | [] => .nil
  | a :: l => .cons rfl (vals_refs l)
/-- sorted(d) of such a dict -/
theorem sort_raw {Q : VK} {d : Addr} {ys : List (List Key × Addr × Value)} {ps : List (V × List Int)} (hc : X.calm = true) (I : Inv X pins σ H s) (lo : (d == sysModules) = false) (dd : s.heap.DictOfH (tupleKind (mixKind X.prog X.w)) d ys) (hn : ys.length ≤ 1000)
    (hp : ps.map (·.1) = ys.map fun y => V.ref y.2.1) (hx : ∀ x ∈ ps, ∃ t, x.1 = V.ref t ∧ SqT X.K H t (x.2.map V.int) ∧ x.2 ≠ [])
    (q : ∀ (zs : List (V × List Int)) (p : Addr), SrtO.Srtd HT.lexLt (zs.map (·.2)) → zs.Perm ps → H p = none → Q (.ref p) (upd H p (.lst (zs.map (·.1))))) :
    wpAny (model X.prog X.w) X.A (PySem.call (.builtin "sorted") [.ref d]) (EP X pins σ Q) X.xe s := by
  obtain ⟨o, es, ep, ho, hxd, hdat, he, _, hnd⟩ := dd
  have raw : s.heap.DictRaw d es ep := ⟨o, ho, hxd, hdat⟩
  have sz : es.size = ys.length := by rw [← Array.length_toList, he, List.length_map]
  have h16 : es.size ≤ sizeLine := by rw [sz, sizeLine_eq]; omega
  refine Calls.call_function_entry PyProof.Rows.kind_sorted PyProof.Rows.plain_sorted
    PyProof.Rows.entry_sorted (PyProof.Rows.args_sorted1 _) ?_
  unfold Builtin.«sorted»
  refine wpAny_bind (m := checkCount "sorted" 1 1 _) (wpAny_pure ?_)
  refine wpAny_bind (PySem.W.kdu_collect (A := X.A.in1) (PySem.KdlSrc.rawDict (es := es) (ep := ep) lo)
    (I.ok.hd hc) raw h16 fun h' tk acc hk hacc => ?_)
  have hacc2 : acc.toList = (ys.map fun y => y.2.1).map Value.ref := by
    refine List.ext_getElem? fun j => ?_
    rw [List.map_map, List.getElem?_map]
    cases e : ys[j]? with
    | none =>
      have := List.getElem?_eq_none_iff.mp e
      rw [List.getElem?_eq_none (by rw [Array.length_toList, hacc.1, sz]; exact this)]; rfl
    | some y =>
      have hj : j < ys.length := (List.getElem?_eq_some_iff.mp e).1
      have hj2 : j < acc.toList.length := by rw [Array.length_toList, hacc.1, sz]; exact hj
      obtain ⟨hi, hv⟩ := hacc.2 j _ (by rw [← Array.getElem?_toList]; exact List.getElem?_eq_getElem hj2)
      rw [List.getElem?_eq_getElem hj2, hv]
      have e2 : es.toList[j]? = some (entryOfKey (tupleKind (mixKind X.prog X.w)) y) := by rw [he, List.getElem?_map, e]; rfl
      rw [Array.getElem?_toList, Array.getElem?_eq_getElem hi] at e2
      rw [Option.some.inj e2]; rfl
  have I1 : Inv X pins σ H { s with heap := h', toks := tk } := I.kept hk
  have rv : Vals (ps.map (·.1)) acc.toList := by
    rw [hp, hacc2, show (ys.map fun y => V.ref y.2.1) = (ys.map fun y => y.2.1).map V.ref by rw [List.map_map]; rfl]
    exact vals_refs _
  obtain ⟨hpb, e1⟩ := ps_back I1 rv hx
  have hal : acc.toList.length ≤ sizeLine := by rw [Array.length_toList, hacc.1]; exact h16
  refine wpAny_bind (wpAny_newList ?_ hal)
  have hoL : (h'.push (seqObj "list" acc.toList.toArray 0)).get? h'.objs.size = some (seqObj "list" acc.toList.toArray 0) :=
    Heap.get?_push_size _ rfl
  show wpAny _ _ _ _ _ { s with heap := h'.push (seqObj "list" acc.toList.toArray 0), toks := tk }
  refine wpAny_bind (wpAny_holding (wpAny_call_entry PyProof.Rows.slot_list_sort ⟨_, hoL, rfl⟩ PyProof.Rows.entry_list_sort
    (SrtO.list_sort_ord (s := { s with heap := h'.push (seqObj "list" acc.toList.toArray 0), toks := tk }) (NtL.swo_lexL fun v => TS.intsOf h' v) hoL hal (fun h2 => ?_) fun out g1 g2 => ⟨_, rfl, ?_⟩)
    (PyProof.Rows.args_list_sort _)))
  · refine tk_sortable (by omega) (fun v hm => ⟨(hpb v hm).1.1.keeps fun b o e _ => Heap.get?_push_of_some _ e, (hpb v hm).1.2⟩) fun o e => ?_
    have e' : some o = some (seqObj "list" acc.toList.toArray 0) := e.symm.trans hoL
    cases e'
    intro c
    exact absurd (Value.type.inj c) (by decide)
  · have h3 : ∀ u ∈ out, ∃ a, u = Value.ref a := fun u hu => (hpb u (g2.perm.mem_iff.mp hu)).2
    obtain ⟨e', he'⟩ := PyProof.Rows.sortedHeap_at (vs := acc.toList) (out := out.toArray) hoL
    have hb : (out.map fun u => (bkV u, TS.intsOf h' u)).Perm ps := by
      rw [e1]
      exact g2.perm.map _
    have em : (out.map fun u => (bkV u, TS.intsOf h' u)).map (·.1) = out.map bkV := by rw [List.map_map]; rfl
    have hlen : (out.map bkV).length ≤ sizeLine := by
      rw [← em, List.length_map, hb.length_eq, ← List.length_map (f := fun x : V × List Int => x.1), rv.length]
      exact hal
    have fin := q (out.map fun u => (bkV u, TS.intsOf h' u)) h'.objs.size (List.pairwise_map.mpr (List.pairwise_map.mpr g1)) hb (I1.hok.fresh (Nat.le_refl _))
    rw [em] at fin
    refine wpAny_pure ⟨_, rfl, .ref h'.objs.size, upd H h'.objs.size (.lst (out.map bkV)), I1.laid (t' := tk) (fun b u e => ?_) (Nat.le_refl _) ⟨hlen, out, e', bkV_vals h3, he'⟩, rfl, fin⟩
    have hb : b < h'.objs.size := Heap.lt_size e
    rw [PyProof.Rows.sortedHeap_old (Nat.ne_of_lt hb) (by rw [size_push']; exact Nat.lt_succ_of_lt hb)]
    exact Heap.get?_push_of_some _ e
end
theorem rv_of_sqT {K : PySem.W.Frag} {p : List Addr} {H : Hp} {S : Store} {b : Addr} {is : List Int} (rs : RS K p H S) (h : SqT K H b (is.map V.int)) : RV K p H (tkD is) (.ref b) := by
  refine ⟨b, is.map V.int, rfl, RVs.of_ints is, ?_⟩
  rcases h with h | h
  · refine .inr ⟨fun hb => ?_, h⟩
    obtain ⟨n, hn⟩ := List.getElem?_of_mem hb
    have hl : n < S.length := by rw [← rs.len]; exact (List.getElem?_eq_some_iff.mp hn).1
    have c := rs.cel n b _ hn (List.getElem?_eq_getElem hl)
    rcases h with h | ⟨o, h⟩
    · cases q : S[n] with
      | lst ds => rw [q] at c; obtain ⟨xs, e, _⟩ := c; rw [h] at e; cases e
      | dct kvs => rw [q] at c; obtain ⟨xs, e, _⟩ := c; rw [h] at e; cases e
    · cases q : S[n] with
      | lst ds => rw [q] at c; obtain ⟨xs, e, _⟩ := c; rw [h] at e; cases e
      | dct kvs => rw [q] at c; obtain ⟨xs, e, _⟩ := c; rw [h] at e; cases e
  · exact .inl h
/-- pairs whose values are True -/
def tPD (K : PySem.W.Frag) (W : XD) (f : Sl → Store → Res (List D)) (trs : List (TE × TE)) : Prop := ∀ p η S σ H (R : List (V × V) → Hp → Prop), RE K p H η σ → RS K p H S →
  Good K p H (f η S) (fun p' H' ds _ => ∀ vs, RVs K p' H' ds vs → R (vs.map fun v => (v, V.bl true)) H') W → tPairs trs σ H R
theorem pd_nil {K : PySem.W.Frag} {W : XD} : tPD K W (fun _ S => .ok [] S) [] := fun p η S σ H R re rs h => h.here rs [] rfl
theorem pd_cons {K : PySem.W.Frag} {W : XD} {fe : Sl → Store → Res D} {f : Sl → Store → Res (List D)} {trs : List (TE × TE)} (hr : tPD K W f trs) : tPD K W (fun η S => (fe η S).bind fun d S => (f η S).bind fun ds S => .ok (d :: ds) S) ((tI K W fe, tC (.bl true)) :: trs) := by
  intro p η S σ H R re rs h
  show tI K W fe σ H fun x H1 => tPairs trs σ H1 fun ps H3 => R ((x, .bl true) :: ps) H3
  refine tI_of re rs h fun p1 H1 d S1 v e1 re1 rs1 rv h1 => ?_
  refine hr p1 η S1 σ H1 _ re1 rs1 ((Good.bind h1).imp fun p2 H2 ds S2 e2 rs2 z vs rvs => ?_)
  exact Good.here (a := d :: ds) z rs2 (v :: vs) ⟨v, vs, rfl, rv.ext e2, rvs⟩
section
variable {X : Cx} {k : Nat} {pos : Pos}
def unkI (k : List Key) : List Int := k.map fun x => match x with
  | .inl i => i
  | .inr _ => 0
theorem unkI_kI (is : List Int) : unkI (kI is) = is := by
  unfold unkI kI
  rw [List.map_map]
  exact List.map_id' is
theorem sort_display {f : Str} {p0 dpos : Pos} {keys : List (Option Expr)} {values : List Expr} {trs : List (TE × TE)} {fs : Sl → Store → Res (List D)} (cf : Cf X k) (hg : Gl X f) (hm : X.mg f = none) (hv : bootBuiltins f = some (.builtin "sorted")) (hn : f ≠ "__name__") (hdb : (f == ("__debug__" : Str)) = false)
    (hp : PPs X dpos keys values trs) (ht : tPD X.K W0 fs trs) (h1 : keys.all (·.isSome) = true) (h2 : keys.length = values.length) (h0 : keys ≠ []) (h15 : keys.length ≤ 15)
    (he : starEach [.Dict keys values dpos] X.env = (false, eval (.Dict keys values dpos) X.env) :: starEach [] X.env) (hpl : (backTo pos (starEach ([] : List Expr) X.env)).any (·.1) = false) :
    PE X (.Call (.Name f p0) [.Dict keys values dpos] [] pos) (tI X.K W0 fun η S => (fs η S).bind fun ds S => match tksOf ds with
      | some ks => if ks.length ≤ 15 then .ok (.lv ((sdd ks).map tkD)) S else .bad
      | none => .bad) := by
  refine ⟨fun pins s σ H Q I h => ?_⟩
  obtain ⟨p, η, S, re, rs, h⟩ := h
  have g := Good.bind h
  have hu : X.A.units + 1 < cLine := by have := cf.room.un; omega
  refine wpAny_Call_Name_kw (ld_blt I hg hm hv ?_ hn hdb)
  refine PyProof.Rows.callWith_builtin1 ?_ he hpl
  rw [he]
  show wpAny _ _ (spliced ((false, eval (.Dict keys values dpos) X.env) :: backTo pos (starEach [] X.env))) _ _ s
  refine Calls.spliced_cons ?_
  let R : List (Addr × List Int) → Hp → Prop := fun L H2 => ∃ (p2 : List Addr) (S2 : Store), RS X.K p2 H2 S2 ∧ L.length ≤ 15 ∧ (∀ x ∈ L, x.2 ≠ []) ∧ Good X.K p2 H2 (.ok (.lv ((sdd (L.map (·.2))).map tkD)) S2) (fun p' H' d _ => ∀ v, RV X.K p' H' d v → Q v H') W0
  have q := ht p η S σ H (fun ps H2 => ∃ L : List (Addr × List Int), ps.map (·.1) = L.map (fun x => V.ref x.1) ∧ (∀ x ∈ L, SqT X.K H2 x.1 (x.2.map V.int)) ∧ R L H2) re rs (g.imp fun p2 H2 ds S2 e2 rs2 z vs rvs => by
    cases hk : tksOf ds with
    | none => rw [hk] at z; exact False.elim z
    | some ks =>
      rw [hk] at z
      have z : Good X.K p2 H2 (if ks.length ≤ 15 then .ok (.lv ((sdd ks).map tkD)) S2 else .bad) (fun p' H' d _ => ∀ v, RV X.K p' H' d v → Q v H') W0 := z
      by_cases hl : ks.length ≤ 15
      · rw [if_pos hl] at z
        obtain ⟨M, l1, l2, l3⟩ := tks_rv hk rvs
        have mk : ∀ M : List (V × List Int), (∀ x ∈ M, ∃ t, x.1 = V.ref t ∧ SqT X.K H2 t (x.2.map V.int) ∧ x.2 ≠ []) → ∃ L : List (Addr × List Int), M.map (·.1) = L.map (fun x => V.ref x.1) ∧ M.map (·.2) = L.map (·.2) ∧ ∀ x ∈ L, SqT X.K H2 x.1 (x.2.map V.int) ∧ x.2 ≠ [] := by
          intro M hM
          induction M with
          | nil => exact ⟨[], rfl, rfl, fun x hx => (nomatch hx)⟩
          | cons x M ih =>
            obtain ⟨L, a1, a2, a3⟩ := ih fun y hy => hM y (List.mem_cons_of_mem _ hy)
            obtain ⟨t, e1, e2, e3⟩ := hM x (List.mem_cons_self ..)
            refine ⟨(t, x.2) :: L, by rw [List.map_cons, List.map_cons, a1, e1], by rw [List.map_cons, List.map_cons, a2], fun y hy => ?_⟩
            rcases List.mem_cons.mp hy with rfl | hy
            · exact ⟨e2, e3⟩
            · exact a3 y hy
        obtain ⟨L, a1, a2, a3⟩ := mk M fun x hx => (l3 x hx).2
        have eL : ks = L.map (·.2) := by rw [← l2, a2]
        refine ⟨L, ?_, fun x hx => (a3 x hx).1, p2, S2, rs2, ?_, fun x hx => (a3 x hx).2, by rw [← eL]; exact z⟩
        · rw [List.map_map, ← a1, l1]
          exact List.map_id' vs
        · rw [eL, List.length_map] at hl; exact hl
      · rw [if_neg hl] at z; exact False.elim z)
  refine thn (disp_raw hu I hp h1 h2 h0 h15 q) fun u s2 ⟨L, H2, d, xs, I2, hR, hu', lo, dd, hsq, hxs⟩ => ?_
  subst hu'
  refine Calls.spliced_nil ?_
  obtain ⟨p2, S2, rs2, l15, hne, z⟩ := hR
  have lx : xs.length = L.length := by
    have := congrArg List.length hxs
    rwa [List.length_map, List.length_map] at this
  have hxL : ∀ x ∈ xs, ∃ y ∈ L, x.1 = kI y.2 ∧ x.2.1 = y.1 := fun x hx => by
    have : (x.1, x.2.1) ∈ L.map fun x => (kI x.2, x.1) := by rw [← hxs]; exact List.mem_map.mpr ⟨x, hx, rfl⟩
    obtain ⟨y, hy, e⟩ := List.mem_map.mp this
    exact ⟨y, hy, (congrArg Prod.fst e).symm, (congrArg Prod.snd e).symm⟩
  have hys : ∀ x ∈ storedAllH [] xs, ∃ is : List Int, is ∈ L.map (·.2) ∧ x.1 = kI is ∧ SqT X.K H2 x.2.1 (is.map V.int) ∧ is ≠ [] :=
    storedAllH_keys (P := fun k b => ∃ is : List Int, is ∈ L.map (·.2) ∧ k = kI is ∧ SqT X.K H2 b (is.map V.int) ∧ is ≠ []) (ps := xs) (xs := []) (fun _ h => by cases h) fun x hx => by
      obtain ⟨y, hy, e1, e2⟩ := hxL x hx
      exact ⟨y.2, List.mem_map.mpr ⟨y, hy, rfl⟩, e1, by rw [e2]; exact hsq y hy, hne y hy⟩
  have hyl : (storedAllH [] xs).length ≤ 1000 := by
    have := storedAllH_length xs []
    rw [List.length_nil] at this
    omega
  have hnd : ((storedAllH [] xs).map (·.1)).Nodup := by
    obtain ⟨_, _, _, _, _, _, _, _, n⟩ := dd
    exact n
  have hall : ∀ y ∈ L, kI y.2 ∈ (storedAllH [] xs).map (·.1) := fun y hy => by
    refine stored_keys (.inr ?_)
    have : (kI y.2, y.1) ∈ xs.map (fun x => (x.1, x.2.1)) := by rw [hxs]; exact List.mem_map.mpr ⟨y, hy, rfl⟩
    obtain ⟨x, hx, e⟩ := List.mem_map.mp this
    exact List.mem_map.mpr ⟨x, hx, congrArg Prod.fst e⟩
  generalize storedAllH [] xs = ys at *
  refine sort_raw (ps := ys.map fun y => (V.ref y.2.1, unkI y.1)) cf.calm I2 lo dd hyl (by rw [List.map_map]; rfl) (fun x hx => ?_) fun zs a hs hperm ha => ?_
  · obtain ⟨y, hy, rfl⟩ := List.mem_map.mp hx
    obtain ⟨is, _, e1, e2, e3⟩ := hys y hy
    refine ⟨y.2.1, rfl, ?_, ?_⟩
    · show SqT X.K H2 y.2.1 ((unkI y.1).map V.int)
      rw [e1, unkI_kI]; exact e2
    · show unkI y.1 ≠ []
      rw [e1, unkI_kI]; exact e3
  · have e2 : (ys.map fun y => (V.ref y.2.1, unkI y.1)).map (·.2) = ys.map fun y => unkI y.1 := by rw [List.map_map]; rfl
    have nd2 : (ys.map fun y => unkI y.1).Nodup := by
      have inj : ∀ {l : List (List Key × Addr × Value)}, (∀ x ∈ l, ∃ is, x.1 = kI is) → (l.map (·.1)).Nodup → (l.map fun y => unkI y.1).Nodup := by
        intro l
        induction l with
        | nil => intro _ _; exact List.nodup_nil
        | cons x l ih =>
          intro h1 h2
          have h3 := List.nodup_cons.mp h2
          refine List.nodup_cons.mpr ⟨fun hm => h3.1 ?_, ih (fun y hy => h1 y (List.mem_cons_of_mem _ hy)) h3.2⟩
          obtain ⟨y, hy, e⟩ := List.mem_map.mp hm
          obtain ⟨i1, e1⟩ := h1 x (List.mem_cons_self ..)
          obtain ⟨i2, e2⟩ := h1 y (List.mem_cons_of_mem _ hy)
          have e : unkI y.1 = unkI x.1 := e
          rw [e1, e2, unkI_kI, unkI_kI] at e
          exact List.mem_map.mpr ⟨y, hy, by show y.1 = x.1; rw [e1, e2, e]⟩
      exact inj (fun x hx => (hys x hx).imp fun is h => h.2.1) hnd
    have es : sdd (L.map (·.2)) = zs.map (·.2) := by
      refine sdd_is hs (m := ys.map fun y => unkI y.1) (by rw [← e2]; exact hperm.map _) nd2 fun x => ?_
      constructor
      · intro hx
        obtain ⟨y, hy, rfl⟩ := List.mem_map.mp hx
        obtain ⟨is, h3, h4, _⟩ := hys y hy
        rw [h4, unkI_kI]; exact h3
      · intro hx
        obtain ⟨y, hy, rfl⟩ := List.mem_map.mp hx
        obtain ⟨w, hw, e⟩ := List.mem_map.mp (hall y hy)
        exact List.mem_map.mpr ⟨w, hw, by rw [show w.1 = kI y.2 from e, unkI_kI]⟩
    rw [es] at z
    refine z.new_lv rs2 ?_ a ha
    refine rvs_pairs fun x hx => ?_
    obtain ⟨y, hy, rfl⟩ := List.mem_map.mp (hperm.mem_iff.mp hx)
    obtain ⟨is, _, e1, e2, _⟩ := hys y hy
    show RV X.K p2 H2 (tkD (unkI y.1)) (V.ref y.2.1)
    rw [e1, unkI_kI]
    exact rv_of_sqT rs2 e2
end
end Py

set_option Elab.async false
set_option linter.all false
set_option maxRecDepth 100000
set_option maxHeartbeats 4000000
/-! sorted(set(x)), x a list or a tuple of tuples of numbers. -/
namespace Py
open PySem PySem.Spec PyProof.Rows L2
section
variable {P : Program} {w : World} {A : Around} {E : Value → Shared → Prop} {s : Shared}
theorem set_made' {v : Value} {Q : Value → Shared → Prop}
    (fill : codeAny (model P w) A.in1 (.call (.builtin "set.__init__") ⟨[.ref s.heap.objs.size, v], []⟩) (wants (fun r s2 => r = .none ∧ Q (.ref s.heap.objs.size) s2) E) (newSet w s)) :
    wpAny (model P w) A (PySem.call (.type "set") [v]) Q E s := by
  refine wpAny_call (codeAny_of_tree (wpAny_pure ⟨Code.quiet_builtin _ (by decide +kernel), codeAny_builtin F.entry_type_call ?_⟩))
  have f1 := F.called_set.made
  have f2 := F.called_set.sub
  have f3 := F.called_set.notType
  have f4 := F.called_set.canCreate
  have f5 := F.typeCall_set_1 v
  have f6 := F.called_set.init.lookup
  have f7 := F.called_set.init.bind (.ref s.heap.objs.size)
  have hT : Shared.TypeIs (newSet w s) (.ref s.heap.objs.size) "set" := ⟨_, Heap.get?_push_size _ rfl, rfl⟩
  obtain ⟨c, tl, f8⟩ := F.called_set.mro
  rw [Around.under_plain (weight_type_call_type "set" [v] []) rfl]
  wp_walk
  refine codeAny_mono (code_set_led1 v (E := E) (Q₁ := fun r s1 => r = .ref s.heap.objs.size ∧ s1 = newSet w s) ⟨rfl, rfl⟩) ?_
  rintro (e | f) s1 hr
  · exact hr
  · cases f <;> try exact hr.elim
    obtain ⟨rfl, rfl⟩ := hr
    wp_walk
    refine codeAny_mono fill ?_
    rintro (e | f) s2 hr2
    · exact hr2
    · cases f <;> try exact hr2.elim
      obtain ⟨rfl, hr2⟩ := hr2
      wp_walk
      exact hr2
theorem tups_list {l : Addr} {items : Array Value} (ks : List (Addr × List Int)) {Q : Value → Shared → Prop} (hh : A.handled = none) (hl : s.heap.IsList l items) (hit : items.toList = ks.map fun p => Value.ref p.1)
    (hk : ∀ p ∈ ks, IsT P w s.heap p.2 p.1) (hfew : ks.length < 64) (hu : A.units + 3 < cLine)
    (h : ∀ (h' : Heap) (tk : Nat) L es ep t, SetTR P w h' s.heap.objs.size L es ep t → Got ks ks.length L → (∀ b o, s.heap.get? b = some o → h'.get? b = some o) → Q (.ref s.heap.objs.size) { s with heap := h', toks := tk }) :
    wpAny (model P w) A (PySem.call (.type "set") [.ref l]) Q E s := by
  have num : items.size = ks.length := by
    have q := congrArg List.length hit
    rw [Array.length_toList, List.length_map] at q
    exact q
  refine set_made' ?_
  have hT : Shared.TypeIs (newSet w s) (.ref s.heap.objs.size) "set" := ⟨_, Heap.get?_push_size _ rfl, rfl⟩
  refine codeAny_call_builtin F.called_set.init.plain F.entry_set_init (check_set_init_1 hT ?_)
  have hl1 : (newSet w s).heap.IsList l items := hl.push _
  have g1 := F.sub_list_set
  have g2 := F.sub_list_frozenset
  have g3 : (Value.type "list" == Value.type "dict") = false := by decide
  have hl2 := hl1
  obtain ⟨⟨oc, od, oq, os⟩, ho, hc, nl, hd⟩ := hl2
  dsimp only at hc hd
  subst hc hd
  unfold Builtin.«set.__init__» noKeywords Builtin.Frozenset.updateFrom
  generalize hPI : pyIter = PI
  wp_walk
  subst hPI
  refine wpAny_pyIter_list hl1 (wpAny_bind (wpAny_runValue ?_))
  have low : l < s.heap.objs.size := let ⟨_, e, _⟩ := hl; Heap.lt_size e
  have top : (newSet w s).heap.objs.size = s.heap.objs.size + 1 := Heap.size_push ..
  have keep : ∀ b o, s.heap.get? b = some o → ((newSet w s).heap.push { cls := .type "list_iterator", data := .fields #[.ref l, .int 0 0] }).get? b = some o := fun b o e => Heap.get?_push_of_some _ (Heap.get?_push_of_some _ e)
  have none_of : ∀ b, s.heap.objs.size ≤ b → s.heap.get? b = none := fun b hb => by
    cases q : s.heap.get? b with
    | none => rfl
    | some o => exact absurd (Nat.lt_of_lt_of_le (Heap.lt_size q) hb) (Nat.lt_irrefl _)
  have hval : ∀ (i : Nat) (v : Value), items[i]? = some v → ∃ p, ks[i]? = some p ∧ v = .ref p.1 := fun i v hv => by
    have q : items.toList[i]? = some v := by rw [Array.getElem?_toList]; exact hv
    rw [hit, List.getElem?_map] at q
    cases hq : ks[i]? with
    | none => rw [hq] at q; cases q
    | some p =>
      rw [hq] at q
      exact ⟨p, rfl, (Option.some.inj q).symm⟩
  refine set_update_tups (Walks.list (by simp [hh]) _ l (by rw [top]; exact Nat.ne_of_lt (Nat.lt_succ_of_lt low)) items).toS s.heap.objs.size (fun q => by
    rcases List.mem_cons.mp q with q | q
    · rw [top] at q; exact absurd q (Nat.ne_of_lt (Nat.lt_succ_self _))
    · rw [List.mem_singleton] at q; exact absurd q.symm (Nat.ne_of_lt low)) ks num hfew hval s.heap hk (none_of _ (Nat.le_refl _)) (fun b hb => none_of b (by
            rw [List.mem_singleton.mp hb, top]
            exact Nat.le_succ _)) hu _ 0 _ rfl (Nat.zero_le _) ⟨⟨_, Heap.get?_push_size _ rfl, rfl, rfl⟩, hl1.push _⟩ keep
      ⟨[], #[], 0, _, setTR_fresh (Heap.get?_push_of_some _ (Heap.get?_push_size _ rfl)), Got.zero ks⟩ fun s' L es ep t hm R g kp => ?_
  have e : s' = { s with heap := s'.heap, toks := s'.toks } := by
    obtain ⟨h', g2, d', tk', os'⟩ := s'
    cases hm.gens
    cases hm.drawn
    cases hm.os
    rfl
  rw [num] at g
  refine wpAny_pure (wpAny_pure ⟨rfl, ?_⟩)
  rw [e]
  exact h _ _ _ _ _ _ R g kp
theorem tups_tuple {l : Addr} {items : Array Value} (ks : List (Addr × List Int)) {Q : Value → Shared → Prop} (hh : A.handled = none) (hl : s.heap.IsTuple l items) (hit : items.toList = ks.map fun p => Value.ref p.1)
    (hk : ∀ p ∈ ks, IsT P w s.heap p.2 p.1) (hfew : ks.length < 64) (hu : A.units + 3 < cLine)
    (h : ∀ (h' : Heap) (tk : Nat) L es ep t, SetTR P w h' s.heap.objs.size L es ep t → Got ks ks.length L → (∀ b o, s.heap.get? b = some o → h'.get? b = some o) → Q (.ref s.heap.objs.size) { s with heap := h', toks := tk }) :
    wpAny (model P w) A (PySem.call (.type "set") [.ref l]) Q E s := by
  have num : items.size = ks.length := by
    have q := congrArg List.length hit
    rw [Array.length_toList, List.length_map] at q
    exact q
  refine set_made' ?_
  have hT : Shared.TypeIs (newSet w s) (.ref s.heap.objs.size) "set" := ⟨_, Heap.get?_push_size _ rfl, rfl⟩
  refine codeAny_call_builtin F.called_set.init.plain F.entry_set_init (check_set_init_1 hT ?_)
  have hl1 : (newSet w s).heap.IsTuple l items := hl.push _
  have g1 := F.sub_tuple_set
  have g2 := F.sub_tuple_frozenset
  have g3 : (Value.type "tuple" == Value.type "dict") = false := by decide
  have hl2 := hl1
  obtain ⟨⟨oc, od, oq, os⟩, ho, hc, nl, hd⟩ := hl2
  dsimp only at hc hd
  subst hc hd
  unfold Builtin.«set.__init__» noKeywords Builtin.Frozenset.updateFrom
  generalize hPI : pyIter = PI
  wp_walk
  subst hPI
  refine wpAny_pyIter_tuple hl1 (wpAny_bind (wpAny_runValue ?_))
  have low : l < s.heap.objs.size := let ⟨_, e, _⟩ := hl; Heap.lt_size e
  have top : (newSet w s).heap.objs.size = s.heap.objs.size + 1 := Heap.size_push ..
  have keep : ∀ b o, s.heap.get? b = some o → ((newSet w s).heap.push { cls := .type "tuple_iterator", data := .fields #[.ref l, .int 0 0] }).get? b = some o := fun b o e => Heap.get?_push_of_some _ (Heap.get?_push_of_some _ e)
  have none_of : ∀ b, s.heap.objs.size ≤ b → s.heap.get? b = none := fun b hb => by
    cases q : s.heap.get? b with
    | none => rfl
    | some o => exact absurd (Nat.lt_of_lt_of_le (Heap.lt_size q) hb) (Nat.lt_irrefl _)
  have hval : ∀ (i : Nat) (v : Value), items[i]? = some v → ∃ p, ks[i]? = some p ∧ v = .ref p.1 := fun i v hv => by
    have q : items.toList[i]? = some v := by rw [Array.getElem?_toList]; exact hv
    rw [hit, List.getElem?_map] at q
    cases hq : ks[i]? with
    | none => rw [hq] at q; cases q
    | some p =>
      rw [hq] at q
      exact ⟨p, rfl, (Option.some.inj q).symm⟩
  refine set_update_tups (Walks.tuple (by simp [hh]) _ l (by rw [top]; exact Nat.ne_of_lt (Nat.lt_succ_of_lt low)) items).toS s.heap.objs.size (fun q => by
    rcases List.mem_cons.mp q with q | q
    · rw [top] at q; exact absurd q (Nat.ne_of_lt (Nat.lt_succ_self _))
    · rw [List.mem_singleton] at q; exact absurd q.symm (Nat.ne_of_lt low)) ks num hfew hval s.heap hk (none_of _ (Nat.le_refl _)) (fun b hb => none_of b (by
            rw [List.mem_singleton.mp hb, top]
            exact Nat.le_succ _)) hu _ 0 _ rfl (Nat.zero_le _) ⟨⟨_, Heap.get?_push_size _ rfl, rfl, rfl⟩, hl1.push _⟩ keep
      ⟨[], #[], 0, _, setTR_fresh (Heap.get?_push_of_some _ (Heap.get?_push_size _ rfl)), Got.zero ks⟩ fun s' L es ep t hm R g kp => ?_
  have e : s' = { s with heap := s'.heap, toks := s'.toks } := by
    obtain ⟨h', g2, d', tk', os'⟩ := s'
    cases hm.gens
    cases hm.drawn
    cases hm.os
    rfl
  rw [num] at g
  refine wpAny_pure (wpAny_pure ⟨rfl, ?_⟩)
  rw [e]
  exact h _ _ _ _ _ _ R g kp
end
section
variable {X : Cx} {pins : List (Addr × Obj)} {σ : L2.St} {H : Hp} {s : Shared}
theorem perm_map_ex {α β : Type} {f : α → β} {vs M : List β} (p : vs.Perm M) : ∀ L : List α, M = L.map f → ∃ L1 : List α, vs = L1.map f ∧ L1.Perm L := by
  induction p with
  | nil => intro L e; exact ⟨[], rfl, by cases L with
    | nil => exact List.Perm.refl _
    | cons a l => cases e⟩
  | cons x p ih =>
    intro L e
    cases L with
    | nil => cases e
    | cons a l =>
      rw [List.map_cons] at e
      injection e with e1 e2
      obtain ⟨L1, q1, q2⟩ := ih l e2
      exact ⟨a :: L1, by rw [List.map_cons, e1, q1], q2.cons a⟩
  | swap x y l =>
    intro L e
    cases L with
    | nil => cases e
    | cons a L =>
      rw [List.map_cons] at e
      injection e with e1 e2
      cases L with
      | nil => cases e2
      | cons b L =>
        rw [List.map_cons] at e2
        injection e2 with e3 e4
        exact ⟨b :: a :: L, by rw [List.map_cons, List.map_cons, e1, e3, e4], .swap _ _ _⟩
  | trans p q ih1 ih2 =>
    intro L e
    obtain ⟨L2, q1, q2⟩ := ih2 L e
    obtain ⟨L1, r1, r2⟩ := ih1 L2 q1
    exact ⟨L1, r1, r2.trans q2⟩
/-- sorted(s) of such a set -/
theorem sort_set {Q : VK} {a : Addr} {L : List (Addr × List Int)} (hc : X.calm = true) (I : Inv X pins σ H s) (ha : H a = some (SetTO X.prog X.w a L))
    (hx : ∀ p ∈ L, SqT X.K H p.1 (p.2.map V.int) ∧ p.2 ≠ [])
    (q : ∀ (zs : List (Addr × List Int)) (p : Addr), SrtO.Srtd HT.lexLt (zs.map (·.2)) → zs.Perm L → (L.map (·.2)).Nodup → H p = none → Q (.ref p) (upd H p (.lst (zs.map fun z => V.ref z.1)))) :
    wpAny (model X.prog X.w) X.A (PySem.call (.builtin "sorted") [.ref a]) (EP X pins σ Q) X.xe s := by
  have R0 : SetT0 X.prog X.w s.heap a L := (I.hok a _ ha).1
  obtain ⟨es, ep, t, R⟩ := R0.full fun p hp => I.isT (hx p hp).1
  obtain ⟨o, ho, hex, hd⟩ := R.ob
  have hsz := R.size
  have hfew := R.few
  refine Calls.call_function_entry PyProof.Rows.kind_sorted PyProof.Rows.plain_sorted PyProof.Rows.entry_sorted (PyProof.Rows.args_sorted1 _) ?_
  unfold Builtin.«sorted»
  refine wpAny_bind (m := checkCount "sorted" 1 1 _) (wpAny_pure ?_)
  refine wpAny_bind (collect_set (A := X.A.in1) (I.ok.hd hc) ⟨o, ho, hex.1, hd⟩ R.fits (by unfold scanBound; omega) R.tab.ris R.led fun s1 vs k1 hz g1 o1 pm => ?_)
  have hes : es.toList.map (·.2) = L.map fun q => Value.ref q.1 := by
    rw [R.rows]
    unfold rowsOf
    rw [List.map_map] <;> rfl
  rw [hes] at pm
  have I1 : Inv X pins σ H s1 := I.call' (ch := []) o1 (Un.kept k1) (I.hok.kept k1) (by rw [g1]; exact I.bare) (fun _ z => nomatch z)
  -- the rows in the order in which they were met
  obtain ⟨L1, e1, p1⟩ : ∃ L1 : List (Addr × List Int), vs = L1.map (fun q => Value.ref q.1) ∧ L1.Perm L := by
    obtain ⟨L1, e1, e2⟩ := perm_map_ex pm L rfl
    exact ⟨L1, e1, e2⟩
  have rv : Vals ((L1.map fun q => (V.ref q.1, q.2)).map (·.1)) vs := by
    rw [e1, List.map_map]
    exact vals_of_refs L1
  obtain ⟨hpb, e2⟩ := ps_back I1 rv fun x hx' => by
    obtain ⟨y, hy, rfl⟩ := List.mem_map.mp hx'
    exact ⟨y.1, rfl, hx y (p1.mem_iff.mp hy)⟩
  have hvl : vs.length < 64 := by rw [e1, List.length_map, p1.length_eq]; exact hfew
  have hal : vs.length ≤ sizeLine := by rw [sizeLine_eq]; omega
  refine wpAny_bind (wpAny_newList ?_ hal)
  have hoL : (s1.heap.push (seqObj "list" vs.toArray 0)).get? s1.heap.objs.size = some (seqObj "list" vs.toArray 0) := Heap.get?_push_size _ rfl
  have bodyQ : ∀ out : List Value, out.Perm vs → SrtO.Srtd (fun v u => HT.lexLt (TS.intsOf s1.heap v) (TS.intsOf s1.heap u)) out → ∀ {h2 : Heap} {t2 : Nat} {c : Nat}, (∀ b u, s1.heap.get? b = some u → h2.get? b = some u) → h2.get? s1.heap.objs.size = some (seqObj "list" out.toArray c) →
      EP X pins σ Q (.ref s1.heap.objs.size) { s1 with heap := h2, toks := t2 } := fun out g2 g1 h2 t2 c k2 he' => by
    have h3 : ∀ u ∈ out, ∃ a, u = Value.ref a := fun u hu => (hpb u (g2.mem_iff.mp hu)).2
    obtain ⟨zs, z1, z2⟩ := perm_map_ex (f := fun q : Addr × List Int => Value.ref q.1) (g2.trans (by rw [e1])) L1 rfl
    have zp : zs.Perm L := z2.trans p1
    have zk : zs.map (·.2) = out.map fun u => TS.intsOf s1.heap u := by
      have : (zs.map fun q => (V.ref q.1, q.2)) = out.map fun u => (bkV u, TS.intsOf s1.heap u) := by
        rw [z1, List.map_map]
        refine List.map_congr_left fun q hq => ?_
        have hq1 : q ∈ L1 := z2.mem_iff.mp hq
        show (V.ref q.1, q.2) = (V.ref q.1, TS.intsOf s1.heap (Value.ref q.1))
        rw [(tupI_raw I1 (hx q (p1.mem_iff.mp hq1)).1).ints]
      have := congrArg (fun l => l.map (·.2)) this
      simp only [List.map_map] at this
      exact this
    have hlen : (zs.map fun z => V.ref z.1).length ≤ sizeLine := by rw [List.length_map, zp.length_eq, sizeLine_eq]; omega
    have fin := q zs s1.heap.objs.size (by rw [zk]; exact List.pairwise_map.mpr g1) zp R.nd (I1.hok.fresh (Nat.le_refl _))
    refine ⟨.ref s1.heap.objs.size, upd H s1.heap.objs.size (.lst (zs.map fun z => V.ref z.1)), I1.laid (t' := t2) k2 (Nat.le_refl _) ⟨hlen, out, c, by rw [z1]; exact vals_of_refs zs, he'⟩, rfl, fin⟩
  refine wpAny_bind (wpAny_holding (wpAny_call_entry PyProof.Rows.slot_list_sort ⟨_, hoL, rfl⟩ PyProof.Rows.entry_list_sort
    (SrtO.list_sort_ord (s := { s1 with heap := s1.heap.push (seqObj "list" vs.toArray 0) }) (NtL.swo_lexL fun v => TS.intsOf s1.heap v) hoL hal (fun h2 => ?_) fun out g1 g2 => ⟨_, rfl, ?_⟩)
    (PyProof.Rows.args_list_sort _)))
  · refine tk_sortable (by omega) (fun v hm => ⟨(hpb v hm).1.1.keeps fun b o e _ => Heap.get?_push_of_some _ e, (hpb v hm).1.2⟩) fun o e => ?_
    have e' : some o = some (seqObj "list" vs.toArray 0) := e.symm.trans hoL
    cases e'
    intro c
    exact absurd (Value.type.inj c) (by decide)
  · obtain ⟨e', he'⟩ := PyProof.Rows.sortedHeap_at (vs := vs) (out := out.toArray) hoL
    refine wpAny_pure ⟨_, rfl, bodyQ out g2.perm g1 (fun b u e => ?_) he'⟩
    have hb : b < s1.heap.objs.size := Heap.lt_size e
    rw [PyProof.Rows.sortedHeap_old (Nat.ne_of_lt hb) (by rw [size_push']; exact Nat.lt_succ_of_lt hb)]
    exact Heap.get?_push_of_some _ e
end
theorem sq_of_rv {K : PySem.W.Frag} {p : List Addr} {H : Hp} {is : List Int} {v : V} (r : RV K p H (tkD is) v) : ∃ t, v = V.ref t ∧ SqT K H t (is.map V.int) := by
  obtain ⟨a, xs, e1, e2, e3⟩ := r
  have q : ∀ is : List Int, intsOf (is.map D.int) = some is := fun is => by
    induction is with
    | nil => rfl
    | cons i is ih =>
      show (intsOf (is.map D.int)).map (i :: ·) = _
      rw [ih]; rfl
  have ex := ints_rv e2 (q is)
  subst ex
  exact ⟨a, e1, SqT_of e3⟩
def rSetTT (K : PySem.W.Frag) (P : Program) (w : World) : List V → Hp → VK → Prop := fun vs H Q => ∃ (l : Addr) (ks : List (Addr × List Int)), vs = [V.ref l] ∧ (SqL K H l (ks.map fun p => V.ref p.1) ∨ SqT K H l (ks.map fun p => V.ref p.1)) ∧ (∀ p ∈ ks, SqT K H p.1 (p.2.map V.int)) ∧ ks.length < 64 ∧
  ∀ a L, H a = none → (∀ p ∈ L, p ∈ ks) → (∀ p ∈ ks, p.2 ∈ L.map (·.2)) → Q (.ref a) (upd H a (SetTO P w a L))
def rSortTT (K : PySem.W.Frag) (P : Program) (w : World) : List V → Hp → VK → Prop := fun vs H Q => ∃ (a : Addr) (L : List (Addr × List Int)), vs = [V.ref a] ∧ H a = some (SetTO P w a L) ∧ (∀ p ∈ L, SqT K H p.1 (p.2.map V.int) ∧ p.2 ≠ []) ∧
  ∀ (zs : List (Addr × List Int)) (p : Addr), SrtO.Srtd HT.lexLt (zs.map (·.2)) → zs.Perm L → (L.map (·.2)).Nodup → H p = none → Q (.ref p) (upd H p (.lst (zs.map fun z => V.ref z.1)))
theorem cr_setTT {X : Cx} (hc : X.calm = true) (hu : X.A.units + 3 < cLine) : CallR X (.type "set") (rSetTT X.K X.prog X.w) := by
  intro pins s σ H xs us Q I r h
  obtain ⟨l, ks, rfl, hl, hk, hf, q⟩ := h
  rw [Vals.ref1 r]
  have hn : H s.heap.objs.size = none := I.hok.fresh (Nat.le_refl _)
  rcases hl with hl | hl
  · obtain ⟨its, rv, pl, hz⟩ := I.list hl
    refine tups_list (P := X.prog) (w := X.w) ks (I.ok.hd hc) pl.isList (by simpa using refs_of_vals rv) (fun p hp => I.isT (hk p hp)) hf hu fun h' tk L es ep t R g k => ?_
    refine ⟨.ref s.heap.objs.size, upd H s.heap.objs.size (SetTO X.prog X.w s.heap.objs.size L), I.laid (t' := tk) k (Nat.le_refl _) (setTO_new R.t0), rfl, q _ L hn (fun p hp => ?_) fun p hp => ?_⟩
    · exact List.mem_of_mem_take (g.sub p hp)
    · exact g.all p (by rw [List.take_length]; exact hp)
  · obtain ⟨its, rv, ⟨o, ho, hcl, n, hd⟩, hz⟩ := I.tuple hl
    refine tups_tuple (P := X.prog) (w := X.w) (items := its.toArray) ks (I.ok.hd hc) ⟨o, ho, hcl, n, hd⟩ (by simpa using refs_of_vals rv) (fun p hp => I.isT (hk p hp)) hf hu fun h' tk L es ep t R g k => ?_
    refine ⟨.ref s.heap.objs.size, upd H s.heap.objs.size (SetTO X.prog X.w s.heap.objs.size L), I.laid (t' := tk) k (Nat.le_refl _) (setTO_new R.t0), rfl, q _ L hn (fun p hp => ?_) fun p hp => ?_⟩
    · exact List.mem_of_mem_take (g.sub p hp)
    · exact g.all p (by rw [List.take_length]; exact hp)
theorem cr_sortTT {X : Cx} (hc : X.calm = true) : CallR X (.builtin "sorted") (rSortTT X.K X.prog X.w) := by
  intro pins s σ H vs us Q I r h
  obtain ⟨a, L, rfl, ha, hx, q⟩ := h
  rw [Vals.ref1 r]
  exact sort_set hc I ha hx q
theorem cr_or {X : Cx} {f : Value} {r1 r2 : List V → Hp → VK → Prop} (h1 : CallR X f r1) (h2 : CallR X f r2) : CallR X f (fun vs H Q => r1 vs H Q ∨ r2 vs H Q) := by
  intro pins s σ H vs us Q I r h
  rcases h with h | h
  · exact h1 pins s σ H vs us Q I r h
  · exact h2 pins s σ H vs us Q I r h
end Py

set_option Elab.async false
set_option maxRecDepth 100000
set_option maxHeartbeats 4000000
namespace Py
open PySem PySem.Spec PyProof.Rows L2
def noStar : Expr → Bool
  | .Starred .. => false
  | _ => true
theorem star_ok {e : Expr} {es : List Expr} {env : Env} (h : noStar e = true) : starEach (e :: es) env = (false, eval e env) :: starEach es env := by
  cases e <;> first | rfl | cases h
theorem star_nil {env : Env} : starEach [] env = [] := rfl
theorem star_any {env : Env} {pos : Pos} : ∀ {es : List Expr}, (es.all noStar) = true → (backTo pos (starEach es env)).any (·.1) = false
  | [], _ => rfl
  | e :: es, h => by
    rw [List.all_cons, Bool.and_eq_true] at h
    rw [star_ok h.1]
    show (false || (backTo pos (starEach es env)).any (·.1)) = false
    rw [star_any h.2]; rfl
/-- forms whose test is their value's truth -/
def plainTest : Expr → Bool
  | .BoolOp .. => false
  | .UnaryOp .Not .. => false
  | .Compare .. => false
  | .IfExp .. => false
  | .NamedExpr .. => false
  | _ => true
theorem test_ok {e : Expr} {env : Env} (h : plainTest e = true) : ∀ whole, isTrue e env whole = (do let v ← whole; standAt e.pos; holding [v] (truthy v)) := by
  intro whole
  cases e <;> first | rfl | (cases h; done) | skip
  rename_i op _ _
  cases op <;> first | rfl | cases h
def plainIx : Expr → Bool
  | .Slice .. => false
  | .Constant .. => true
  | .Name .. => true
  | .BinOp .. => true
  | .UnaryOp .. => true
  | .Call .. => true
  | .Subscript .. => true
  | .IfExp .. => true
  | _ => false
theorem ix_ok {e : Expr} (h : plainIx e = true) : PlainIx e := by
  intro o i
  cases e <;> first | rfl | (cases h; done)
theorem asub_ok {a b : Expr} {env : Env} {pos : Pos} (h : plainIx b = true) : ∀ v, assign (.Subscript a b pos) env v = (do
      let ov ← holding [v] (eval a env)
      let iv ← holding [v, ov] (eval b env)
      standAt pos
      holding [v, ov, iv] (setItem ov iv v)
      release [v, ov, iv] []) := by
  intro v
  cases b <;> first | rfl | (cases h; done)
def noComp : Expr → Bool
  | .ListComp .. => false
  | .SetComp .. => false
  | .DictComp .. => false
  | .GeneratorExp .. => false
  | _ => true
theorem sw_ok {e : Expr} {o : Option Expr} {l : Nat} {env : Env} (h : noComp e = true) : swapsWith e o l env = pure false := by
  cases e <;> first | rfl | (cases h; done)
theorem swS_ok {t e : Expr} {l : Nat} {env : Env} (h : noComp e = true) : swapsWithSole [t] e l env = pure false := by
  cases e <;> first | rfl | (cases h; done)
def noTup : Expr → Bool
  | .Tuple .. => false
  | .List .. => false
  | _ => true
theorem sst_ok {t e : Expr} {env : Env} (h : noTup t = true ∨ noTup e = true) : swappedStores [t] e env = pure none := by
  rcases h with h | h
  · cases t <;> first | (cases e <;> rfl) | (cases h; done)
  · cases e <;> first | (cases t <;> rfl) | (cases h; done)
/-- which names are stored from the right -/
def sst (sc : Scope) (ts vs : List Expr) : Option (Option (List Str)) :=
  if (!(ts.length == 2 || ts.length == 3) || vs.length != ts.length) = true then some none else
  if (vs.any fun | .Starred .. => true | _ => false) = true then some none else
  let line := (ts.head?.map (·.pos.line)).getD 0
  let names := ts.filterMap fun
    | .Name id pos => if (sc.names.lookup id == some .local && pos.line == line) = true then some id else none
    | _ => none
  if (names.length != ts.length || names.eraseDups.length != names.length) = true then some none else
  if (vs.all (foldedForSure 8)) = true then some none else
  if (vs.all (constantsAlone 8)) = true then none else some (some names)
theorem sst_is {env : Env} {ts vs : List Expr} {a b : Nat} {p q : Pos} {r : Option (List Str)} (hk : env.scope.kind = .function) (h : sst env.scope ts vs = some r) : swappedStores [.Tuple ts a p] (.Tuple vs b q) env = pure r := by
  have hb : env.blockKind = .function := by unfold Env.blockKind; rw [hk]; rfl
  unfold swappedStores
  unfold sst at h
  simp only [hb] at h ⊢
  simp only [show ∀ id, env.kindOf id = List.lookup id env.scope.names from fun _ => rfl]
  generalize (List.filterMap (fun x => match x with
    | Expr.Name id pos => if (List.lookup id env.scope.names == some NameKind.local && pos.line == (Option.map (fun x => x.pos.line) ts.head?).getD 0) = true then some id else none
    | x => none) ts) = names at h ⊢
  generalize (vs.any fun x => match x with
    | Expr.Starred value pos => true
    | x => false) = st at h ⊢
  have e0 : (ScopeKind.function != ScopeKind.function) = false := rfl
  rw [e0, Bool.or_false]
  split at h
  · rename_i h1
    cases h
    rw [if_pos h1]
  rename_i h1
  rw [if_neg h1]
  split at h
  · rename_i h2
    cases h
    rw [if_pos h2]
  rename_i h2
  rw [if_neg h2]
  split at h
  · rename_i h3
    cases h
    rw [if_pos h3]
  rename_i h3
  rw [if_neg h3]
  split at h
  · rename_i h4
    cases h
    rw [if_pos h4]
  rename_i h4
  rw [if_neg h4]
  split at h
  · cases h
  rename_i h5
  cases h
  rw [if_neg h5]
theorem asg1_ok {t : Expr} {env : Env} (h : noStar t = true) : (assignEach [t] env).map (·.2) = [assign t env] := by
  cases t <;> first | rfl | (cases h; done)
theorem asgC_ok {t : Expr} {ts : List Expr} {env : Env} (h : noStar t = true) : (assignEach (t :: ts) env).map (·.2) = assign t env :: (assignEach ts env).map (·.2) := by
  cases t <;> first | rfl | (cases h; done)
theorem asgL_ok {env : Env} : ∀ {ts : List Expr}, ts.all noStar = true → (assignEach ts env).length = ts.length ∧ (assignEach ts env).findIdx? (·.1) = none
  | [], _ => ⟨rfl, rfl⟩
  | t :: ts, h => by
    rw [List.all_cons, Bool.and_eq_true] at h
    obtain ⟨i1, i2⟩ := asgL_ok (env := env) h.2
    have e : assignEach (t :: ts) env = (false, assign t env) :: assignEach ts env := by
      have h := h.1
      cases t <;> first | rfl | (cases h; done)
    rw [e, List.length_cons, List.length_cons, i1]
    refine ⟨rfl, ?_⟩
    rw [List.findIdx?_cons, i2]; rfl
def plainIt : Expr → Bool
  | .Set .. => false
  | .SetComp .. => false
  | _ => true
theorem fold_ok {e : Expr} {env : Env} (h : plainIt e = true) : ∀ x, foldedSetIterable e env x = pure x := by
  intro x
  cases e <;> first | rfl | (cases h; done)
def plainIn : Expr → Bool
  | .Set .. => false
  | .List .. => false
  | .Tuple .. => false
  | _ => true
theorem mark_ok {e : Expr} {op : CmpOp} (h : (op ≠ .In ∧ op ≠ .NotIn) ∨ plainIn e = true) : behindInMarks op e = false := by
  rcases h with h | h
  · exact nobehind e h.1 h.2
  · cases e <;> first | rfl | (cases h; done) | (cases op <;> rfl)
end Py

set_option Elab.async false
set_option linter.all false
set_option maxRecDepth 100000
set_option maxHeartbeats 4000000
/-! From the model's syntax to the small language. -/
namespace Py
open PySem PySem.Spec PyProof.Rows L2

/-- a def's promise where frames and marks are known -/
structure FnG (P : Program) (w : World) (K : PySem.W.Frag) (mg : Str → Option Value) (base : Heap) (k : Nat) (f : Addr) (fd : FuncData) (ps : List Str) (sp : Sp) : Prop where
  len : ∀ vs H Q E, sp vs H Q E → vs.length = ps.length
  run : ∀ (A : Around) (outer : List Env) (s : Shared) (H : Hp) (args : Args) (us : List Value) (vs : List V) (Q : VK) (E : XK), Room k A → A.guards = some [] → Env0 P w K mg base A outer s H →
    BindsTo s fd args (ps.zip us) → Vals vs us → sp vs H Q E → codeAny (model P w) A (.call (.ref f) args) (CR CX0 outer P w H s Q E) s
/-- the promise of a def that computes as C says -/
def spI (K : PySem.W.Frag) (C : Str → List D → Store → Res D) (x : Str) : Sp := fun vs H Q _ => ∃ p ds S, RS K p H S ∧ RVs K p H ds vs ∧ Good K p H (C x ds S) (fun p' H' d _ => ∀ v, RV K p' H' d v → Q v H') W0

/-- what the names of the module are -/
structure CI where
  isFn : Str → Bool
  isCon : Str → Bool
  isB : Str → Bool
  isM : Str → Bool
  /-- how a def is called by names: how many by position, the names, the order -/
  kw : Str → List (Nat × List Str × List Nat)
structure GOk (K : PySem.W.Frag) (mg : Str → Option Value) (c : CI) (G : Str → Option D) : Prop where
  con : ∀ x, c.isCon x = true → ∀ d, G x = some d → ∃ v u, mg x = some u ∧ RelV v u ∧ ∀ p H, RV K p H d v
  blt : ∀ x, c.isB x = true → mg x = none
  gcd : c.isM "gcd" = true → mg "gcd" = some (.builtin "math.gcd")
  isqrt : c.isM "isqrt" = true → mg "isqrt" = some (.builtin "math.isqrt")
/-- a call by names binds so -/
def KB (K : PySem.W.Frag) (fd : FuncData) (ps : List Str) (sh : Nat × List Str × List Nat) : Prop :=
  ∀ (s : Shared) (us ws vs : List Value), K.In s.heap → us.length = sh.1 → ws.length = sh.2.1.length → permD sh.2.2 (us ++ ws) = some vs → BindsTo s fd ⟨us, sh.2.1.zip ws⟩ (ps.zip vs)
def FTab (P : Program) (w : World) (K : PySem.W.Frag) (mg : Str → Option Value) (base : Heap) (c : CI) (C : Str → List D → Store → Res D) (k : Nat) : Prop :=
  ∀ x, c.isFn x = true → ∃ (a : Addr) (fd : FuncData) (ps : List Str), mg x = some (.ref a) ∧ PySem.W.keepIn K (.ref a) = true ∧ Binds K fd ps [] ∧ FnG P w K mg base k a fd ps (spI K C x) ∧ ∀ sh ∈ c.kw x, KB K fd ps sh

def ixOf : List Str → Str → Option Nat
  | [], _ => none
  | y :: ys, x => if y = x then some 0 else (ixOf ys x).map (· + 1)
theorem ixOf_ok : ∀ {N : List Str} {x : Str} {i : Nat}, ixOf N x = some i → N[i]? = some x
  | [], _, _, h => by cases h
  | y :: ys, x, i, h => by
    simp only [ixOf] at h
    split at h
    · rename_i e
      cases h
      rw [e]; rfl
    · obtain ⟨j, h2, rfl⟩ := Option.map_eq_some_iff.mp h
      show ys[j]? = some x
      exact ixOf_ok h2
def isVar : Option NameKind → Bool
  | some .local => true
  | some .cell => true
  | some .free => true
  | _ => false
def isGlb : Option NameKind → Bool
  | some .globalImplicit => true
  | _ => false
theorem isVar_ok {o : Option NameKind} (h : isVar o = true) : o = some .local ∨ o = some .cell ∨ o = some .free := by
  cases o with
  | none => cases h
  | some k => cases k <;> first | exact .inl rfl | exact .inr (.inl rfl) | exact .inr (.inr rfl) | cases h
theorem isGlb_ok {o : Option NameKind} (h : isGlb o = true) : o = some .globalImplicit := by
  cases o with
  | none => cases h
  | some k => cases k <;> first | rfl | cases h
def slot (N : List Str) (sc : Scope) (x : Str) : Option Nat :=
  if isVar (sc.names.lookup x) && (!(x == ("__debug__" : Str)) && !(x == ("__classdict__" : Str))) then ixOf N x else none
theorem slot_ok {N : List Str} {sc : Scope} {x : Str} {i : Nat} (h : slot N sc x = some i) : N[i]? = some x ∧ (sc.names.lookup x = some .local ∨ sc.names.lookup x = some .cell ∨ sc.names.lookup x = some .free) ∧ (x == ("__debug__" : Str)) = false ∧ (x == ("__classdict__" : Str)) = false := by
  unfold slot at h
  split at h
  · rename_i c
    rw [Bool.and_eq_true, Bool.and_eq_true, Bool.not_eq_true', Bool.not_eq_true'] at c
    exact ⟨ixOf_ok h, isVar_ok c.1, c.2.1, c.2.2⟩
  · cases h
def gls (sc : Scope) (x : Str) : Bool := isGlb (sc.names.lookup x) && (!(x == ("__debug__" : Str)) && !(x == ("__name__" : Str)))
theorem gls_ok {X : Cx} {x : Str} (h : gls X.env.scope x = true) : Gl X x ∧ (x == ("__debug__" : Str)) = false ∧ x ≠ "__name__" := by
  unfold gls at h
  rw [Bool.and_eq_true, Bool.and_eq_true, Bool.not_eq_true', Bool.not_eq_true'] at h
  refine ⟨isGlb_ok h.1, h.2.1, fun e => ?_⟩
  have := h.2.2
  rw [e] at this
  simp at this
def bopOf : Operator → Option BOp
  | .Add => some .add | .Sub => some .sub | .Mult => some .mul | .FloorDiv => some .fdiv | .Mod => some .mod | .Pow => some .pow
  | _ => none
def copOf : CmpOp → Option COp
  | .Eq => some .eq | .NotEq => some .ne | .Lt => some .lt | .LtE => some .le | .Gt => some .gt | .GtE => some .ge | .In => some .inn | .NotIn => some .notin | .Is => some .isn | .IsNot => some .isnot
theorem copOf_ok {o : CmpOp} {c : COp} (h : copOf o = some c) : opOf c = o := by cases o <;> cases h <;> rfl
def bfName : BF → String
  | .sort => "sorted" | .len => "len" | .abs => "abs" | .max => "max" | .min => "min" | .int => "int" | .sum => "sum" | .all => "all" | .tuple => "tuple" | .list => "list" | .repr => "repr" | .str => "str" | .divmod => "divmod" | .gcd => "gcd" | .isqrt => "isqrt"
def bfs : List BF := [.len, .abs, .max, .min, .int, .sum, .all, .tuple, .list, .repr, .str, .divmod, .gcd, .isqrt, .sort]
def bfOf (x : Str) : Option BF := bfs.find? fun f => decide (Str.ofString (bfName f) = x)
theorem bfOf_ok {x : Str} {f : BF} (h : bfOf x = some f) : x = Str.ofString (bfName f) := by
  unfold bfOf at h
  have := List.find?_some h
  exact (of_decide_eq_true this).symm
def isMath : BF → Bool
  | .gcd => true | .isqrt => true | _ => false
def tyNm : List String := ["int", "bool", "tuple", "str", "list"]
def tyOf (x : Str) : Option String := tyNm.find? fun f => decide (Str.ofString f = x)
theorem tyOf_ok {x : Str} {T : String} (h : tyOf x = some T) : x = Str.ofString T ∧ T ∈ tyNm := by
  unfold tyOf at h
  have := List.find?_some h
  exact ⟨(of_decide_eq_true this).symm, List.mem_of_find?_eq_some h⟩
theorem boot_ty : ∀ T ∈ tyNm, bootBuiltins (Str.ofString T) = some (.type T) := by decide +kernel
def okArgs (es : List Expr) : Bool := es.all noStar
def kwNames : List Keyword → Option (List Str)
  | [] => some []
  | ⟨some x, _, _⟩ :: r => (kwNames r).map (x :: ·)
  | _ => none
def kwVals : List Keyword → List Expr
  | [] => []
  | ⟨_, e, _⟩ :: r => e :: kwVals r

/-- sorted(set(e)) -/
def setArg (c : CI) (sc : Scope) (f : Str) : Expr → List Expr → Option Expr
  | .Call (.Name g _) [e] [] _, [] => if f = Str.ofString "sorted" ∧ g = Str.ofString "set" ∧ c.isB f = true ∧ c.isB g = true ∧ gls sc g = true ∧ noStar e = true then some e else none
  | _, _ => none
/-- sorted({e: True, ..}): the keys -/
def setDisp (c : CI) (sc : Scope) (f : Str) : Expr → List Expr → Option (List Expr)
  | .Dict keys values _, [] => if f = Str.ofString "sorted" ∧ c.isB f = true ∧ keys ≠ [] ∧ keys.length ≤ 15 ∧ keys.length = values.length ∧ keys.all (·.isSome) = true ∧ values.all (fun v => match v with | .Constant (.bool true) _ _ => true | _ => false) = true then some (keys.filterMap id) else none
  | _, _ => none
mutual
/-- an expression -/
def cE (c : CI) (N : List Str) : Nat → Scope → Expr → Option IE
  | 0, _, _ => none
  | n + 1, sc, e => match e with
    | .Name x _ => match slot N sc x with
      | some i => some (.var i)
      | none => if gls sc x && c.isCon x then some (.gl x) else none
    | .Constant (.int i) _ _ => some (.int i)
    | .Constant (.bool b) _ _ => some (.bl b)
    | .Constant .none _ _ => some .non
    | .Constant (.str x) _ _ => some (.str x)
    | .BinOp a op b _ => match bopOf op, cE c N n sc a, cE c N n sc b with
      | some o, some x, some y => some (.op o x y)
      | _, _, _ => none
    | .UnaryOp .USub a _ => (cE c N n sc a).map .neg
    | .UnaryOp .Not a _ => (cE c N n sc a).map .not
    | .BoolOp op [a] _ => cE c N n sc a
    | .BoolOp op (a :: b :: r) pos => match op, cE c N n sc a, cE c N n sc (.BoolOp op (b :: r) pos) with
      | .And, some x, some y => some (.and x y)
      | .Or, some x, some y => some (.or x y)
      | _, _, _ => none
    | .Compare a [op] [b] _ => match copOf op, cE c N n sc a, cE c N n sc b with
      | some o, some x, some y => if behindInMarks op b then none else some (.cmp o x y)
      | _, _, _ => none
    | .Compare a [op, op'] [b, d] _ => match copOf op, copOf op', cE c N n sc a, cE c N n sc b, cE c N n sc d with
      | some o, some o', some x, some y, some z => if lastMarks [op, op'] [b, d] then none else some (.chain o o' x y z)
      | _, _, _, _, _ => none
    | .Compare a (op1 :: op2 :: op3 :: ops) (b1 :: b2 :: b3 :: bs) _ => match cE c N n sc a, cL c N n sc (op1 :: op2 :: op3 :: ops) (b1 :: b2 :: b3 :: bs) with
      | some x, some l => if lastMarks (op1 :: op2 :: op3 :: ops) (b1 :: b2 :: b3 :: bs) then none else some (.chn x l)
      | _, _ => none
    | .IfExp t a b _ => match cB c N n sc t, cE c N n sc a, cE c N n sc b with
      | some t, some x, some y => some (.ifx t x y)
      | _, _, _ => none
    | .Tuple es _ _ => (cEs c N n sc es).map .tup
    | .List es _ => (cEs c N n sc es).map (.lst false)
    | .Dict [] [] _ => some .dcon
    | .Subscript a (.Slice none none (some (.UnaryOp .USub (.Constant (.int j) _ _) _)) _) _ => if j == 1 then (cE c N n sc a).map .rev else none
    | .Subscript a (.Slice lo hi none _) _ => match cE c N n sc a, cO c N n sc lo, cO c N n sc hi with
      | some x, some l, some h => some (.slc x l h)
      | _, _, _ => none
    | .Subscript a i _ => if plainIx i then match cE c N n sc a, cE c N n sc i with
      | some x, some y => some (.sub x y)
      | _, _ => none
      else none
    | .Call (.Name f _) (a :: as) [] _ => if gls sc f && okArgs (a :: as) then
        (if f = Str.ofString "isinstance" then match as with
          | [.Name t _] => match tyOf t, cE c N n sc a with
            | some T, some x => if c.isB f && c.isB t && gls sc t then some (.isi T x) else none
            | _, _ => none
          | _ => none
        else if c.isFn f then (cEs c N n sc (a :: as)).map (.call f)
        else match setArg c sc f a as with
          | some e => (cE c N n sc e).map .sortS
          | none => match setDisp c sc f a as with
            | some es => (cEs c N n sc es).map .sortDD
            | none => match bfOf f, cEs c N n sc (a :: as) with
              | some b, some xs => if (if isMath b then c.isM f else c.isB f) then some (.blt b xs) else none
              | _, _ => none) else none
    | .Call (.Name f _) as kws _ => if gls sc f && c.isFn f && okArgs as then match kwNames kws, cEs c N n sc as, cEs c N n sc (kwVals kws) with
      | some ns, some xs, some ys => match (c.kw f).find? fun sh => sh.1 == as.length && sh.2.1 == ns with
        | some sh => some (.callK f xs ys sh.1 sh.2.1.length sh.2.2)
        | none => none
      | _, _, _ => none
      else none
    | .Call (.Attribute (.Name a p) m ap) [b] [] pos => if m = Str.ofString "append" && noStar b && ap.endLine == pos.line then match cE c N n sc (.Name a p), cE c N n sc b with
      | some x, some y => some (.append x y)
      | _, _ => none
      else if m = Str.ofString "extend" && noStar b && ap.endLine == pos.line then match cE c N n sc (.Name a p), cE c N n sc b with
      | some x, some y => some (.extend x y)
      | _, _ => none
      else if m = Str.ofString "pop" && noStar b && ap.endLine == pos.line then match cE c N n sc (.Name a p), cE c N n sc b with
      | some x, some y => some (.popi x y)
      | _, _ => none
      else none
    | .Call (.Attribute (.Name a p) m ap) [b, e] [] pos => if m = Str.ofString "get" && noStar b && noStar e && ap.endLine == pos.line then match cE c N n sc (.Name a p), cE c N n sc b, cE c N n sc e with
      | some x, some y, some z => some (.dget x y z)
      | _, _, _ => none
      else none
    | .Call (.Attribute (.Dict keys values _) m ap) [a, b] [] pos => if m = Str.ofString "get" && noStar a && noStar b && ap.endLine == pos.line then match litKs keys values, cE c N n sc a, cE c N n sc b with
      | some ks, some x, some y => if okKs ks then some (.dgt ks x y) else none
      | none, some x, some y => match litIk keys, cEs c N n sc values with
        | some is, some xs => if okIk keys values is then some (.dget (.ddsp is xs) x y) else none
        | _, _ => none
      | _, _, _ => none
      else none
    | .ListComp elt [⟨tg, iter, ifs, 0⟩] scope _ => match cI c N n sc iter tg, tgC N scope tg with
      | some it, some (one, own, is) =>
        if blkC N sc scope own && plainIt iter then match cIf c N n (relS scope sc) ifs, cE c N n (relS scope sc) elt with
          | some t, some x => some (.comp (own.map (·.2)) one is it t x)
          | _, _ => none
        else none
      | _, _ => none
    | _ => none
/-- a test -/
def cB (c : CI) (N : List Str) : Nat → Scope → Expr → Option IB
  | 0, _, _ => none
  | n + 1, sc, e => match e with
    | .BoolOp op [a] _ => cB c N n sc a
    | .BoolOp op (a :: b :: r) pos => match op, cB c N n sc a, cB c N n sc (.BoolOp op (b :: r) pos) with
      | .And, some x, some y => some (.and x y)
      | .Or, some x, some y => some (.or x y)
      | _, _, _ => none
    | .UnaryOp .Not a _ => (cB c N n sc a).map .not
    | .Compare a [op] [b] _ => match copOf op, cE c N n sc a, cE c N n sc b with
      | some o, some x, some y => if behindInMarks op b then none else some (.val (.cmp o x y))
      | _, _, _ => none
    | .Compare a [op, op'] [b, d] _ => match copOf op, copOf op', cE c N n sc a, cE c N n sc b, cE c N n sc d with
      | some o, some o', some x, some y, some z => if lastMarks [op, op'] [b, d] then none else some (.val (.chain o o' x y z))
      | _, _, _, _, _ => none
    | .Compare a (op1 :: op2 :: op3 :: ops) (b1 :: b2 :: b3 :: bs) _ => match cE c N n sc a, cL c N n sc (op1 :: op2 :: op3 :: ops) (b1 :: b2 :: b3 :: bs) with
      | some x, some l => if lastMarks (op1 :: op2 :: op3 :: ops) (b1 :: b2 :: b3 :: bs) then none else some (.chn x l)
      | _, _ => none
    | e => if plainTest e then (cE c N n sc e).map .val else none
/-- the links of a chain -/
def cL (c : CI) (N : List Str) : Nat → Scope → List CmpOp → List Expr → Option IL
  | 0, _, _, _ => none
  | n + 1, sc, ops, es => match ops, es with
    | [op], [b] => match copOf op, cE c N n sc b with
      | some o, some y => some (.last o y)
      | _, _ => none
    | op :: op2 :: ops, b :: b2 :: es => match copOf op, cE c N n sc b, cL c N n sc (op2 :: ops) (b2 :: es) with
      | some o, some y, some l => some (.link o y l)
      | _, _, _ => none
    | _, _ => none
def cEs (c : CI) (N : List Str) : Nat → Scope → List Expr → Option IEs
  | 0, _, _ => none
  | n + 1, sc, es => match es with
    | [] => some .nil
    | e :: es => if noStar e then match cE c N n sc e, cEs c N n sc es with
      | some x, some xs => some (.cons x xs)
      | _, _ => none
      else none
def cO (c : CI) (N : List Str) : Nat → Scope → Option Expr → Option IO
  | 0, _, _ => none
  | n + 1, sc, e => match e with
    | none => some .none
    | some e => (cE c N n sc e).map .some
def cIf (c : CI) (N : List Str) : Nat → Scope → List Expr → Option IB
  | 0, _, _ => none
  | n + 1, sc, es => match es with
    | [] => some .yes
    | [e] => cB c N n sc e
    | _ => none
/-- what is walked; tg: the target -/
def cI (c : CI) (N : List Str) : Nat → Scope → Expr → Expr → Option II
  | 0, _, _, _ => none
  | n + 1, sc, e, tg => match e with
    | .Call (.Name f _) [a] [] _ => if gls sc f && noStar a && c.isB f && f == Str.ofString "range" then (cE c N n sc a).map .rng1
      else if gls sc f && noStar a && c.isB f && f == Str.ofString "enumerate" then (match tg with
        | .Tuple .. => (cE c N n sc a).map .enum
        | _ => none)
      else (cE c N n sc e).map .seq
    | .Call (.Name f _) [a, b] [] _ => if gls sc f && noStar a && noStar b && c.isB f && f == Str.ofString "range" then match cE c N n sc a, cE c N n sc b with
        | some x, some y => some (.rng2 x y)
        | _, _ => none
      else if gls sc f && noStar a && noStar b && c.isB f && f == Str.ofString "zip" then (match tg with
        | .Tuple .. => match cE c N n sc a, cE c N n sc b with
          | some x, some y => some (.zip x y)
          | _, _ => none
        | _ => none)
      else (cE c N n sc e).map .seq
    | .Call (.Name f _) [a, b, .UnaryOp .USub (.Constant (.int j) _ _) _] [] _ => if gls sc f && noStar a && noStar b && c.isB f && f == Str.ofString "range" && j == 1 then match cE c N n sc a, cE c N n sc b with
        | some x, some y => some (.rngD x y)
        | _, _ => none
      else (cE c N n sc e).map .seq
    | e => (cE c N n sc e).map .seq
/-- the target of a comprehension: the block's own names, their places -/
def tgC (N : List Str) (scope : Scope) : Expr → Option (Bool × List (Str × Nat) × List Nat)
  | .Name x _ => match tgN N scope x with
    | some i => some (true, [(x, i)], [i])
    | none => none
  | .Tuple es _ _ => match tgNs N scope es with
    | some own => some (false, own, own.map (·.2))
    | none => none
  | _ => none
def tgN (N : List Str) (scope : Scope) (x : Str) : Option Nat := match scope.names.lookup x with
  | some .local => ixOf N x
  | some .cell => ixOf N x
  | _ => none
def tgNs (N : List Str) (scope : Scope) : List Expr → Option (List (Str × Nat))
  | [] => some []
  | .Name x _ :: es => match tgN N scope x, tgNs N scope es with
    | some i, some r => some ((x, i) :: r)
    | _, _ => none
  | _ => none
end
end Py

set_option Elab.async false
set_option linter.all false
set_option maxRecDepth 100000
set_option maxHeartbeats 4000000
/-! What is translated is read as it computes. -/
namespace Py
open PySem PySem.Spec PyProof.Rows L2

structure Ok (c : CI) (C : Str → List D → Store → Res D) (G : Str → Option D) (k : Nat) (X : Cx) (N : List Str) (sc : Scope) : Prop where
  cf : Cf X k
  n : X.N = N
  sc : X.env.scope = sc
  g : GOk X.K X.mg c G
  f : FTab X.prog X.w X.K X.mg X.base c C k

section
variable {X : Cx} {k : Nat} {pos : Pos}
/-- a call of a def of the text -/
theorem e_call {c : CI} {C : Str → List D → Store → Res D} {f : Str} {p0 : Pos} {a : Expr} {as : List Expr} {fs : Sl → Store → Res (List D)} (cf : Cf X k) (ft : FTab X.prog X.w X.K X.mg X.base c C k) (hf : c.isFn f = true) (hg : gls X.env.scope f = true)
    (ha : PA X (a :: as) (tL X.K W0 fs)) (hs : (a :: as).all noStar = true) : PE X (.Call (.Name f p0) (a :: as) [] pos) (tI X.K W0 fun η S => (fs η S).bind fun ds S => C f ds S) := by
  obtain ⟨ad, fd, ps, hm, hk, hb, F, _⟩ := ft f hf
  obtain ⟨g1, g2, _⟩ := gls_ok hg
  have hs' := hs
  rw [List.all_cons, Bool.and_eq_true] at hs'
  constructor
  intro pins s σ H Q I h
  obtain ⟨p, η, S, re, rs, h⟩ := h
  have h2 : tL X.K W0 fs σ H fun vs H1 => spI X.K C f vs H1 Q E0 := tL_of re rs h fun p1 H1 ds S1 vs e1 re1 rs1 rvs h1 => ⟨p1, ds, S1, rs1, rvs, h1⟩
  apply wpAny_Call_Name_kw
  apply ld_glob I g1 hm _ g2
  refine PySem.W.callWith_K (h₀ := X.base) I.ok.mod.kin hk ?_ (star_ok hs'.1) (star_any hs'.2)
  refine thn (ha.run pos pins s σ H _ I h2) fun us s1 q => ?_
  obtain ⟨vs, H1, I1, r, q⟩ := q
  refine ⟨I1.kIn, ?_⟩
  have hl : (us ++ []).length = ps.length := by rw [List.append_nil, ← r.length]; exact F.len _ _ _ _ q
  have bd := hb s1 us I1.kIn hl
  rw [List.append_nil] at bd
  refine wpAny_call (codeAny_mono (F.run X.A X.stack s1 H1 ⟨us, []⟩ us vs Q E0 cf.room cf.gd I1.env0 bd r q) fun r s' hq => ?_)
  match r, hq with
  | .ok (.ret u), hq => exact I1.after hq
  | .ok .next, hq => exact False.elim hq
  | .ok .brk, hq => exact False.elim hq
  | .ok .cont, hq => exact False.elim hq
  | .error e, hq => exact False.elim hq
theorem perm_rvs {K : PySem.W.Frag} {p : List Addr} {H : Hp} : ∀ {ix : List Nat} {ds es : List D} {vs : List V}, RVs K p H ds vs → permD ix ds = some es → ∃ us, permD ix vs = some us ∧ RVs K p H es us
  | [], _, _, _, _, h => by cases h; exact ⟨[], rfl, rfl⟩
  | i :: ix, ds, es, vs, r, h => by
    unfold permD at h
    split at h
    · rename_i x r' h1 h2
      cases h
      obtain ⟨v, e1, e2⟩ := r.get h1
      obtain ⟨us, e3, e4⟩ := perm_rvs r h2
      exact ⟨v :: us, by unfold permD; rw [e1, e3], v, us, rfl, e2, e4⟩
    · cases h
theorem perm_vals : ∀ {ix : List Nat} {vs ws : List V} {us : List Value}, Vals vs us → permD ix vs = some ws → ∃ zs, permD ix us = some zs ∧ Vals ws zs
  | [], _, _, _, _, h => by cases h; exact ⟨[], rfl, .nil⟩
  | i :: ix, vs, ws, us, r, h => by
    unfold permD at h
    split at h
    · rename_i x r' h1 h2
      cases h
      obtain ⟨v, e1, e2⟩ := r.get h1
      obtain ⟨zs, e3, e4⟩ := perm_vals r h2
      exact ⟨v :: zs, by unfold permD; rw [e1, e3], .cons e2 e4⟩
    · cases h
theorem PK.by {X : Cx} {kws : List Keyword} {t t' : TA} (h : PK X kws t) (f : ∀ σ H Q, t' σ H Q → t σ H Q) : PK X kws t' := ⟨fun pos pins s σ H Q I q => h.run pos pins s σ H Q I (f σ H Q q)⟩
theorem kw_all {env : Env} {pos : Pos} : ∀ {kws : List Keyword} {ns : List Str}, kwNames kws = some ns → (backToKw pos (keywordEach kws env)).all (·.1.isSome) = true ∧ (backToKw pos (keywordEach kws env)).any (·.1.isNone) = false ∧ (backToKw pos (keywordEach kws env)).filterMap (·.1) = ns
  | [], _, h => by cases h; exact ⟨rfl, rfl, rfl⟩
  | ⟨some x, e, kp⟩ :: r, ns, h => by
    obtain ⟨ms, h1, rfl⟩ := Option.map_eq_some_iff.mp (show (kwNames r).map (x :: ·) = some ns from h)
    obtain ⟨i1, i2, i3⟩ := kw_all (env := env) (pos := pos) h1
    refine ⟨?_, ?_, ?_⟩
    · show (true && (backToKw pos (keywordEach r env)).all (·.1.isSome)) = true
      rw [i1]; rfl
    · show (false || (backToKw pos (keywordEach r env)).any (·.1.isNone)) = false
      rw [i2]; rfl
    · show (x :: (backToKw pos (keywordEach r env)).filterMap (·.1)) = _
      rw [i3]
  | ⟨none, e, kp⟩ :: r, ns, h => by cases h
theorem k_cons {nm : Option Str} {e : Expr} {kpos : Pos} {r : List Keyword} {f : Sl → Store → Res D} {fs : Sl → Store → Res (List D)} (ha : PE X e (tI X.K W0 f)) (hr : PK X r (tL X.K W0 fs)) : PK X (⟨nm, e, kpos⟩ :: r) (tL X.K W0 fun η S => (f η S).bind fun d S => (fs η S).bind fun ds S => .ok (d :: ds) S) := by
  refine Py.PK.by (pk_cons ha hr) fun σ H Q h => ?_
  obtain ⟨p, η, S, re, rs, h⟩ := h
  refine tI_of re rs h fun p1 H1 d S1 v e1 re1 rs1 rv h1 => ?_
  exact tL_of re1 rs1 h1 fun p2 H2 ds S2 vs e2 re2 rs2 rvs h2 => h2 p2 H2 Ext.refl rs2 (v :: vs) ⟨v, vs, rfl, rv.ext e2, rvs⟩
theorem k_nil : PK X [] (tL X.K W0 fun _ S => .ok [] S) := by
  refine Py.PK.by pk_nil fun σ H Q h => ?_
  obtain ⟨p, η, S, re, rs, h⟩ := h
  exact h p H Ext.refl rs [] rfl
/-- a call of a def of the text, with names -/
theorem e_callK {c : CI} {C : Str → List D → Store → Res D} {f : Str} {p0 : Pos} {as : List Expr} {kws : List Keyword} {ns : List Str} {ix : List Nat} {fs gs : Sl → Store → Res (List D)} (cf : Cf X k) (ft : FTab X.prog X.w X.K X.mg X.base c C k) (hf : c.isFn f = true) (hg : gls X.env.scope f = true)
    {n : Nat} (hsh : (n, ns, ix) ∈ c.kw f) (hns : kwNames kws = some ns) (ha : PA X as (tL X.K W0 fs)) (hkw : PK X kws (tL X.K W0 gs)) (hs : as.all noStar = true) (hnil : as = [] → fs = fun _ S => .ok [] S) :
    PE X (.Call (.Name f p0) as kws pos) (tI X.K W0 fun η S => (fs η S).bind fun us S => (gs η S).bind fun ws S => match permK n ns.length ix us ws with
      | some ds => C f ds S
      | none => .bad) := by
  obtain ⟨ad, fd, ps, hm, hk, hb, F, kb⟩ := ft f hf
  obtain ⟨g1, g2, _⟩ := gls_ok hg
  obtain ⟨k1, k2, k3⟩ := kw_all (env := X.env) (pos := pos) hns
  constructor
  intro pins s σ H Q I h
  obtain ⟨p, η, S, re, rs, h⟩ := h
  have fin : ∀ {s1 : Shared} {H1 : Hp} {us ws : List Value} {vs zs : List V} {p1 : List Addr} {S1 : Store} {d1 d2 : List D}, Inv X pins σ H1 s1 → Vals vs us → Vals zs ws → RS X.K p1 H1 S1 → RVs X.K p1 H1 d1 vs → RVs X.K p1 H1 d2 zs →
      Good X.K p1 H1 (match permK n ns.length ix d1 d2 with | some ds => C f ds S1 | none => .bad) (fun p' H' d _ => ∀ v, RV X.K p' H' d v → Q v H') W0 →
      wpAny (model X.prog X.w) X.A (PySem.call (.ref ad) ([] ++ us) (((backToKw pos (keywordEach kws X.env)).filterMap (·.1)).zip ws)) (EP X pins σ Q) X.xe s1 := by
    intro s1 H1 us ws vs zs p1 S1 d1 d2 I1 r rz rs1 rv1 rv2 hgd
    rw [k3]
    cases hp : permK n ns.length ix d1 d2 with
    | none => rw [hp] at hgd; exact False.elim hgd
    | some ds =>
      rw [hp] at hgd
      unfold permK at hp
      split at hp
      case isFalse => cases hp
      rename_i hlen
      have lu : us.length = n := by rw [← r.length, ← rv1.length]; exact hlen.1
      have lw : ws.length = ns.length := by rw [← rz.length, ← rv2.length]; exact hlen.2
      obtain ⟨xs, e1, e2⟩ := perm_rvs (rv1.append rv2) hp
      obtain ⟨ys, e3, e4⟩ := perm_vals (r.append rz) e1
      have bd := kb _ hsh s1 us ws ys I1.kIn lu lw e3
      refine wpAny_call (codeAny_mono (F.run X.A X.stack s1 H1 ⟨us, ns.zip ws⟩ ys xs Q E0 cf.room cf.gd I1.env0 bd e4 ⟨p1, ds, S1, rs1, e2, hgd⟩) fun r s' hq => ?_)
      match r, hq with
      | .ok (.ret u), hq => exact I1.after hq
      | .ok .next, hq => exact False.elim hq
      | .ok .brk, hq => exact False.elim hq
      | .ok .cont, hq => exact False.elim hq
      | .error e, hq => exact False.elim hq
  have h2 : tL X.K W0 fs σ H fun vs H1 => ∃ p1 S1 ds, RE X.K p1 H1 η σ ∧ RS X.K p1 H1 S1 ∧ RVs X.K p1 H1 ds vs ∧ Good X.K p1 H1 ((gs η S1).bind fun ws S => match permK n ns.length ix ds ws with | some ds => C f ds S | none => .bad) (fun p' H' d _ => ∀ v, RV X.K p' H' d v → Q v H') W0 :=
    tL_of re rs h fun p1 H1 ds S1 vs e1 re1 rs1 rvs h1 => ⟨p1, S1, ds, re1, rs1, rvs, h1⟩
  have step : ∀ {s1 : Shared} {H1 : Hp} {us : List Value} {vs : List V}, Inv X pins σ H1 s1 → Vals vs us → (∃ p1 S1 ds, RE X.K p1 H1 η σ ∧ RS X.K p1 H1 S1 ∧ RVs X.K p1 H1 ds vs ∧ Good X.K p1 H1 ((gs η S1).bind fun ws S => match permK n ns.length ix ds ws with | some ds => C f ds S | none => .bad) (fun p' H' d _ => ∀ v, RV X.K p' H' d v → Q v H') W0) →
      wpAny (model X.prog X.w) X.A (evalAll ((backToKw pos (keywordEach kws X.env)).map (·.2))) (fun ws s2 => X.K.In s2.heap ∧ wpAny (model X.prog X.w) X.A (PySem.call (.ref ad) ([] ++ us) (((backToKw pos (keywordEach kws X.env)).filterMap (·.1)).zip ws)) (EP X pins σ Q) X.xe s2) X.xe s1 := by
    rintro s1 H1 us vs I1 r ⟨p1, S1, ds, re1, rs1, rvs, h1⟩
    refine thn (hkw.run pos pins s1 σ H1 _ I1 (tL_of re1 rs1 h1 (Q := fun zs H2 => ∃ p2 S2 d2, RVs X.K p2 H2 ds vs ∧ RS X.K p2 H2 S2 ∧ RVs X.K p2 H2 d2 zs ∧ Good X.K p2 H2 (match permK n ns.length ix ds d2 with | some ds => C f ds S2 | none => .bad) (fun p' H' d _ => ∀ v, RV X.K p' H' d v → Q v H') W0)
      fun p2 H2 d2 S2 zs e2 re2 rs2 rv2 h2 => ⟨p2, S2, d2, rvs.ext e2, rs2, rv2, h2⟩)) fun ws s2 q => ?_
    obtain ⟨zs, H2, I2, rz, p2, S2, d2, rv1, rs2, rv2, h2⟩ := q
    exact ⟨I2.kIn, fin I2 r rz rs2 rv1 rv2 h2⟩
  apply wpAny_Call_Name_kw
  apply ld_glob I g1 hm _ g2
  cases as with
  | nil =>
    refine PySem.W.callWith_KW0 (h₀ := X.base) I.ok.mod.kin hk k1 ?_ (by rw [k2]; rfl)
    have hf0 := hnil rfl
    subst hf0
    exact step I .nil ⟨p, S, [], re, rs, rfl, h⟩
  | cons a as =>
    rw [List.all_cons, Bool.and_eq_true] at hs
    refine PySem.W.callWith_KW (h₀ := X.base) I.ok.mod.kin hk k1 ?_ (by rw [k2, star_any (by rw [List.all_cons, hs.1, hs.2]; rfl)]; rfl) (star_ok hs.1)
    refine thn (ha.run pos pins s σ H _ I h2) fun us s1 q => ?_
    obtain ⟨vs, H1, I1, r, q⟩ := q
    exact step I1 r q
theorem boot_b : ∀ f ∈ bfs, isMath f = false → bootBuiltins (Str.ofString (bfName f)) = some (bfVal f) := by decide +kernel
theorem mem_bfs (f : BF) : f ∈ bfs := by cases f <;> decide
theorem e_blt {c : CI} {G : Str → Option D} {f : Str} {b : BF} {p0 : Pos} {a : Expr} {as : List Expr} {fs : Sl → Store → Res (List D)} (cf : Cf X k) (gk : GOk X.K X.mg c G) (hx : f = Str.ofString (bfName b)) (hb : (if isMath b then c.isM f else c.isB f) = true) (hg : gls X.env.scope f = true)
    (ha : PA X (a :: as) (tL X.K W0 fs)) (hs : (a :: as).all noStar = true) : PE X (.Call (.Name f p0) (a :: as) [] pos) (tI X.K W0 fun η S => (fs η S).bind fun ds S => .ofO (bf S b ds) S) := by
  obtain ⟨r, hr, hq⟩ := b_any (W := W0) cf b
  obtain ⟨g1, g2, g3⟩ := gls_ok hg
  have hs' := hs
  rw [List.all_cons, Bool.and_eq_true] at hs'
  have main : PE X (.Call (.Name f p0) (a :: as) [] pos) (tCB r (tL X.K W0 fs)) := by
    cases e : isMath b with
    | false =>
      rw [e] at hb
      have hm := gk.blt f hb
      have hv := boot_b b (mem_bfs b) e
      rw [← hx] at hv
      cases b <;> first
        | exact pe_callB hr g1 hm hv ha g3 g2 (star_ok hs'.1) (star_any hs'.2)
        | exact pe_callTy hr g1 hm hv ha g3 g2 (star_ok hs'.1) (star_any hs'.2)
        | cases e
    | true =>
      rw [e] at hb
      cases b <;> first
        | (subst hx; exact pe_callBfun hr g1 (gk.gcd hb) ha g2 (star_ok hs'.1) (star_any hs'.2))
        | (subst hx; exact pe_callBfun hr g1 (gk.isqrt hb) ha g2 (star_ok hs'.1) (star_any hs'.2))
        | cases e
  refine PE.by main fun σ H Q h => ?_
  obtain ⟨p, η, S, re, rs, h⟩ := h
  refine tL_of re rs h fun p1 H1 ds S1 vs e1 re1 rs1 rvs h1 => ?_
  cases q : bf S1 b ds with
  | none => rw [q] at h1; exact False.elim h1
  | some d => rw [q] at h1; exact hq p1 H1 S1 ds d vs Q rs1 rvs q h1
theorem e_lcopy {c : CI} {G : Str → Option D} {f : Str} {p0 : Pos} {a : Expr} {fa : Sl → Store → Res D} (cf : Cf X k) (gk : GOk X.K X.mg c G) (hx : f = Str.ofString "list") (hb : c.isB f = true) (hg : gls X.env.scope f = true) (ha : PE X a (tI X.K W0 fa)) (hs : noStar a = true) :
    PE X (.Call (.Name f p0) [a] [] pos) (tI X.K W0 fun η S => (fa η S).bind fun x S => match items S x with
      | some ds => .ok (.lo S.length) (S ++ [.lst ds])
      | none => .bad) := by
  obtain ⟨g1, g2, g3⟩ := gls_ok hg
  have hm := gk.blt f hb
  have hv := boot_b .list (mem_bfs .list) rfl
  rw [show Str.ofString (bfName .list) = f from hx.symm] at hv
  refine PE.by (pe_callTy (b_list (W := W0)).1 g1 hm hv (pa_cons ha pa_nil (star_ok hs)) g3 g2 (star_ok hs) rfl) fun σ H Q h => ?_
  obtain ⟨p, η, S, re, rs, h⟩ := h
  refine tI_of re rs h fun p1 H1 x S1 v e1 re1 rs1 rv h1 => ?_
  cases q : items S1 x with
  | none => rw [q] at h1; exact False.elim h1
  | some ds =>
    rw [q] at h1
    obtain ⟨a1, xs, rfl, r2, hq⟩ := items_seq rs1 rv q
    exact ⟨a1, xs, rfl, hq, Good.new_lo h1 rs1 r2⟩
theorem sq_ext {K : PySem.W.Frag} {p : List Addr} {H : Hp} {a : Addr} {o : HO} {x : V × List Int} (hp : H a = none) (h : RV K p H (tkD x.2) x.1) : ∃ t, x.1 = V.ref t ∧ SqT K (upd H a o) t (x.2.map V.int) := sq_of_rv (h.ext (Ext.laid hp))
theorem e_sortS {c : CI} {G : Str → Option D} {f g : Str} {p0 p1 p2 : Pos} {a : Expr} {fa : Sl → Store → Res D} (cf : Cf X k) (gk : GOk X.K X.mg c G) (hx : f = Str.ofString "sorted") (hb : c.isB f = true) (hg : gls X.env.scope f = true)
    (hx' : g = Str.ofString "set") (hb' : c.isB g = true) (hg' : gls X.env.scope g = true) (ha : PE X a (tI X.K W0 fa)) (hs : noStar a = true) :
    PE X (.Call (.Name f p0) [.Call (.Name g p1) [a] [] p2] [] pos) (tI X.K W0 fun η S => (fa η S).bind fun x S => match (lsOf S x).bind intsOf with
      | some ns => if ns.length < 64 then .ok (.lv ((sset ns).map .int)) S else .bad
      | none => match (items S x).bind tksOf with
        | some ks => if ks.length < 64 then .ok (.lv ((sdd ks).map tkD)) S else .bad
        | none => .bad) := by
  obtain ⟨g1, g2, g3⟩ := gls_ok hg
  obtain ⟨k1, k2, k3⟩ := gls_ok hg'
  have hm := gk.blt f hb
  have hm' := gk.blt g hb'
  have hv := boot_b .sort (mem_bfs .sort) rfl
  rw [show Str.ofString (bfName .sort) = f from hx.symm] at hv
  have hv' : bootBuiltins g = some (.type "set") := by rw [hx']; decide +kernel
  have in1 := pe_callTy (cr_or (cr_setL cf.calm) (cr_setTT cf.calm (by have := cf.room.un; omega))) k1 hm' hv' (pa_cons ha pa_nil (star_ok hs)) k3 k2 (star_ok hs) rfl (p := p1) (pos := p2)
  refine PE.by (pe_callB (cr_or (cr_sortedSet cf.calm) (cr_sortTT cf.calm)) g1 hm hv (pa_cons in1 pa_nil (star_ok rfl)) g3 g2 (star_ok rfl) rfl) fun σ H Q h => ?_
  obtain ⟨p, η, S, re, rs, h⟩ := h
  refine tI_of re rs h fun p1 H1 x S1 v e1 re1 rs1 rv h1 => ?_
  cases q : (lsOf S1 x).bind intsOf with
  | some ns =>
    rw [q] at h1
    obtain ⟨ds, q1, q2⟩ := Option.bind_eq_some_iff.mp q
    have h1 : Good X.K p1 H1 (if ns.length < 64 then .ok (D.lv ((sset ns).map D.int)) S1 else .bad) (fun p' H' d _ => ∀ v, RV X.K p' H' d v → Q v H') W0 := h1
    by_cases hl : ns.length < 64
    · rw [if_pos hl] at h1
      obtain ⟨a1, xs, rfl, r2, hq⟩ := lsOf_lst rs1 rv q1
      have ex := ints_rv r2 q2
      subst ex
      refine .inl ⟨a1, ns, rfl, SqL.of hq, hl, fun p' n hn hp => .inl ?_⟩
      refine ⟨p', _, n, rfl, upd_same, by omega, fun ms p2 hp1 hp2 hp3 hp4 => ?_⟩
      have em : ms = sset ns := sset_is hp1 fun z => by rw [hp2]; exact decide_eq_true_iff
      rw [em]
      exact (h1.mono (Ext.laid hp)).new_lv (rs1.laid hp) (RVs.of_ints _) p2 hp4
    · rw [if_neg hl] at h1; exact False.elim h1
  | none =>
    rw [q] at h1
    cases q3 : (items S1 x).bind tksOf with
    | none =>
      have h1 : Good X.K p1 H1 (match (items S1 x).bind tksOf with
        | some ks => if ks.length < 64 then .ok (D.lv ((sdd ks).map tkD)) S1 else .bad
        | none => .bad) (fun p' H' d _ => ∀ v, RV X.K p' H' d v → Q v H') W0 := h1
      rw [q3] at h1; exact False.elim h1
    | some ks =>
      have h1 : Good X.K p1 H1 (match (items S1 x).bind tksOf with
        | some ks => if ks.length < 64 then .ok (D.lv ((sdd ks).map tkD)) S1 else .bad
        | none => .bad) (fun p' H' d _ => ∀ v, RV X.K p' H' d v → Q v H') W0 := h1
      rw [q3] at h1
      have h1 : Good X.K p1 H1 (if ks.length < 64 then .ok (D.lv ((sdd ks).map tkD)) S1 else .bad) (fun p' H' d _ => ∀ v, RV X.K p' H' d v → Q v H') W0 := h1
      by_cases hl : ks.length < 64
      · rw [if_pos hl] at h1
        obtain ⟨ds, q1, q2⟩ := Option.bind_eq_some_iff.mp q3
        obtain ⟨a1, xs, rfl, r2, hq⟩ := items_seq rs1 rv q1
        obtain ⟨M, l1, l2, l3⟩ := tks_rv q2 r2
        have mk : ∀ M : List (V × List Int), (∀ x ∈ M, RV X.K p1 H1 (tkD x.2) x.1 ∧ ∃ t, x.1 = V.ref t ∧ SqT X.K H1 t (x.2.map V.int) ∧ x.2 ≠ []) → ∃ L : List (Addr × List Int), M.map (·.1) = L.map (fun x => V.ref x.1) ∧ M.map (·.2) = L.map (·.2) ∧ ∀ x ∈ L, RV X.K p1 H1 (tkD x.2) (V.ref x.1) ∧ SqT X.K H1 x.1 (x.2.map V.int) ∧ x.2 ≠ [] := by
          intro M hM
          induction M with
          | nil => exact ⟨[], rfl, rfl, fun x hx => (nomatch hx)⟩
          | cons x M ih =>
            obtain ⟨L, a1, a2, a3⟩ := ih fun y hy => hM y (List.mem_cons_of_mem _ hy)
            obtain ⟨e0, t, e1, e2, e3⟩ := hM x (List.mem_cons_self ..)
            refine ⟨(t, x.2) :: L, by rw [List.map_cons, List.map_cons, a1, e1], by rw [List.map_cons, List.map_cons, a2], fun y hy => ?_⟩
            rcases List.mem_cons.mp hy with rfl | hy
            · exact ⟨by rw [← e1]; exact e0, e2, e3⟩
            · exact a3 y hy
        obtain ⟨L, b1, b2, b3⟩ := mk M l3
        have eL : ks = L.map (·.2) := by rw [← l2, b2]
        have ex : xs = L.map fun p => V.ref p.1 := by rw [← l1, b1]
        subst ex
        refine .inr ⟨a1, L, rfl, hq, fun x hx => (b3 x hx).2.1, by rw [eL, List.length_map] at hl; exact hl, fun a L2 ha s1 s2 => .inr ?_⟩
        refine ⟨a, L2, rfl, upd_same, fun x hx => ⟨?_, (b3 x (s1 x hx)).2.2⟩, fun zs p2 hs hperm hnd hp2 => ?_⟩
        · obtain ⟨t, e, z⟩ := sq_ext (x := (V.ref x.1, x.2)) ha (b3 x (s1 x hx)).1
          injection e with e
          subst e
          exact z
        · have es : sdd ks = zs.map (·.2) := by
            refine sdd_is hs (m := L2.map (·.2)) (hperm.map _) hnd fun y => ?_
            rw [eL]
            constructor
            · intro hy
              obtain ⟨z, hz, rfl⟩ := List.mem_map.mp hy
              exact List.mem_map.mpr ⟨z, s1 z hz, rfl⟩
            · intro hy
              obtain ⟨z, hz, rfl⟩ := List.mem_map.mp hy
              exact s2 z hz
          rw [es] at h1
          have rr : ∀ zs : List (Addr × List Int), (∀ z ∈ zs, z ∈ L) → RVs X.K p1 (upd H1 a (SetTO X.prog X.w a L2)) ((zs.map (·.2)).map tkD) (zs.map fun z => V.ref z.1) := by
            intro zs hz
            induction zs with
            | nil => rfl
            | cons z zs ih => exact ⟨V.ref z.1, _, rfl, (b3 z (hz z (List.mem_cons_self ..))).1.ext (Ext.laid ha), ih fun y hy => hz y (List.mem_cons_of_mem _ hy)⟩
          exact (h1.mono (Ext.laid ha)).new_lv (rs1.laid ha) (rr zs fun z hz => s1 z (hperm.mem_iff.mp hz)) p2 hp2
      · rw [if_neg hl] at h1; exact False.elim h1
theorem PTs.by {ifs : List Expr} {t t' : TT} (h : PTs X ifs t) (f : ∀ σ H Q, t' σ H Q → t σ H Q) : PTs X ifs t' := ⟨fun pins s σ H Q I q => h.run pins s σ H Q I (f σ H Q q)⟩
theorem t_yes {W : XD} : PTs X [] (tT X.K W fun _ S => .ok true S) := by
  refine Py.PTs.by pts_nil fun σ H Q h => ?_
  obtain ⟨p, η, S, re, rs, h⟩ := h
  exact Good.here (a := true) h rs
/-- the exact target of a comprehension -/
theorem gc_names {N : List Str} {scope : Scope} : ∀ {es : List Expr} {own : List (Str × Nat)}, tgNs N scope es = some own → X.N = N → X.N.Nodup → (∀ x : Str, scope.names.lookup x = some .local ∨ scope.names.lookup x = some .cell → Loc X.env.scope x ∧ (X.fn x = true ∨ X.env.scope.names.lookup x = some .local)) →
    PGs X es (gNames (own.map (·.2))) ∧ own.length = es.length ∧ es.all noStar = true
  | [], own, h, _, _, _ => by
    simp only [tgNs, Option.some.injEq] at h
    subst h
    exact ⟨pgs_nil, rfl, rfl⟩
  | e :: es, own, h, hN, nd, hl => by
    unfold tgNs at h
    split at h
    · rename_i e1; cases e1
    · rename_i x p es' e1
      cases e1
      split at h
      · rename_i i r h1 h2
        cases h
        obtain ⟨i1, i2, i3⟩ := gc_names h2 hN nd hl
        have hx : (scope.names.lookup x = some .local ∨ scope.names.lookup x = some .cell) ∧ ixOf N x = some i := by
          unfold tgN at h1
          split at h1
          · exact ⟨.inl (by assumption), h1⟩
          · exact ⟨.inr (by assumption), h1⟩
          · cases h1
        obtain ⟨l1, l2⟩ := hl x hx.1
        refine ⟨pgs_cons (pg_name (i := i) nd (by rw [hN]; exact ixOf_ok hx.2) l1 l2) i1 (asgC_ok rfl), by rw [List.length_cons, List.length_cons, i2], by rw [List.all_cons, i3]; rfl⟩
      · cases h
    · cases h
theorem gc_of {N : List Str} {scope : Scope} {tg : Expr} {one : Bool} {own : List (Str × Nat)} {is : List Nat} (h : tgC N scope tg = some (one, own, is)) (hN : X.N = N) (nd : X.N.Nodup) (hc : X.calm = true)
    (hl : ∀ x : Str, scope.names.lookup x = some .local ∨ scope.names.lookup x = some .cell → Loc X.env.scope x ∧ (X.fn x = true ∨ X.env.scope.names.lookup x = some .local)) : PG X tg (gC X.K one is) := by
  unfold tgC at h
  split at h
  · rename_i x p
    split at h
    · rename_i i h1
      cases h
      have hx : (scope.names.lookup x = some .local ∨ scope.names.lookup x = some .cell) ∧ ixOf N x = some i := by
        unfold tgN at h1
        split at h1
        · exact ⟨.inl (by assumption), h1⟩
        · exact ⟨.inr (by assumption), h1⟩
        · cases h1
      obtain ⟨l1, l2⟩ := hl x hx.1
      refine PG.by (pg_name (i := i) nd (by rw [hN]; exact ixOf_ok hx.2) l1 l2) fun v σ H Q q => ?_
      obtain ⟨j, e, q⟩ := q
      cases e
      exact q
    · cases h
  · rename_i es kk p
    split at h
    · rename_i own' h1
      cases h
      obtain ⟨i1, i2, i3⟩ := gc_names h1 hN nd hl
      obtain ⟨a1, a2⟩ := asgL_ok (env := X.env) i3
      exact pg_tup hc i1 (by rw [a1, List.length_map, i2]) a2
    · cases h
  · cases h
end
end Py

set_option Elab.async false
set_option linter.all false
set_option maxRecDepth 100000
set_option maxHeartbeats 8000000
/-! Every translated expression is read as it computes. -/
namespace Py
open PySem PySem.Spec PyProof.Rows L2
section
variable {c : CI} {C : Str → List D → Store → Res D} {G : Str → Option D} {k : Nat} {N : List Str}
theorem Ok.blk {X : Cx} {sc : Scope} (o : Ok c C G k X N sc) (s : Shared) (H : Hp) (scope : Scope) (Ca : Addr) (cl : List (Str × Addr)) (fp : List Addr) : Ok c C G k (X.blk s H scope (compEnvC scope cl Ca X.env) fp) N (relS scope sc) :=
  ⟨⟨o.cf.calm, o.cf.nd, o.cf.gd, o.cf.room⟩, o.n, by rw [← o.sc]; rfl, o.g, o.f⟩
theorem relS_vars {scope sc : Scope} {x : Str} : scope.names.lookup x = some .local ∨ scope.names.lookup x = some .cell → (relS scope sc).names.lookup x = scope.names.lookup x := by
  intro h
  rcases h with h | h
  · rw [h]; exact lookup_relS_keep (by decide) h
  · rw [h]; exact lookup_relS_keep (by decide) h
/-- all six at once -/
structure CAll (c : CI) (C : Str → List D → Store → Res D) (G : Str → Option D) (k : Nat) (N : List Str) (n : Nat) : Prop where
  e : ∀ sc e ie, cE c N n sc e = some ie → ∀ X, Ok c C G k X N sc → PE X e (tI X.K W0 (evE C G ie))
  b : ∀ sc e ib, cB c N n sc e = some ib → ∀ X, Ok c C G k X N sc → PT X e (tT X.K W0 (evB C G ib)) ∧ (∀ op es p, e = .BoolOp op es p → PW X e (tT X.K W0 (evB C G ib)))
  es : ∀ sc es ies, cEs c N n sc es = some ies → ∀ X, Ok c C G k X N sc → PA X es (tL X.K W0 (evEs C G ies)) ∧ es.all noStar = true
  ks : ∀ sc kws ies, cEs c N n sc (kwVals kws) = some ies → ∀ X, Ok c C G k X N sc → PK X kws (tL X.K W0 (evEs C G ies))
  ps : ∀ sc keys values is ies, litIk keys = some is → keys.length = values.length → cEs c N n sc values = some ies → ∀ X, Ok c C G k X N sc → ∀ pos, ∃ trs, PPs X pos keys values trs ∧ tPr X.K W0 is (evEs C G ies) trs ∧ keys.all (·.isSome) = true ∧ is.length = keys.length
  pd : ∀ sc keys values ies, keys.all (·.isSome) = true → keys.length = values.length → values.all (fun v => match v with | .Constant (.bool true) _ _ => true | _ => false) = true → cEs c N n sc (keys.filterMap id) = some ies → ∀ X, Ok c C G k X N sc → ∀ pos, ∃ trs, PPs X pos keys values trs ∧ tPD X.K W0 (evEs C G ies) trs
  l : ∀ sc ops es il, cL c N n sc ops es = some il → ∀ X, Ok c C G k X N sc → PCh X ops es (tLk X.K W0 (evL C G il))
  o : ∀ sc o io, cO c N n sc o = some io → ∀ X, Ok c C G k X N sc → PO X o (tOI X.K W0 (evO C G io))
  f : ∀ sc ifs ib, cIf c N n sc ifs = some ib → ∀ X, Ok c C G k X N sc → PTs X ifs (tT X.K W0 (evB C G ib))
  i : ∀ sc e tg it, cI c N n sc e tg = some it → ∀ X, Ok c C G k X N sc → PI X tg e (tW X.K W0 (evI C G it))
theorem c_ok : ∀ n, CAll c C G k N n := by
  intro n
  induction n with
  | zero => exact ⟨fun _ _ _ h => by simp [cE] at h, fun _ _ _ h => by simp [cB] at h, fun _ _ _ h => by simp [cEs] at h, fun _ _ _ h => by simp [cEs] at h, fun _ _ _ _ _ _ _ h => by simp [cEs] at h, fun _ _ _ _ _ _ _ h => by simp [cEs] at h, fun _ _ _ _ h => by simp [cL] at h, fun _ _ _ h => by simp [cO] at h, fun _ _ _ h => by simp [cIf] at h, fun _ _ _ _ h => by simp [cI] at h⟩
  | succ n ih =>
    refine ⟨fun sc e ie h X o => ?_, fun sc e ib h X o => ?_, fun sc es ies h X o => ?_, fun sc kws ies h X o => ?_, fun sc keys values is ies h1 h2 h X o pos => ?_, fun sc keys values ies h1 h2 h3 h X o pos => ?_, fun sc ops es il h X o => ?_, fun sc oe io h X o => ?_, fun sc ifs ib h X o => ?_, fun sc e tg it h X o => ?_⟩
    · -- an expression
      unfold cE at h
      split at h
      · -- a name
        rename_i x p
        split at h
        · rename_i i hs
          cases h
          obtain ⟨h1, h2, h3, h4⟩ := slot_ok hs
          exact e_var (by rw [o.n]; exact h1) (by unfold Vis; rw [o.sc]; exact h2) h3 h4
        · split at h
          · rename_i hg
            cases h
            rw [Bool.and_eq_true] at hg
            have hg1 := hg.1
            rw [← o.sc] at hg1
            obtain ⟨g1, g2, g3⟩ := gls_ok hg1
            constructor
            intro pins s σ H Q I q
            obtain ⟨p0, η, S, re, rs, q⟩ := q
            cases hd : G x with
            | none =>
              have q : Good X.K p0 H (.ofO (G x) S) _ W0 := q
              rw [hd] at q; exact False.elim q
            | some d =>
              have q : Good X.K p0 H (.ofO (G x) S) (fun p' H' d _ => ∀ v, RV X.K p' H' d v → Q v H') W0 := q
              rw [hd] at q
              obtain ⟨v, u, hm, ru, hrv⟩ := o.g.con x hg.2 d hd
              exact (pe_glob g1 hm ru g2).run pins s σ H Q I (Good.val (d := d) q rs (hrv p0 H))
          · cases h
      · cases h; exact e_con pe_int fun _ _ => rfl
      · cases h; exact e_con pe_bl fun _ _ => rfl
      · cases h; exact e_con pe_non fun _ _ => rfl
      · cases h; exact e_con pe_str fun _ _ => rfl
      · -- a binary operator
        split at h
        · rename_i b' x y ho ha hb
          cases h
          have ra := ih.e _ _ _ ha X o
          have rb := ih.e _ _ _ hb X o
          unfold bopOf at ho
          split at ho
          · cases ho; exact e_add ra rb
          · cases ho; exact e_sub ra rb
          · cases ho; exact e_mul ra rb
          · cases ho; exact e_fdiv ra rb
          · cases ho; exact e_mod ra rb
          · cases ho; exact e_pow ra rb
          · cases ho
        · cases h
      · obtain ⟨x, h1, rfl⟩ := Option.map_eq_some_iff.mp h
        exact e_neg (ih.e _ _ _ h1 X o)
      · obtain ⟨x, h1, rfl⟩ := Option.map_eq_some_iff.mp h
        exact e_not (ih.e _ _ _ h1 X o)
      · exact pe_one (ih.e _ _ _ h X o)
      · -- and, or
        split at h
        · rename_i x y ha hb
          cases h
          exact e_and (ih.e _ _ _ ha X o) (ih.e _ _ _ hb X o)
        · rename_i x y ha hb
          cases h
          exact e_or (ih.e _ _ _ ha X o) (ih.e _ _ _ hb X o)
        · cases h
      · -- a comparison
        split at h
        · rename_i c1 x y ho ha hb
          split at h
          · cases h
          · rename_i hm
            cases h
            have eo := copOf_ok ho
            subst eo
            exact e_cmp o.cf c1 (ih.e _ _ _ ha X o) (ih.e _ _ _ hb X o) (by simpa using hm)
        · cases h
      · split at h
        · rename_i c1 c2 x y z ho ho' ha hb hc
          split at h
          · cases h
          · rename_i hm
            cases h
            have eo := copOf_ok ho
            have eo' := copOf_ok ho'
            subst eo eo'
            exact e_chain o.cf c1 c2 (ih.e _ _ _ ha X o) (ih.e _ _ _ hb X o) (ih.e _ _ _ hc X o) (by simpa using hm)
        · cases h
      · -- a longer chain
        split at h
        · rename_i x l ha hl
          split at h
          · cases h
          · rename_i hm
            cases h
            exact e_chn (ih.e _ _ _ ha X o) (ih.l _ _ _ _ hl X o) (by simpa using hm)
        · cases h
      · -- a if t else b
        split at h
        · rename_i t x y ht ha hb
          cases h
          exact e_ifx (ih.b _ _ _ ht X o).1 (ih.e _ _ _ ha X o) (ih.e _ _ _ hb X o)
        · cases h
      · obtain ⟨x, h1, rfl⟩ := Option.map_eq_some_iff.mp h
        exact e_tup (ih.es _ _ _ h1 X o).1
      · obtain ⟨x, h1, rfl⟩ := Option.map_eq_some_iff.mp h
        exact e_lst false (ih.es _ _ _ h1 X o).1
      · -- {}
        cases h
        exact e_dcon
      · -- turned round
        split at h
        · rename_i hj
          obtain ⟨x, h1, rfl⟩ := Option.map_eq_some_iff.mp h
          have hj := eq_of_beq hj
          subst hj
          exact e_rev (ih.e _ _ _ h1 X o)
        · cases h
      · -- a slice
        split at h
        · rename_i x l u ha hl hu
          cases h
          exact e_slc (ih.e _ _ _ ha X o) (ih.o _ _ _ hl X o) (ih.o _ _ _ hu X o)
        · cases h
      · -- a subscript
        split at h
        · rename_i hp
          split at h
          · rename_i x y ha hb
            cases h
            exact e_sub' (ih.e _ _ _ ha X o) (ih.e _ _ _ hb X o) (ix_ok hp)
          · cases h
        · cases h
      · -- a call
        rename_i f p0 a as p1
        split at h
        · rename_i hc
          rw [Bool.and_eq_true] at hc
          have hg := hc.1
          rw [← o.sc] at hg
          split at h
          · rename_i hf
            split at h
            · rename_i t pt
              split at h
              · rename_i T x ht ha
                split at h
                · rename_i hi
                  cases h
                  rw [Bool.and_eq_true, Bool.and_eq_true] at hi
                  have hgt := hi.2
                  rw [← o.sc] at hgt
                  obtain ⟨g1, g2, g3⟩ := gls_ok hg
                  obtain ⟨t1, t2, t3⟩ := gls_ok hgt
                  obtain ⟨et, mt⟩ := tyOf_ok ht
                  have hst := hc.2
                  unfold okArgs at hst
                  rw [List.all_cons, Bool.and_eq_true] at hst
                  exact e_isi hf g1 (o.g.blt f hi.1.1) (ih.e _ _ _ ha X o) (pe_bltn t1 (o.g.blt t hi.1.2) (by rw [et]; exact boot_ty T mt) rfl t3 t2) (star_ok hst.1) (star_ok rfl) (star_any hst.2)
                · cases h
              · cases h
            · cases h
          · split at h
            · rename_i hf
              obtain ⟨xs, h1, rfl⟩ := Option.map_eq_some_iff.mp h
              exact e_call o.cf o.f hf hg (ih.es _ _ _ h1 X o).1 hc.2
            · split at h
              · rename_i e hs
                obtain ⟨x, h1, rfl⟩ := Option.map_eq_some_iff.mp h
                unfold setArg at hs
                split at hs
                · split at hs
                  · rename_i hh
                    cases hs
                    obtain ⟨q1, q2, q3, q4, q5, q6⟩ := hh
                    rw [← o.sc] at q5
                    exact e_sortS o.cf o.g q1 q3 hg q2 q4 q5 (ih.e _ _ _ h1 X o) q6
                  · cases hs
                · cases hs
              · split at h
                · rename_i es hs
                  obtain ⟨xs, h1, rfl⟩ := Option.map_eq_some_iff.mp h
                  unfold setDisp at hs
                  split at hs
                  · split at hs
                    · rename_i hh
                      cases hs
                      obtain ⟨q1, q2, q3, q4, q5, q6, q7⟩ := hh
                      obtain ⟨trs, t1, t2⟩ := ih.pd _ _ _ _ q6 q5 q7 h1 X o _
                      obtain ⟨g1, g2, g3⟩ := gls_ok hg
                      have hv := boot_b .sort (mem_bfs .sort) rfl
                      rw [show Str.ofString (bfName .sort) = f from q1.symm] at hv
                      exact sort_display o.cf g1 (o.g.blt f q2) hv g3 g2 t1 t2 q6 q5 q3 q4 (star_ok rfl) rfl
                    · cases hs
                  · cases hs
                · split at h
                  · rename_i b xs hb h1
                    by_cases hm : (if isMath b then c.isM f else c.isB f) = true
                    · rw [if_pos hm] at h
                      cases h
                      exact e_blt o.cf o.g (bfOf_ok hb) hm hg (ih.es _ _ _ h1 X o).1 hc.2
                    · rw [if_neg hm] at h
                      cases h
                  · cases h
        · cases h
      · -- a call by names
        rename_i f p0 as kws p1 _
        split at h
        · rename_i hc
          rw [Bool.and_eq_true, Bool.and_eq_true] at hc
          have hg := hc.1.1
          rw [← o.sc] at hg
          split at h
          · rename_i ns xs ys hn ha hb
            split at h
            · rename_i sh hsh
              cases h
              have hm := List.mem_of_find?_eq_some hsh
              have hp := List.find?_some hsh
              simp only [Bool.and_eq_true, beq_iff_eq] at hp
              obtain ⟨n1, n2, ix⟩ := sh
              obtain ⟨p1, p2⟩ := hp
              subst p2
              refine e_callK o.cf o.f hc.1.2 hg hm hn (ih.es _ _ _ ha X o).1 (ih.ks _ _ _ hb X o) hc.2 (fun e => ?_)
              subst e
              cases n with
              | zero => simp [cEs] at ha
              | succ n =>
                simp only [cEs, Option.some.injEq] at ha
                subst ha
                rfl
            · cases h
          · cases h
        · cases h
      · -- append
        split at h
        · rename_i hc
          rw [Bool.and_eq_true, Bool.and_eq_true] at hc
          have hm := of_decide_eq_true hc.1.1
          split at h
          · rename_i x y ha hb
            cases h
            rw [hm]
            refine e_append (ih.e _ _ _ ha X o) (ih.e _ _ _ hb X o) rfl hc.2 ?_ (star_ok hc.1.2) rfl
            rw [star_ok hc.1.2]
            rfl
          · cases h
        · split at h
          · rename_i hc
            rw [Bool.and_eq_true, Bool.and_eq_true] at hc
            have hm := of_decide_eq_true hc.1.1
            split at h
            · rename_i x y ha hb
              cases h
              rw [hm]
              refine e_extend (ih.e _ _ _ ha X o) (ih.e _ _ _ hb X o) rfl hc.2 ?_ (star_ok hc.1.2) rfl
              rw [star_ok hc.1.2]
              rfl
            · cases h
          · split at h
            · rename_i hc
              rw [Bool.and_eq_true, Bool.and_eq_true] at hc
              have hm := of_decide_eq_true hc.1.1
              split at h
              · rename_i x y ha hb
                cases h
                rw [hm]
                refine e_popi (ih.e _ _ _ ha X o) (ih.e _ _ _ hb X o) rfl hc.2 ?_ (star_ok hc.1.2) rfl
                rw [star_ok hc.1.2]
                rfl
              · cases h
            · cases h
      · -- a dict asked
        split at h
        · rename_i hc
          rw [Bool.and_eq_true, Bool.and_eq_true, Bool.and_eq_true] at hc
          have hm := of_decide_eq_true hc.1.1.1
          split at h
          · rename_i x y z ha hb he
            cases h
            rw [hm]
            refine e_dget o.cf (ih.e _ _ _ ha X o) (ih.e _ _ _ hb X o) (ih.e _ _ _ he X o) ⟨rfl, ?_, hc.2, ?_⟩
            · rw [star_ok hc.1.1.2, star_ok hc.1.2]; rfl
            · rw [star_ok hc.1.1.2, star_ok hc.1.2]; rfl
          · cases h
        · cases h
      · -- a display asked at once
        split at h
        · rename_i hc
          rw [Bool.and_eq_true, Bool.and_eq_true, Bool.and_eq_true] at hc
          have hm := of_decide_eq_true hc.1.1.1
          split at h
          · rename_i ks x y hk ha hb
            split at h
            · rename_i ho
              cases h
              unfold okKs at ho
              rw [Bool.and_eq_true, Bool.and_eq_true, Bool.and_eq_true, Bool.not_eq_true'] at ho
              rw [hm]
              refine e_dgt hk (fun e => by rw [e] at ho; cases ho.1.1.1) (of_decide_eq_true ho.1.1.2) (fun k hk => of_decide_eq_true (List.all_eq_true.mp ho.1.2 k hk)) (of_decide_eq_true ho.2) (by have := o.cf.room.un; omega) (ih.e _ _ _ ha X o) (ih.e _ _ _ hb X o) ⟨rfl, ?_, hc.2, ?_⟩
              · rw [star_ok hc.1.1.2, star_ok hc.1.2]; rfl
              · rw [star_ok hc.1.1.2, star_ok hc.1.2]; rfl
            · cases h
          · rename_i x y hk ha hb
            split at h
            · rename_i is xs hi hv
              split at h
              · rename_i ho
                cases h
                unfold okIk at ho
                simp only [Bool.and_eq_true, Bool.not_eq_true', decide_eq_true_eq] at ho
                rw [hm]
                obtain ⟨trs, t1, t2, t3, t4⟩ := ih.ps _ _ _ _ _ hi ho.1.2 hv X o _
                refine e_dget o.cf (e_ddsp t1 t2 t3 ho.1.2 (fun e => by rw [e] at ho; cases ho.1.1.1) ho.1.1.2 t4 ho.2) (ih.e _ _ _ ha X o) (ih.e _ _ _ hb X o) ⟨rfl, ?_, hc.2, ?_⟩
                · rw [star_ok hc.1.1.2, star_ok hc.1.2]; rfl
                · rw [star_ok hc.1.1.2, star_ok hc.1.2]; rfl
              · cases h
            · cases h
          · cases h
        · cases h
      · -- a comprehension
        rename_i elt tg iter ifs scope p0
        split at h
        · rename_i it one own is hi ht
          split at h
          · rename_i hb
            rw [Bool.and_eq_true] at hb
            split at h
            · rename_i t x h1 h2
              cases h
              have hbk := hb.1
              rw [← o.n, ← o.sc] at hbk
              refine e_comp WOk.never o.cf.calm o.cf.nd (ih.i _ _ _ _ hi X o) (blkOk_by hbk) (fun s H Ca cl fp => ?_) (fun s H Ca cl fp => ih.f _ _ _ h1 _ (o.blk s H _ Ca cl fp)) (fun s H Ca cl fp => ih.e _ _ _ h2 _ (o.blk s H _ Ca cl fp)) (fold_ok hb.2)
              refine gc_of ht o.n o.cf.nd o.cf.calm fun x hx => ?_
              have e1 : (X.blk s H scope (compEnvC scope cl Ca X.env) fp).env.scope = relS scope X.env.scope := rfl
              refine ⟨?_, ?_⟩
              · unfold L2.Loc
                rw [e1, relS_vars hx]; exact hx
              · rcases hx with hx | hx
                · exact .inr (by rw [e1, relS_vars (.inl hx)]; exact hx)
                · refine .inl ?_
                  show (List.lookup x scope.names == some NameKind.cell) = true
                  rw [hx]; rfl
            · cases h
          · cases h
        · cases h
      · cases h
    · -- a test
      unfold cB at h
      split at h
      · have r := (ih.b _ _ _ h X o).1
        rename_i op a p
        cases op with
        | And => exact ⟨(b_one_and r).pt, fun op es p e => by cases e; exact b_one_and r⟩
        | Or => exact ⟨(b_one_or r).pt, fun op es p e => by cases e; exact b_one_or r⟩
      · split at h
        · rename_i x y ha hb
          cases h
          have r := b_and (ih.b _ _ _ ha X o).1 ((ih.b _ _ _ hb X o).2 _ _ _ rfl)
          exact ⟨r.pt, fun op es p e => by cases e; exact r⟩
        · rename_i x y ha hb
          cases h
          have r := b_or (ih.b _ _ _ ha X o).1 ((ih.b _ _ _ hb X o).2 _ _ _ rfl)
          exact ⟨r.pt, fun op es p e => by cases e; exact r⟩
        · cases h
      · obtain ⟨x, h1, rfl⟩ := Option.map_eq_some_iff.mp h
        exact ⟨b_not (ih.b _ _ _ h1 X o).1, fun op es p e => by cases e⟩
      · split at h
        · rename_i c1 x y ho ha hb
          split at h
          · cases h
          · rename_i hm
            cases h
            have eo := copOf_ok ho
            subst eo
            exact ⟨b_cmp o.cf c1 (ih.e _ _ _ ha X o) (ih.e _ _ _ hb X o) (by simpa using hm), fun op es p e => by cases e⟩
        · cases h
      · split at h
        · rename_i c1 c2 x y z ho ho' ha hb hc
          split at h
          · cases h
          · rename_i hm
            cases h
            have eo := copOf_ok ho
            have eo' := copOf_ok ho'
            subst eo eo'
            exact ⟨b_chain o.cf c1 c2 (ih.e _ _ _ ha X o) (ih.e _ _ _ hb X o) (ih.e _ _ _ hc X o) (by simpa using hm), fun op es p e => by cases e⟩
        · cases h
      · -- a longer chain
        split at h
        · rename_i x l ha hl
          split at h
          · cases h
          · rename_i hm
            cases h
            exact ⟨b_chn (ih.e _ _ _ ha X o) (ih.l _ _ _ _ hl X o) (by simpa using hm), fun op es p e => by cases e⟩
        · cases h
      · split at h
        · rename_i hp
          obtain ⟨x, h1, rfl⟩ := Option.map_eq_some_iff.mp h
          exact ⟨b_val (ih.e _ _ _ h1 X o) (test_ok hp), fun op es p e => by subst e; cases hp⟩
        · cases h
    · -- a list of expressions
      unfold cEs at h
      split at h
      · cases h; exact ⟨l_nil, rfl⟩
      · split at h
        · rename_i hs
          split at h
          · rename_i x xs ha hb
            cases h
            obtain ⟨r1, r2⟩ := ih.es _ _ _ hb X o
            exact ⟨l_cons (ih.e _ _ _ ha X o) r1 (star_ok hs), by rw [List.all_cons, hs, r2]; rfl⟩
          · cases h
        · cases h
    · cases kws with
      | nil =>
        simp only [kwVals, cEs, Option.some.injEq] at h
        subst h
        exact k_nil
      | cons a r =>
        obtain ⟨nm, e, kp⟩ := a
        simp only [kwVals] at h
        unfold cEs at h
        split at h
        · rename_i e1; cases e1
        · rename_i e' es' e1
          injection e1 with e2 e3
          subst e2
          subst e3
          split at h
          · split at h
            · rename_i x xs ha hb
              cases h
              exact k_cons (ih.e _ _ _ ha X o) (ih.ks _ _ _ hb X o)
            · cases h
          · cases h
    · -- pairs of a display
      cases values with
      | nil =>
        simp only [cEs, Option.some.injEq] at h
        subst h
        cases keys with
        | nil => cases h1; exact ⟨[], pps_nil, pr_nil, rfl, rfl⟩
        | cons _ _ => cases h2
      | cons v vs =>
        cases keys with
        | nil => cases h2
        | cons kx ks =>
          simp only [List.length_cons, Nat.add_right_cancel_iff] at h2
          unfold cEs at h
          split at h
          · rename_i e1; cases e1
          · rename_i e' es' e1
            injection e1 with e2 e3
            subst e2
            subst e3
            split at h
            · split at h
              · rename_i x xs ha hb
                cases h
                have key : ∃ (i : Int) (r : List Int), litIk ks = some r ∧ is = i :: r ∧ ∃ ke, kx = some ke ∧ PE X ke (tC (.int i)) := by
                  unfold litIk at h1
                  split at h1
                  · rename_i e1; cases e1
                  · rename_i i a1 a2 ks' e1
                    injection e1 with e2 e3
                    subst e3
                    obtain ⟨r, h9, rfl⟩ := Option.map_eq_some_iff.mp h1
                    exact ⟨i, r, h9, rfl, _, e2, pe_int⟩
                  · rename_i i a1 a2 a3 ks' e1
                    injection e1 with e2 e3
                    subst e3
                    obtain ⟨r, h9, rfl⟩ := Option.map_eq_some_iff.mp h1
                    exact ⟨-i, r, h9, rfl, _, e2, PE.by (pe_un un_neg pe_int) fun σ H Q q => ⟨i, rfl, q⟩⟩
                  · cases h1
                obtain ⟨i, r, hr, rfl, ke, rfl, hk⟩ := key
                obtain ⟨trs, t1, t2, t3, t4⟩ := ih.ps _ _ _ _ _ hr h2 hb X o pos
                exact ⟨_, pps_cons hk (ih.e _ _ _ ha X o) t1, pr_cons t2, by rw [List.all_cons, t3]; rfl, by rw [List.length_cons, List.length_cons, t4]⟩
              · cases h
            · cases h
    · -- pairs whose values are True
      cases values with
      | nil =>
        cases keys with
        | nil =>
          rw [List.filterMap_nil] at h
          unfold cEs at h
          cases h
          exact ⟨[], pps_nil, pd_nil⟩
        | cons _ _ => cases h2
      | cons v vs =>
        cases keys with
        | nil => cases h2
        | cons kx ks =>
          simp only [List.length_cons, Nat.add_right_cancel_iff] at h2
          cases kx with
          | none => rw [List.all_cons] at h1; cases h1
          | some ke =>
            rw [List.all_cons, Bool.and_eq_true] at h1 h3
            rw [show (some ke :: ks).filterMap id = ke :: ks.filterMap id from rfl] at h
            unfold cEs at h
            split at h
            · rename_i e1; cases e1
            · rename_i e' es' e1
              injection e1 with e2 e3
              subst e2
              subst e3
              split at h
              · split at h
                · rename_i x xs ha hb
                  cases h
                  have hv : PE X v (tC (.bl true)) := by
                    have h4 := h3.1
                    split at h4
                    · exact pe_bl
                    · cases h4
                  obtain ⟨trs, t1, t2⟩ := ih.pd _ _ _ _ h1.2 h2 h3.2 hb X o pos
                  exact ⟨_, pps_cons (ih.e _ _ _ ha X o) hv t1, pd_cons t2⟩
                · cases h
              · cases h
    · -- a chain's links
      unfold cL at h
      split at h
      · split at h
        · rename_i o1 y ho hb
          cases h
          have eo := copOf_ok ho
          subst eo
          exact ch_last o.cf o1 (ih.e _ _ _ hb X o)
        · cases h
      · split at h
        · rename_i o1 y l ho hb hl
          cases h
          have eo := copOf_ok ho
          subst eo
          exact ch_link o.cf o1 (ih.e _ _ _ hb X o) (ih.l _ _ _ _ hl X o)
        · cases h
      · cases h
    · unfold cO at h
      split at h
      · cases h; exact o_none
      · obtain ⟨x, h1, rfl⟩ := Option.map_eq_some_iff.mp h
        exact o_some (ih.e _ _ _ h1 X o)
    · unfold cIf at h
      split at h
      · cases h; exact t_yes
      · exact pts_one (ih.b _ _ _ h X o).1
      · cases h
    · -- what is walked
      unfold cI at h
      split at h
      · split at h
        · rename_i hc
          simp only [Bool.and_eq_true, beq_iff_eq] at hc
          have hg := hc.1.1.1
          rw [← o.sc] at hg
          obtain ⟨g1, g2, g3⟩ := gls_ok hg
          obtain ⟨x, h1, rfl⟩ := Option.map_eq_some_iff.mp h
          exact i_rng1 hc.2 g1 (o.g.blt _ hc.1.2) (ih.e _ _ _ h1 X o) (star_ok hc.1.1.2) (star_ok hc.1.1.2)
        · split at h
          · rename_i hc
            simp only [Bool.and_eq_true, beq_iff_eq] at hc
            have hg := hc.1.1.1
            rw [← o.sc] at hg
            obtain ⟨g1, g2, g3⟩ := gls_ok hg
            split at h
            · obtain ⟨x, h1, rfl⟩ := Option.map_eq_some_iff.mp h
              exact i_enum hc.2 g1 (o.g.blt _ hc.1.2) (ih.e _ _ _ h1 X o) (star_ok hc.1.1.2) (star_ok hc.1.1.2)
            · cases h
          · obtain ⟨x, h1, rfl⟩ := Option.map_eq_some_iff.mp h
            exact i_seq (ih.e _ _ _ h1 X o)
      · split at h
        · rename_i hc
          simp only [Bool.and_eq_true, beq_iff_eq] at hc
          have hg := hc.1.1.1.1
          rw [← o.sc] at hg
          obtain ⟨g1, g2, g3⟩ := gls_ok hg
          have sa := hc.1.1.1.2
          have sb := hc.1.1.2
          split at h
          · rename_i x y h1 h2
            cases h
            exact i_rng2 hc.2 g1 (o.g.blt _ hc.1.2) (ih.e _ _ _ h1 X o) (ih.e _ _ _ h2 X o) (by rw [star_ok sa, star_ok sb]; rfl) (star_ok sb) (star_ok sa) (star_ok sb)
          · cases h
        · split at h
          · rename_i hc
            simp only [Bool.and_eq_true, beq_iff_eq] at hc
            have hg := hc.1.1.1.1
            rw [← o.sc] at hg
            obtain ⟨g1, g2, g3⟩ := gls_ok hg
            have sa := hc.1.1.1.2
            have sb := hc.1.1.2
            split at h
            · split at h
              · rename_i x y h1 h2
                cases h
                exact i_zip hc.2 g1 (o.g.blt _ hc.1.2) (ih.e _ _ _ h1 X o) (ih.e _ _ _ h2 X o) (star_ok sa) (star_ok sb) (star_any (by rw [List.all_cons, sb]; rfl))
              · cases h
            · cases h
          · obtain ⟨x, h1, rfl⟩ := Option.map_eq_some_iff.mp h
            exact i_seq (ih.e _ _ _ h1 X o)
      · split at h
        · rename_i hc
          simp only [Bool.and_eq_true, beq_iff_eq] at hc
          have hg := hc.1.1.1.1.1
          rw [← o.sc] at hg
          obtain ⟨g1, g2, g3⟩ := gls_ok hg
          have sa := hc.1.1.1.1.2
          have sb := hc.1.1.1.2
          have hj := hc.2
          subst hj
          split at h
          · rename_i x y h1 h2
            cases h
            exact i_rngD hc.1.2 g1 (o.g.blt _ hc.1.1.2) (ih.e _ _ _ h1 X o) (ih.e _ _ _ h2 X o) (fun _ => star_ok sa) (fun _ => star_ok sb) (star_any (by rw [List.all_cons, sb]; rfl))
          · cases h
        · obtain ⟨x, h1, rfl⟩ := Option.map_eq_some_iff.mp h
          exact i_seq (ih.e _ _ _ h1 X o)
      · obtain ⟨x, h1, rfl⟩ := Option.map_eq_some_iff.mp h
        exact i_seq (ih.e _ _ _ h1 X o)
end
end Py

set_option Elab.async false
set_option linter.all false
set_option maxRecDepth 100000
set_option maxHeartbeats 8000000
/-! Statements, defs, the law. -/
namespace Py
open PySem PySem.Spec PyProof.Rows L2

/-- places of names in the frame, for stores -/
def slotL (N : List Str) (sc : Scope) (x : Str) : Option Nat := match sc.names.lookup x with
  | some .local => ixOf N x
  | some .cell => ixOf N x
  | _ => none
theorem slotL_ok {N : List Str} {sc : Scope} {x : Str} {i : Nat} (h : slotL N sc x = some i) : N[i]? = some x ∧ (sc.names.lookup x = some .local ∨ sc.names.lookup x = some .cell) := by
  unfold slotL at h
  split at h
  · exact ⟨ixOf_ok h, .inl (by assumption)⟩
  · exact ⟨ixOf_ok h, .inr (by assumption)⟩
  · cases h
/-- a list display that becomes a changing list -/
def cEk (c : CI) (N : List Str) (n : Nat) (sc : Scope) (kp : Bool) (e : Expr) : Option IE := match e with
  | .List es p => if kp then (cEs c N n sc es).map (.lst true) else cE c N n sc (.List es p)
  | .BinOp a .Add b p => if kp then match cE c N n sc a, cE c N n sc b with
    | some x, some y => some (.addl x y)
    | _, _ => none
    else cE c N n sc (.BinOp a .Add b p)
  | .Call (.Name f p0) [a] [] p => if kp && gls sc f && noStar a && c.isB f && f == Str.ofString "list" then (cE c N n sc a).map .lcopy else cE c N n sc (.Call (.Name f p0) [a] [] p)
  | .Dict [] [] p => if kp then some .dnew else cE c N n sc (.Dict [] [] p)
  | .BinOp a .Mult b p => if kp then match a with
    | .List .. => match cE c N n sc a, cE c N n sc b with
      | some x, some y => some (.mull x y)
      | _, _ => none
    | _ => cE c N n sc (.BinOp a .Mult b p)
    else cE c N n sc (.BinOp a .Mult b p)
  | e => cE c N n sc e
mutual
def cT (c : CI) (N : List Str) : Nat → Scope → Expr → Option IT
  | 0, _, _ => none
  | n + 1, sc, e => match e with
    | .Name x _ => (slotL N sc x).map .name
    | .Tuple es _ _ => (cTs c N n sc es).map .tup
    | .Subscript a i _ => if plainIx i then match cE c N n sc a, cE c N n sc i with
      | some x, some y => some (.sub x y)
      | _, _ => none
      else none
    | _ => none
def cTs (c : CI) (N : List Str) : Nat → Scope → List Expr → Option ITs
  | 0, _, _ => none
  | n + 1, sc, es => match es with
    | [] => some .nil
    | e :: es => if noStar e then match cT c N n sc e, cTs c N n sc es with
      | some t, some ts => some (.cons t ts)
      | _, _ => none
      else none
end
def nameOf : Expr → Option Str
  | .Name x _ => some x
  | _ => none
def mutN (M : List Str) (e : Expr) : Bool := match nameOf e with
  | some x => M.contains x
  | none => false
/-- whether [..] is stored within its own block -/
def swC (sc scope : Scope) (t : Str) (tl vl : Nat) : Bool := sc.names.lookup t == some .local && tl == vl && !(scope.names.any fun (n, k) => n == t && (k == .local || k == .cell))
mutual
/-- a statement; M: names of changing lists; kp: a display handed back is one -/
def cS (c : CI) (N : List Str) (M : List Str) (kp : Bool) : Nat → Scope → Stmt → Option IS
  | 0, _, _ => none
  | n + 1, sc, s => match s with
    | .Expr e _ => if noComp e then (cE c N n sc e).map .expr else none
    | .Assign [.Tuple ts kt pt] (.Tuple vs k2 p2) _ => match sst sc ts vs with
      | some none => if noStar (.Tuple ts kt pt) then match cT c N n sc (.Tuple ts kt pt), cE c N n sc (.Tuple vs k2 p2) with
        | some t, some e => some (.asg t e)
        | _, _ => none
        else none
      | some (some nm) => match ts, vs with
        | [.Name x _, .Name y _], [a, b] => if noStar a && noStar b && decide (nm = [x, y]) then match slotL N sc x, slotL N sc y, cEk c N n sc (M.contains x) a, cEk c N n sc (M.contains y) b with
          | some i, some j, some a, some b => if sc.names.lookup x == some .local && sc.names.lookup y == some .local && !(i == j) then some (.par i j a b) else none
          | _, _, _, _ => none
          else none
        | [.Name x _, .Name y _, .Name z _], [a, b, d] => if noStar a && noStar b && noStar d && decide (nm = [x, y, z]) then match slotL N sc x, slotL N sc y, slotL N sc z, cEk c N n sc (M.contains x) a, cEk c N n sc (M.contains y) b, cEk c N n sc (M.contains z) d with
          | some i, some j, some l, some a, some b, some d => if sc.names.lookup x == some .local && sc.names.lookup y == some .local && sc.names.lookup z == some .local && !(i == j) && !(i == l) && !(j == l) then some (.par3 i j l a b d) else none
          | _, _, _, _, _, _ => none
          else none
        | _, _ => none
      | none => none
    | .Assign [.Name x px] (.ListComp elt [⟨tg, iter, ifs, 0⟩] scope p) _ => match slotL N sc x, cE c N n sc (.ListComp elt [⟨tg, iter, ifs, 0⟩] scope p) with
      | some i, some e => some (.asg (.name i) e)
      | _, _ => none
    | .Assign [.Tuple ts kt pt] (.ListComp elt gs scope p) _ => match cT c N n sc (.Tuple ts kt pt), cE c N n sc (.ListComp elt gs scope p) with
      | some t, some e => some (.asg t e)
      | _, _ => none
    | .Assign [t] e _ => if noStar t && noComp e && (noTup t || noTup e) then match cT c N n sc t, cEk c N n sc (mutN M t) e with
      | some t, some e => some (.asg t e)
      | _, _ => none
      else none
    | .If t a b _ => match cB c N n sc t, cSs c N M kp n sc a, cSs c N M kp n sc b with
      | some t, some a, some b => some (.iff t a b)
      | _, _, _ => none
    | .While t a [] _ => match cB c N n sc t, cSs c N M kp n sc a with
      | some t, some a => some (.whl t a)
      | _, _ => none
    | .For t e a [] _ => if plainIt e then match cT c N n sc t, cI c N n sc e t, cSs c N M kp n sc a with
      | some t, some e, some a => some (.forr t e a)
      | _, _, _ => none
      else none
    | .Return (some e) _ => (cEk c N n sc kp e).map .ret
    | .Return none _ => some .retn
    | .Pass _ => some .pass
    | .Break _ => some .brk
    | .Continue _ => some .cnt
    | .Raise .. => some .never
    | _ => none
def cSs (c : CI) (N : List Str) (M : List Str) (kp : Bool) : Nat → Scope → List Stmt → Option ISs
  | 0, _, _ => none
  | n + 1, sc, ss => match ss with
    | [] => some .nil
    | s :: ss => match cS c N M kp n sc s, cSs c N M kp n sc ss with
      | some s, some ss => some (.cons s ss)
      | _, _ => none
end
section
variable {c : CI} {C : Str → List D → Store → Res D} {G : Str → Option D} {k : Nat} {N M : List Str} {kp : Bool}
theorem cEk_ok {n : Nat} {sc : Scope} {b : Bool} {e : Expr} {ie : IE} (h : cEk c N n sc b e = some ie) {X : Cx} (o : Ok c C G k X N sc) : PE X e (tI X.K W0 (evE C G ie)) := by
  unfold cEk at h
  split at h
  · split at h
    · obtain ⟨x, h1, rfl⟩ := Option.map_eq_some_iff.mp h
      exact e_lst true ((c_ok n).es _ _ _ h1 X o).1
    · exact (c_ok n).e _ _ _ h X o
  · split at h
    · split at h
      · rename_i x y h1 h2
        cases h
        exact e_addl ((c_ok n).e _ _ _ h1 X o) ((c_ok n).e _ _ _ h2 X o)
      · cases h
    · exact (c_ok n).e _ _ _ h X o
  · split at h
    · rename_i hc
      simp only [Bool.and_eq_true, beq_iff_eq] at hc
      obtain ⟨x, h1, rfl⟩ := Option.map_eq_some_iff.mp h
      exact e_lcopy o.cf o.g hc.2 hc.1.2 (by rw [o.sc]; exact hc.1.1.1.2) ((c_ok n).e _ _ _ h1 X o) hc.1.1.2
    · exact (c_ok n).e _ _ _ h X o
  · split at h
    · cases h
      exact e_dnew
    · exact (c_ok n).e _ _ _ h X o
  · split at h
    · split at h
      · split at h
        · rename_i x y h1 h2
          cases h
          exact e_mull ((c_ok n).e _ _ _ h1 X o) ((c_ok n).e _ _ _ h2 X o)
        · cases h
      · exact (c_ok n).e _ _ _ h X o
    · exact (c_ok n).e _ _ _ h X o
  · exact (c_ok n).e _ _ _ h X o
structure OkS (c : CI) (C : Str → List D → Store → Res D) (G : Str → Option D) (k : Nat) (X : Cx) (N : List Str) (sc : Scope) : Prop where
  o : Ok c C G k X N sc
  fn : ∀ x, X.fn x = true
  hp : PassesOwn (model X.prog X.w) X.A X.env X.xe
  kd : sc.kind = .function
theorem evTs_eq (ts : ITs) (ds : List D) (η : Sl) (S : Store) : True := trivial
theorem cT_ok {X : Cx} : ∀ n, (∀ sc e it, cT c N n sc e = some it → OkS c C G k X N sc → PG X e (tG X.K W0 (evT C G it))) ∧
    (∀ sc es its, cTs c N n sc es = some its → OkS c C G k X N sc → PGs X es (tGs X.K W0 (fun ds η S => evTs C G its ds η S)) ∧ es.all noStar = true ∧ es.length = its.len) := by
  intro n
  induction n with
  | zero => exact ⟨fun _ _ _ h => by simp [cT] at h, fun _ _ _ h => by simp [cTs] at h⟩
  | succ n ih =>
    refine ⟨fun sc e it h o => ?_, fun sc es its h o => ?_⟩
    · unfold cT at h
      split at h
      · obtain ⟨i, h1, rfl⟩ := Option.map_eq_some_iff.mp h
        obtain ⟨h2, h3⟩ := slotL_ok h1
        exact g_name o.o.cf.nd (by rw [o.o.n]; exact h2) (by unfold L2.Loc; rw [o.o.sc]; exact h3) (.inl (o.fn _))
      · obtain ⟨ts, h1, rfl⟩ := Option.map_eq_some_iff.mp h
        obtain ⟨r1, r2, r3⟩ := ih.2 _ _ _ h1 o
        obtain ⟨a1, a2⟩ := asgL_ok (env := X.env) r2
        exact g_tup o.o.cf.calm r1 (by rw [a1, r3]) a2
      · split at h
        · rename_i hp
          split at h
          · rename_i x y ha hb
            cases h
            exact g_sub o.o.cf ((c_ok n).e _ _ _ ha X o.o) ((c_ok n).e _ _ _ hb X o.o) (asub_ok hp)
          · cases h
        · cases h
      · cases h
    · unfold cTs at h
      split at h
      · cases h
        refine ⟨PGs.by (gs_nil (W := W0)) fun v σ H Q q => ?_, rfl, rfl⟩
        obtain ⟨p, η, S, ds, re, rs, rv, q⟩ := q
        refine ⟨p, η, S, ds, re, rs, rv, ?_⟩
        cases ds with
        | nil => exact q
        | cons _ _ => exact q
      · split at h
        · rename_i hs
          split at h
          · rename_i t ts h1 h2
            cases h
            obtain ⟨r1, r2, r3⟩ := ih.2 _ _ _ h2 o
            refine ⟨PGs.by (gs_cons (ih.1 _ _ _ h1 o) r1 (asgC_ok hs)) fun v σ H Q q => ?_, by rw [List.all_cons, hs, r2]; rfl, by rw [List.length_cons, r3]; rfl⟩
            obtain ⟨p, η, S, ds, re, rs, rv, q⟩ := q
            refine ⟨p, η, S, ds, re, rs, rv, ?_⟩
            cases ds with
            | nil => exact q
            | cons _ _ => exact q
          · cases h
        · cases h
theorem sw_comp {X : Cx} {sc : Scope} (hs : X.env.scope = sc) (hk : sc.kind = .function) {elt : Expr} {gs : List Comprehension} {scope : Scope} {p px : Pos} {x : Str} {l : Nat} :
    swapsWith (.ListComp elt gs scope p) (some (.Name x px)) l X.env = pure (swC sc scope x px.line p.line) := by
  have ky : X.env.kindOf x = sc.names.lookup x := by rw [← hs]; rfl
  have hb : X.env.blockKind = .function := by unfold Env.blockKind; rw [hs, hk]; rfl
  unfold swapsWith swC
  simp only [hb, ky, Expr.pos]
  rfl
theorem s_par3 {X : Cx} {W : XD} {a b d : Expr} {fa fb fd : Sl → Store → Res D} {i j l : Nat} {x y z : Str} {px py pz pt pos : Pos} {kt k2 pt2} (hc : X.calm = true) (hN : X.N.Nodup) (hi : X.N[i]? = some x) (hj : X.N[j]? = some y) (hl : X.N[l]? = some z) (hij : i ≠ j) (hil : i ≠ l) (hjl : j ≠ l)
    (hx : X.env.scope.names.lookup x = some .local) (hy : X.env.scope.names.lookup y = some .local) (hz : X.env.scope.names.lookup z = some .local) (ha : PE X a (tI X.K W fa)) (hb : PE X b (tI X.K W fb)) (hd : PE X d (tI X.K W fd))
    (hs1 : starEach [a, b, d] X.env = (false, eval a X.env) :: starEach [b, d] X.env) (hs2 : starEach [b, d] X.env = (false, eval b X.env) :: starEach [d] X.env) (hs3 : starEach [d] X.env = (false, eval d X.env) :: starEach [] X.env)
    (hw : swappedStores [.Tuple [.Name x px, .Name y py, .Name z pz] kt pt] (.Tuple [a, b, d] k2 pt2) X.env = pure (some [x, y, z]))
    (hs : swapsWithSole [.Tuple [.Name x px, .Name y py, .Name z pz] kt pt] (.Tuple [a, b, d] k2 pt2) pos.line X.env = pure false) :
    PS X (.Assign [.Tuple [.Name x px, .Name y py, .Name z pz] kt pt] (.Tuple [a, b, d] k2 pt2) pos) (tS X.K W fun η S => (fa η S).bind fun x S => (fb η S).bind fun y S => (fd η S).bind fun z S => .ok (.nx (((η.set i (some x)).set j (some y)).set l (some z))) S) := by
  refine PS.by (L2.ps_par3 hc hN hi hj hl hij hil hjl hx hy hz (pa_cons ha (pa_cons hb (pa_cons hd pa_nil hs3) hs2) hs1) hw hs) fun D σ H h => ?_
  obtain ⟨p, η, S, re, rs, h⟩ := h
  refine tI_of re rs h fun p1 H1 d S1 v e1 re1 rs1 rv h1 => ?_
  refine tI_of re1 rs1 h1 fun p2 H2 e S2 u e2 re2 rs2 ru h2 => ?_
  refine tI_of re2 rs2 h2 fun p3 H3 f S3 w e3 re3 rs3 rw' h3 => ?_
  exact ⟨v, u, w, rfl, Good.here (a := Fl.nx _) h3 rs3 _ (((re3.set ((rv.ext e2).ext e3) i).set (ru.ext e3) j).set rw' l)⟩
theorem comp_parts {X : Cx} {n : Nat} {sc : Scope} {elt tg iter : Expr} {ifs : List Expr} {scope : Scope} {p : Pos} {e : IE} (h : cE c N n sc (.ListComp elt [⟨tg, iter, ifs, 0⟩] scope p) = some e) (o : Ok c C G k X N sc) :
    ∃ it one own is t x, e = .comp (own.map (·.2)) one is it t x ∧ PI X tg iter (tW X.K W0 (evI C G it)) ∧ BlkOk X.N X.env.scope scope own ∧
      (∀ (s : Shared) (H : Hp) (Ca : Addr) (cl : List (Str × Addr)) (fp : List Addr), PG (X.blk s H scope (compEnvC scope cl Ca X.env) fp) tg (gC X.K one is)) ∧
      (∀ (s : Shared) (H : Hp) (Ca : Addr) (cl : List (Str × Addr)) (fp : List Addr), PTs (X.blk s H scope (compEnvC scope cl Ca X.env) fp) ifs (tT X.K W0 (evB C G t))) ∧
      (∀ (s : Shared) (H : Hp) (Ca : Addr) (cl : List (Str × Addr)) (fp : List Addr), PE (X.blk s H scope (compEnvC scope cl Ca X.env) fp) elt (tI X.K W0 (evE C G x))) ∧ (∀ x, foldedSetIterable iter X.env x = pure x) := by
  cases n with
  | zero => simp [cE] at h
  | succ n =>
    have ih := c_ok (c := c) (C := C) (G := G) (k := k) (N := N) n
    have h : (match cI c N n sc iter tg, tgC N scope tg with
      | some it, some (one, own, is) =>
        if blkC N sc scope own && plainIt iter then match cIf c N n (relS scope sc) ifs, cE c N n (relS scope sc) elt with
          | some t, some x => some (.comp (own.map (·.2)) one is it t x)
          | _, _ => none
        else none
      | _, _ => none) = some e := h
    split at h
    · rename_i it one own is hi ht
      split at h
      · rename_i hb
        rw [Bool.and_eq_true] at hb
        split at h
        · rename_i t x h1 h2
          cases h
          have hbk := hb.1
          rw [← o.n, ← o.sc] at hbk
          refine ⟨it, one, own, is, t, x, rfl, ih.i _ _ _ _ hi X o, blkOk_by hbk, fun s H Ca cl fp => ?_, fun s H Ca cl fp => ih.f _ _ _ h1 _ (o.blk s H _ Ca cl fp), fun s H Ca cl fp => ih.e _ _ _ h2 _ (o.blk s H _ Ca cl fp), fold_ok hb.2⟩
          refine gc_of ht o.n o.cf.nd o.cf.calm fun x hx => ?_
          have e1 : (X.blk s H scope (compEnvC scope cl Ca X.env) fp).env.scope = relS scope X.env.scope := rfl
          refine ⟨?_, ?_⟩
          · unfold L2.Loc
            rw [e1, relS_vars hx]; exact hx
          · rcases hx with hx | hx
            · exact .inr (by rw [e1, relS_vars (.inl hx)]; exact hx)
            · refine .inl ?_
              show (List.lookup x scope.names == some NameKind.cell) = true
              rw [hx]; rfl
        · cases h
      · cases h
    · cases h
theorem cS_ok {X : Cx} : ∀ n, (∀ sc s is, cS c N M kp n sc s = some is → OkS c C G k X N sc → PS X s (tS X.K W0 (evS C G is))) ∧
    (∀ sc ss iss, cSs c N M kp n sc ss = some iss → OkS c C G k X N sc → PSs X ss (tS X.K W0 (evSs C G iss))) := by
  intro n
  induction n with
  | zero => exact ⟨fun _ _ _ h => by simp [cS] at h, fun _ _ _ h => by simp [cSs] at h⟩
  | succ n ih =>
    refine ⟨fun sc s is h o => ?_, fun sc ss iss h o => ?_⟩
    · have ce := fun e ie (h : cE c N n sc e = some ie) => (c_ok (C := C) (G := G) (k := k) n).e sc e ie h X o.o
      unfold cS at h
      split at h
      · split at h
        · rename_i hn
          obtain ⟨x, h1, rfl⟩ := Option.map_eq_some_iff.mp h
          exact s_expr (ce _ _ h1) (sw_ok hn)
        · cases h
      · -- a tuple of targets, a tuple of values
        rename_i ts kt pt vs k2 p2 p3
        split at h
        · rename_i hsst
          split at h
          · rename_i hn
            split at h
            · rename_i t e h1 h2
              cases h
              refine s_asg (ce _ _ h2) ((cT_ok n).1 _ _ _ h1 o) (swS_ok rfl) ?_ (asg1_ok hn)
              exact sst_is (by rw [o.o.sc]; exact o.kd) (by rw [o.o.sc]; exact hsst)
            · cases h
          · cases h
        · rename_i nm hsst
          have hw := sst_is (env := X.env) (a := kt) (b := k2) (p := pt) (q := p2) (by rw [o.o.sc]; exact o.kd) (by rw [o.o.sc]; exact hsst)
          split at h
          · rename_i x px y py a b
            split at h
            · rename_i hc
              simp only [Bool.and_eq_true, decide_eq_true_eq] at hc
              split at h
              · rename_i i j ea eb h1 h2 h3 h4
                split at h
                · rename_i hl
                  simp only [Bool.and_eq_true, beq_iff_eq, Bool.not_eq_true', beq_eq_false_iff_ne, ne_eq] at hl
                  cases h
                  rw [hc.2] at hw
                  exact s_par o.o.cf.calm o.o.cf.nd (by rw [o.o.n]; exact (slotL_ok h1).1) (by rw [o.o.n]; exact (slotL_ok h2).1) hl.2 (by rw [o.o.sc]; exact hl.1.1) (by rw [o.o.sc]; exact hl.1.2) (cEk_ok h3 o.o) (cEk_ok h4 o.o)
                    (star_ok hc.1.1) (star_ok hc.1.2) hw (swS_ok rfl)
                · cases h
              · cases h
            · cases h
          · rename_i x px y py z pz a b d
            split at h
            · rename_i hc
              simp only [Bool.and_eq_true, decide_eq_true_eq] at hc
              split at h
              · rename_i i j l ea eb ed h1 h2 h3 h4 h5 h6
                split at h
                · rename_i hl
                  simp only [Bool.and_eq_true, beq_iff_eq, Bool.not_eq_true', beq_eq_false_iff_ne, ne_eq] at hl
                  cases h
                  rw [hc.2] at hw
                  exact s_par3 o.o.cf.calm o.o.cf.nd (by rw [o.o.n]; exact (slotL_ok h1).1) (by rw [o.o.n]; exact (slotL_ok h2).1) (by rw [o.o.n]; exact (slotL_ok h3).1) hl.1.1.2 hl.1.2 hl.2 (by rw [o.o.sc]; exact hl.1.1.1.1.1) (by rw [o.o.sc]; exact hl.1.1.1.1.2) (by rw [o.o.sc]; exact hl.1.1.1.2)
                    (cEk_ok h4 o.o) (cEk_ok h5 o.o) (cEk_ok h6 o.o) (star_ok hc.1.1.1) (star_ok hc.1.1.2) (star_ok hc.1.2) hw (swS_ok rfl)
                · cases h
              · cases h
            · cases h
          · cases h
        · cases h
      · -- a name, a comprehension
        rename_i x px elt tg iter ifs scope p p3
        split at h
        · rename_i i e h1 h2
          cases h
          obtain ⟨q1, q2⟩ := slotL_ok h1
          have hsw := sw_comp (X := X) o.o.sc o.kd (elt := elt) (gs := [⟨tg, iter, ifs, 0⟩]) (scope := scope) (p := p) (px := px) (x := x) (l := p3.line)
          cases hb : swC sc scope x px.line p.line with
          | true =>
            rw [hb] at hsw
            obtain ⟨it, one, own, is, t, y, rfl, r1, r2, r3, r4, r5, r6⟩ := comp_parts h2 o.o
            have hl : sc.names.lookup x = some .local := by
              unfold swC at hb
              simp only [Bool.and_eq_true, beq_iff_eq] at hb
              exact hb.1.1
            exact s_comp WOk.never o.o.cf.calm o.o.cf.nd (by rw [o.o.n]; exact q1) (by rw [o.o.sc]; exact hl) hsw r1 r2 r3 r4 r5 r6
          | false =>
            rw [hb] at hsw
            exact s_asg (g := fun d η S => .ok (η.set i (some d)) S) (ce _ _ h2) (g_name o.o.cf.nd (by rw [o.o.n]; exact q1) (by unfold L2.Loc; rw [o.o.sc]; exact q2) (.inl (o.fn _))) hsw (sst_ok (.inl rfl)) (asg1_ok rfl)
        · cases h
      · -- a tuple of targets, a comprehension
        split at h
        · rename_i t e h1 h2
          cases h
          exact s_asg (ce _ _ h2) ((cT_ok n).1 _ _ _ h1 o) rfl (sst_ok (.inr rfl)) (asg1_ok rfl)
        · cases h
      · split at h
        · rename_i hc
          simp only [Bool.and_eq_true, Bool.or_eq_true] at hc
          split at h
          · rename_i t e h1 h2
            cases h
            exact s_asg (cEk_ok h2 o.o) ((cT_ok n).1 _ _ _ h1 o) (swS_ok hc.1.2) (sst_ok hc.2) (asg1_ok hc.1.1)
          · cases h
        · cases h
      · split at h
        · rename_i t a b h1 h2 h3
          cases h
          exact s_if ((c_ok n).b _ _ _ h1 X o.o).1 (ih.2 _ _ _ h2 o) (ih.2 _ _ _ h3 o)
        · cases h
      · split at h
        · rename_i t a h1 h2
          cases h
          exact s_whl o.hp ((c_ok n).b _ _ _ h1 X o.o).1 (ih.2 _ _ _ h2 o)
        · cases h
      · split at h
        · rename_i hp
          split at h
          · rename_i t e a h1 h2 h3
            cases h
            exact s_for o.hp o.o.cf.calm ((c_ok n).i _ _ _ _ h2 X o.o) ((cT_ok n).1 _ _ _ h1 o) (ih.2 _ _ _ h3 o) (fold_ok hp)
          · cases h
        · cases h
      · obtain ⟨x, h1, rfl⟩ := Option.map_eq_some_iff.mp h
        exact s_ret (cEk_ok h1 o.o)
      · cases h; exact s_retn
      · cases h; exact s_pass
      · cases h; exact s_brk
      · cases h; exact s_cnt
      · cases h; exact s_never
      · cases h
    · unfold cSs at h
      split at h
      · cases h; exact s_nil
      · split at h
        · rename_i s ss h1 h2
          cases h
          exact s_cons (ih.1 _ _ _ h1 o) (ih.2 _ _ _ h2 o)
        · cases h
end
end Py

set_option Elab.async false
set_option linter.all false
set_option maxRecDepth 100000
set_option maxHeartbeats 8000000
/-! Defs, the law. -/
namespace Py
open PySem PySem.Spec PyProof.Rows L2

/-- a def of the text: its statement, its names (parameters first), its parameters, its changing lists, what it computes -/
structure DefI where
  st : Stmt
  ns : List Str
  ps : List Str
  ms : List Str
  fn : Fn
structure OkDef (c : CI) (d : DefI) : Prop where
  body : cSs c d.ns d.ms d.fn.keep 100 (defScope d.st) (defBody d.st) = some d.fn.body
  n1 : d.fn.ns = d.ns.length
  n2 : d.fn.np = d.ps.length
  sc : FnScope d.ns d.ps (defScope d.st)
section
variable {P : Program} {w : World} {K : PySem.W.Frag} {mg : Str → Option Value} {base : Heap} {c : CI} {T : Str → Option Fn} {G : Str → Option D}
theorem RE.start {p : List Addr} {H : Hp} {N : List Str} {ds : List D} {vs : List V} (r : RVs K p H ds vs) : RE K p H (ds.map some ++ List.replicate (N.length - ds.length) none) (L2.start N vs) := by
  have hl := r.length
  refine ⟨by unfold L2.start; simp [hl], fun i d h => ?_⟩
  by_cases hi : i < ds.length
  · rw [List.getElem?_append_left (by simpa using hi), List.getElem?_map] at h
    cases q : ds[i]? with
    | none => rw [q] at h; cases h
    | some e =>
      rw [q] at h
      cases h
      obtain ⟨v, h1, h2⟩ := r.get q
      refine ⟨v, ?_, h2⟩
      unfold L2.start
      rw [List.getElem?_append_left (by rw [List.length_map, ← hl]; exact hi), List.getElem?_map, h1]
      rfl
  · rw [List.getElem?_append_right (by simpa using hi), List.getElem?_replicate] at h
    split at h <;> cases h
theorem call_len {k : Nat} {x : Str} {fn : Fn} {p : List Addr} {H : Hp} {ds : List D} {S : Store} {F : List Addr → Hp → D → Store → Prop} {W : XD} (ht : T x = some fn) (h : Good K p H (call T G (k + 1) x ds S) F W) : ds.length = fn.np := by
  by_cases e : ds.length = fn.np
  · exact e
  · simp only [call, ht, if_neg e] at h
    exact False.elim h
/-- a def keeps what it computes -/
theorem def_ok {k : Nat} {x : Str} {d : DefI} {a : Addr} {fd : FuncData} (gk : GOk K mg c G) (ht : T x = some d.fn) (od : OkDef c d) (F : Fun K x x d.st a fd) (ft : FTab P w K mg base c (call T G k) k) :
    FnG P w K mg base (k + 1) a fd d.ps (spI K (call T G (k + 1)) x) := by
  obtain ⟨oc, odc, kV, doc, pm, an, cdv, ct, osl, rfl, lk, hcd⟩ := F.ex
  have hlen : ∀ vs H Q E, spI K (call T G (k + 1)) x vs H Q E → vs.length = d.ps.length := fun vs H Q E h => by
    obtain ⟨p, ds, S, rs, rv, h⟩ := h
    rw [← rv.length, call_len ht h, od.n2]
  refine ⟨hlen, fun A outer s H args us vs Q E hr hgd e0 hb r hsp => ?_⟩
  have hl := hlen _ _ _ _ hsp
  obtain ⟨p, ds, S, rs0, rv, hgood⟩ := hsp
  have hdl := call_len ht hgood
  simp only [call, ht, if_pos hdl] at hgood
  have hbodyG : Good K p H ((evSs (call T G k) G d.fn.body (ds.map some ++ List.replicate (d.fn.ns - d.fn.np) none) S).bind fun f S' => match f with
      | .rt d => .ok d S'
      | .nx _ => .ok .non S'
      | _ => .bad) (fun p' H' d _ => ∀ v, RV K p' H' d v → Q v H') W0 := by
    cases hk : d.fn.keep with
    | true => rw [hk, if_pos rfl] at hgood; exact hgood
    | false =>
      rw [hk, if_neg Bool.false_ne_true] at hgood
      exact Good.unleave WOk.never hgood rs0
  have KX : K.In s.heap := e0.mod.kin.keeps fun b o e => (e0.bs b o e).1
  have lim : s.heap.NoLimit := e0.mod.nolimit.keeps fun b o e => (e0.bs b o e).1
  have SC := od.sc
  have kinds : ∀ y ∈ d.ps.zip us, (defScope d.st).names.lookup y.1 = some .local ∨ ((defScope d.st).names.lookup y.1 = some .cell ∧ ((cellsFrom (s.heap.objs.size + 1) (defScope d.st).names []).lookup y.1).isSome = true) := by
    intro y hy
    rcases SC.par y.1 (List.of_mem_zip (a := y.1) (b := y.2) hy).1 with q | q
    · exact .inl q
    · exact .inr ⟨q, PySem.W.cellsFrom_some _ _ _ (.inl q)⟩
  apply codeAny_call_function hr.depth (KX _ _ lk) rfl SC.co SC.gen rfl (PySem.W.codeRec_of KX hcd)
  apply hb
  apply wpAny_newFunctionEnv_cells SC.kind kinds
  intro env he s1 xc
  subst he
  refine ⟨lim.keeps xc.toInCall.keep, codeAny_func ?_⟩
  let X0 : Cx := cxOf CX0 P w K mg base d.ns x (defScope d.st) a cdv A outer s H E
  have hX : X0 = cxOf CX0 P w K mg base d.ns x (defScope d.st) a cdv A outer s H E := rfl
  have cf : Cf X0.nox k := ⟨rfl, SC.nd, hgd, hr.deeper _⟩
  have o : OkS c (call T G k) G k X0.nox d.ns (defScope d.st) := ⟨⟨cf, rfl, rfl, gk, ft⟩, fun _ => rfl, PassesOwn.never, SC.kind⟩
  have body := ((cS_ok (M := d.ms) (kp := d.fn.keep) (X := X0.nox) 100).2 _ _ _ od.body o).nox
  have I0 : Inv X0 [] (L2.start d.ns vs) H s1 := inv_start SC hr.hd e0 hl r xc
  have start : tS K W0 (evSs (call T G k) G d.fn.body) { nx := fun _ H' => Q .non H', rt := Q } (L2.start d.ns vs) H := by
    refine ⟨p, ds.map some ++ List.replicate (d.fn.ns - d.fn.np) none, S, ?_, rs0, (Good.bind hbodyG).imp fun p1 H1 f S1 e1 rs1 q => ?_⟩
    · have := RE.start (N := d.ns) rv
      rw [od.n1, ← hdl]
      exact this
    · cases f with
      | nx η => exact fun σ _ => Good.val (d := .non) q rs1 rfl
      | rt d1 => exact fun v rv1 => Good.val (d := d1) q rs1 rv1
      | bk _ => exact False.elim q
      | ct _ => exact False.elim q
  refine wpAny_mono (body.run [] s1 (L2.start d.ns vs) H _ I0 start) (fun fl s' hs => ?_) fun _ _ z => z
  have fin : ∀ {σ' : L2.St} {H' : Hp} {v : V} {u : Value}, Inv X0 [] σ' H' s' → RelV v u → Q v H' → CE outer P w H s Q u s' :=
    fun {σ' H' v u} J z q => ⟨v, H', J.os, J.bare, J.base, J.hok, z, q⟩
  match fl, hs with
  | .ret u, ⟨v, σ', H', J, z, q⟩ => exact fin J z q
  | .next, ⟨σ', H', J, q⟩ => exact fin (v := V.non) (u := Value.none) J rfl q
  | .brk, ⟨_, _, _, q⟩ => exact False.elim q
  | .cont, ⟨_, _, _, q⟩ => exact False.elim q
/-- where each def stands -/
def Stands (K : PySem.W.Frag) (mg : Str → Option Value) (c : CI) (T : Str → Option Fn) : Prop :=
  ∀ x, c.isFn x = true → ∃ (d : DefI) (a : Addr) (fd : FuncData), T x = some d.fn ∧ OkDef c d ∧ mg x = some (.ref a) ∧ Fun K x x d.st a fd ∧ Binds K fd d.ps [] ∧ ∀ sh ∈ c.kw x, KB K fd d.ps sh
theorem tab_ok (gk : GOk K mg c G) (h : Stands K mg c T) : ∀ k, FTab P w K mg base c (call T G k) k := by
  intro k
  induction k with
  | zero =>
    intro x hx
    obtain ⟨d, a, fd, ht, od, hm, F, B, KW⟩ := h x hx
    refine ⟨a, fd, d.ps, hm, F.kp, B, ⟨fun vs H Q E q => ?_, fun A outer s H args us vs Q E hr hgd e0 hb r q => ?_⟩, KW⟩
    · obtain ⟨p, ds, S, rs, rv, q⟩ := q; exact False.elim q
    · obtain ⟨p, ds, S, rs, rv, q⟩ := q; exact False.elim q
  | succ k ih =>
    intro x hx
    obtain ⟨d, a, fd, ht, od, hm, F, B, KW⟩ := h x hx
    exact ⟨a, fd, d.ps, hm, F.kp, B, def_ok gk ht od F ih, KW⟩
end
end Py

set_option Elab.async false
set_option linter.all false
set_option maxRecDepth 100000
set_option maxHeartbeats 8000000
/-! From the promise of the law's def to the law. -/
namespace Py
open PySem PySem.Spec PyProof.Rows L2

/-- what the call of the law's def must come to -/
def Says (w : Shared) : Result → Shared → Prop := fun r t => r = .ok (.ret (.bool true)) ∧ PySem.OldK w.heap t.heap ∧ t.os = w.os ∧ AllBare t.gens
section
variable {P : Program} {w : World} {K : PySem.W.Frag} {mg mb : Str → Option Value} {k : Nat} {fa : Addr} {fd : FuncData} {x y : Str} {C : Str → List D → Store → Res D} {t : Shared}

theorem fz_good {H : Hp} {b : Addr} {ns : List Int} (hq : SqL K H b (ns.map V.int)) (hr : C y [.fz (ns.map .int)] [] = .ok (.bl true) []) : spI K C y [.ref b] H (fun v _ => v = .bl true) fun _ _ _ => False := by
  refine ⟨[], [.fz (ns.map .int)], [], ⟨rfl, List.nodup_nil, fun n c e z => by simp at z⟩, ⟨.ref b, [], rfl, ⟨b, ns.map V.int, rfl, RVs.of_ints ns, ?_⟩, rfl⟩, ?_⟩
  · rcases hq with q | q
    · exact .inr ⟨by simp, q⟩
    · exact .inl q
  · rw [hr]
    intro p' H' _ _ v rv
    exact rv

/-- a heap of the layer in which the script alone is known -/
structure Script (K : PySem.W.Frag) (P : Program) (w : World) (h : Heap) (b : Addr) (vs : List Value) (ns : List Int) (H : Hp) : Prop where
  none' : ∀ c u, H c = some u → c = b ∧ K.lookup b = none ∧ u = .frz { cls := .type "list", data := .seq vs.toArray } (.lst (ns.map V.int))
  seq : SqL K H b (ns.map V.int)
  ok : HOk P w H h

theorem script_made {b : Addr} {vs : List Value} {ns : List Int} (kx : K.In t.heap) (ho : t.heap.get? b = some { cls := .type "list", data := .seq vs.toArray }) (hi : IntsAre vs ns) (hl : ns.length ≤ sizeLine) : ∃ H, Script K P w t.heap b vs ns H := by
  have hv := vals_ints hi
  have hn := hi.length
  cases e : K.lookup b with
  | some o =>
    obtain rfl : o = { cls := .type "list", data := .seq vs.toArray } := Option.some.inj ((kx b o e).symm.trans ho)
    exact ⟨fun _ => none, fun c u z => (nomatch z), .inr ⟨_, vs.toArray, _, e, rfl, rfl, rfl, by rw [List.size_toArray, hn]; exact hl, hv⟩, fun c u z => (nomatch z)⟩
  | none =>
    refine ⟨fun c => if c = b then some (.frz { cls := .type "list", data := .seq vs.toArray } (.lst (ns.map V.int))) else none, fun c u z => ?_, .inl (.inr ⟨{ cls := .type "list", data := .seq vs.toArray }, if_pos rfl⟩), fun c u z => ?_⟩
    · by_cases hc : c = b
      · rw [if_pos hc] at z
        exact ⟨hc, e, (Option.some.inj z).symm⟩
      · rw [if_neg hc] at z
        exact nomatch z
    · by_cases hc : c = b
      · rw [if_pos hc] at z
        cases z
        subst hc
        exact ⟨ho, by rw [List.length_map]; exact hl, vs, _, hv, ho⟩
      · rw [if_neg hc] at z
        exact nomatch z

theorem run_law {b : Addr} {vs : List Value} {ns : List Int} (kx : K.In t.heap) (hg : t.heap.Ns mainGlobals mg) (hbn : t.heap.Ns builtinsNs mb) (hbb : ∀ z : Str, z ≠ "__name__" → mb z = bootBuiltins z) (lim : t.heap.NoLimit) (hgen : t.gens = #[])
    (ho : t.heap.get? b = some { cls := .type "list", data := .seq vs.toArray }) (hi : IntsAre vs ns) (hl : ns.length ≤ sizeLine) (hr : Room k callerA)
    (F : ∀ base : Heap, K.In base → base.Ns mainGlobals mg → FnG P w K mg base k fa fd [x] (spI K C y)) (hbd : ∀ u : Value, BindsTo t fd ⟨[u], []⟩ [(x, u)])
    (hsay : C y [.fz (ns.map .int)] [] = .ok (.bl true) []) : codeAny (model P w) callerA (.call (.ref fa) ⟨[.ref b], []⟩) (Says t) t := by
  obtain ⟨H, sc⟩ := script_made (P := P) (w := w) kx ho hi hl
  have quiet : ∀ {c : Addr} {o : Obj}, t.heap.get? c = some o → (∀ z n, o.data ≠ .seq z n) → H c = none := fun {c o} e hd => by
    cases q : H c with
    | none => rfl
    | some u =>
      obtain ⟨rfl, _, _⟩ := sc.none' c u q
      rw [ho] at e
      cases e
      exact absurd rfl (hd _ _)
  have carry : ∀ {c : Addr} {m : Str → Option Value}, t.heap.Ns c m → (hidT t.heap H).Ns c m := fun {c m} ⟨o, es, ep, e, d, r⟩ =>
    ⟨o, es, ep, hidT_get e (quiet e fun z n hz => by rw [d] at hz; cases hz), d, r⟩
  have hK : K.In (hidT t.heap H) := fun c o e => hidT_get (kx c o e) (by
    cases q : H c with
    | none => rfl
    | some u =>
      obtain ⟨rfl, z, _⟩ := sc.none' c u q
      rw [z] at e
      cases e)
  obtain ⟨mc, lim1, lim2⟩ := lim
  have e0 : Env0 P w K mg (hidT t.heap H) callerA [] t H := ⟨rfl, ⟨hK, carry hg, ⟨mb, carry hbn, hbb⟩, ⟨mc, carry lim1, lim2⟩⟩, fun c o e => of_hidT e, Nat.le_of_eq (hidT_size _ _), trivial, fun c hc => absurd (show c ∈ ([] : List Addr) from hc) (by simp), sc.ok, .of_eq hgen⟩
  refine codeAny_mono ((F _ hK (carry hg)).run callerA [] t H ⟨[.ref b], []⟩ [.ref b] [.ref b] _ _ hr rfl e0 (hbd (.ref b)) (.cons rfl .nil) (fz_good sc.seq hsay)) fun r s' h => ?_
  cases r with
  | error e => exact False.elim h
  | ok f =>
    cases f with
    | next => exact False.elim h
    | brk => exact False.elim h
    | cont => exact False.elim h
    | ret u =>
      obtain ⟨v, H', os, bare, un, ok', rel, hv⟩ := h
      obtain rfl : v = .bl true := hv
      obtain rfl : u = Value.bool true := rel
      refine ⟨rfl, .of_keep fun c o e => ?_, os, bare⟩
      cases q : H c with
      | none => exact un.keep c o e q (by intro z; exact absurd (show c ∈ ([] : List Addr) from z) (by simp)) (by simp)
      | some u =>
        obtain ⟨hc, z, hu⟩ := sc.none' c u q
        rw [hu] at q
        have q' := un.frzs c _ _ q
        obtain ⟨g1, _⟩ := sc.ok c _ q
        obtain ⟨g2, _⟩ := ok' c _ q'
        rw [e] at g1
        cases g1
        exact g2
end

/-- every way in which a def is called by names -/
inductive KwOk (fd : FuncData) (ps : List Str) : List (Nat × List Str × List Nat) → Prop
  | nil : KwOk fd ps []
  | cons {sh : Nat × List Str × List Nat} {r : List (Nat × List Str × List Nat)} : (∀ us ws vs : List Value, us.length = sh.1 → ws.length = sh.2.1.length → permD sh.2.2 (us ++ ws) = some vs → bindArgs fd ⟨us, sh.2.1.zip ws⟩ = pure (ps.zip vs)) → KwOk fd ps r → KwOk fd ps (sh :: r)
theorem KwOk.get {fd : FuncData} {ps : List Str} : ∀ {L : List (Nat × List Str × List Nat)}, KwOk fd ps L → ∀ {sh}, sh ∈ L → ∀ us ws vs : List Value, us.length = sh.1 → ws.length = sh.2.1.length → permD sh.2.2 (us ++ ws) = some vs → bindArgs fd ⟨us, sh.2.1.zip ws⟩ = pure (ps.zip vs)
  | _, .cons h r, sh, e => by
    rcases List.mem_cons.mp e with e | e
    · rw [e]; exact h
    · exact r.get e
/-- one def of the table stands -/
def StandsAt (K : PySem.W.Frag) (mg : Str → Option Value) (c : CI) (x : Str) (d : DefI) : Prop := OkDef c d ∧ ∃ (a : Addr) (fd : FuncData), mg x = some (.ref a) ∧ Fun K x x d.st a fd ∧ Binds K fd d.ps [] ∧ ∀ sh ∈ c.kw x, KB K fd d.ps sh
theorem stands_at {K : PySem.W.Frag} {h : Heap} {mg : Str → Option Value} {c : CI} {x : Str} {d : DefI} {f : Addr} {od an : Option Addr} {sl : Array (Option Value)} {oc kV dc pm cd ct : Value} (X : K.In h) (G : h.Ns mainGlobals mg) (ok : OkDef c d)
    (hb : ∀ (kV doc pm : Value) (an : Option Addr) (cdv ct : Value) (us : List Value), us.length = d.ps.length → bindArgs (PySem.W.fnOf x x (defArgs d.st) (defBody d.st) (defScope d.st) .none kV doc pm an cdv ct) ⟨us, []⟩ = pure (d.ps.zip us))
    (hk : ∀ (kV doc pm : Value) (an : Option Addr) (cdv ct : Value), KwOk (PySem.W.fnOf x x (defArgs d.st) (defBody d.st) (defScope d.st) .none kV doc pm an cdv ct) d.ps (c.kw x))
    (a1 : PySem.W.nsIn K mainGlobals x = some (some (.ref f))) (l1 : K.lookup f = some ⟨oc, od, .func (PySem.W.fnOf x x (defArgs d.st) (defBody d.st) (defScope d.st) .none kV dc pm an cd ct), sl⟩) (c1 : PySem.W.codeIn K cd x = true) (k1 : PySem.W.keepIn K (.ref f) = true) :
    StandsAt K mg c x d := by
  have F := fun_mk (st := d.st) l1 c1 k1
  exact ⟨ok, f, _, PySem.W.mg_of X G a1, F, F.binds fun kV doc pm an cdv ct us hl => hb kV doc pm an cdv ct us hl, fun sh hsh s us ws vs _ l1 l2 e => .of_eq ((hk kV dc pm an cd ct).get hsh us ws vs l1 l2 e)⟩
/-- a table of defs -/
def tabT (L : List (Str × DefI)) (x : Str) : Option Fn := (L.lookup x).map (·.fn)
def tabF (L : List (Str × DefI)) (x : Str) : Bool := (L.lookup x).isSome
inductive AllSt (P : Str → DefI → Prop) : List (Str × DefI) → Prop
  | nil : AllSt P []
  | cons {x : Str} {d : DefI} {r : List (Str × DefI)} : P x d → AllSt P r → AllSt P ((x, d) :: r)
theorem AllSt.get {P : Str → DefI → Prop} : ∀ {L : List (Str × DefI)}, AllSt P L → ∀ {x d}, L.lookup x = some d → P x d
  | _, .nil, _, _, e => nomatch e
  | _, .cons (x := y) (d := d') h r, x, d, e => by
    rw [List.lookup_cons] at e
    split at e
    · rename_i q
      cases e
      rw [eq_of_beq q]; exact h
    · exact r.get e
theorem stands_of {K : PySem.W.Frag} {mg : Str → Option Value} {c : CI} {L : List (Str × DefI)} (hc : c.isFn = tabF L) (h : AllSt (StandsAt K mg c) L) : Stands K mg c (tabT L) := fun x hx => by
  rw [hc] at hx
  unfold tabF at hx
  cases e : L.lookup x with
  | none => rw [e] at hx; cases hx
  | some d =>
    obtain ⟨ok, a, fd, g, F, B⟩ := h.get e
    exact ⟨d, a, fd, by unfold tabT; rw [e]; rfl, ok, g, F, B.1, B.2⟩

/-- a constant of the module -/
def ConAt (K : PySem.W.Frag) (mg : Str → Option Value) (x : Str) (d : D) : Prop := ∃ v u, mg x = some u ∧ RelV v u ∧ ∀ p H, RV K p H d v
inductive AllC (P : Str → D → Prop) : List (Str × D) → Prop
  | nil : AllC P []
  | cons {x : Str} {d : D} {r : List (Str × D)} : P x d → AllC P r → AllC P ((x, d) :: r)
theorem AllC.get {P : Str → D → Prop} : ∀ {L : List (Str × D)}, AllC P L → ∀ {x d}, L.lookup x = some d → P x d
  | _, .nil, _, _, e => nomatch e
  | _, .cons (x := y) (d := d') h r, x, d, e => by
    rw [List.lookup_cons] at e
    split at e
    · rename_i q
      cases e
      rw [eq_of_beq q]; exact h
    · exact r.get e
inductive AllN (P : Str → Prop) : List Str → Prop
  | nil : AllN P []
  | cons {x : Str} {r : List Str} : P x → AllN P r → AllN P (x :: r)
theorem AllN.get {P : Str → Prop} : ∀ {L : List Str}, AllN P L → ∀ {x}, x ∈ L → P x
  | _, .cons h r, x, e => by
    rcases List.mem_cons.mp e with e | e
    · rw [e]; exact h
    · exact r.get e
theorem gok_of {K : PySem.W.Frag} {mg : Str → Option Value} {f : Str → Bool} {kw : Str → List (Nat × List Str × List Nat)} {cs : List (Str × D)} {bs ms : List Str} (hc : AllC (ConAt K mg) cs) (hb : AllN (fun x => mg x = none) bs)
    (hm : AllN (fun x => (x = Str.ofString "gcd" → mg x = some (.builtin "math.gcd")) ∧ (x = Str.ofString "isqrt" → mg x = some (.builtin "math.isqrt"))) ms) :
    GOk K mg ⟨f, fun x => (cs.lookup x).isSome, fun x => bs.contains x, fun x => ms.contains x, kw⟩ fun x => cs.lookup x :=
  ⟨fun x _ d e => hc.get e, fun x h => hb.get (by simpa using h), fun h => (hm.get (List.contains_iff_mem.mp h)).1 rfl, fun h => (hm.get (List.contains_iff_mem.mp h)).2 rfl⟩
theorem con_int {K : PySem.W.Frag} {h : Heap} {mg : Str → Option Value} {x : Str} {i : Int} {t : Tok} (X : K.In h) (G : h.Ns mainGlobals mg) (a : PySem.W.nsIn K mainGlobals x = some (some (.int i t))) : ConAt K mg x (.int i) :=
  ⟨.int i, _, PySem.W.mg_of X G a, ⟨t, rfl⟩, fun _ _ => rfl⟩
/-- a value of the written part -/
def Wr (K : PySem.W.Frag) (d : D) (u : Value) : Prop := ∃ v, RelV v u ∧ ∀ p H, RV K p H d v
inductive WrAll (K : PySem.W.Frag) : List D → List Value → Prop
  | nil : WrAll K [] []
  | cons {d : D} {u : Value} {ds : List D} {us : List Value} : Wr K d u → WrAll K ds us → WrAll K (d :: ds) (u :: us)
theorem WrAll.vals {K : PySem.W.Frag} : ∀ {ds : List D} {us : List Value}, WrAll K ds us → ∃ xs, Vals xs us ∧ ∀ p H, RVs K p H ds xs
  | _, _, .nil => ⟨[], .nil, fun _ _ => rfl⟩
  | _, _, .cons ⟨v, h1, h2⟩ r => by
    obtain ⟨xs, q1, q2⟩ := WrAll.vals r
    exact ⟨v :: xs, .cons h1 q1, fun p H => ⟨v, xs, rfl, h2 p H, q2 p H⟩⟩
theorem Wr.int {K : PySem.W.Frag} {i : Int} {t : Tok} : Wr K (.int i) (.int i t) := ⟨.int i, ⟨t, rfl⟩, fun _ _ => rfl⟩
theorem Wr.tup {K : PySem.W.Frag} {A : Addr} {od : Option Addr} {us : List Value} {n : Nat} {sl : Array (Option Value)} {ds : List D} (l : K.lookup A = some ⟨.type "tuple", od, .seq us.toArray n, sl⟩) (hz : us.length ≤ sizeLine) (r : WrAll K ds us) : Wr K (.tup ds) (.ref A) := by
  obtain ⟨xs, q1, q2⟩ := r.vals
  exact ⟨.ref A, rfl, fun p H => ⟨A, xs, rfl, q2 p H, .inl ⟨_, us.toArray, n, l, rfl, rfl, by rw [List.size_toArray]; exact hz, q1⟩⟩⟩
theorem con_of {K : PySem.W.Frag} {h : Heap} {mg : Str → Option Value} {x : Str} {d : D} {u : Value} (X : K.In h) (G : h.Ns mainGlobals mg) (a : PySem.W.nsIn K mainGlobals x = some (some u)) (w : Wr K d u) : ConAt K mg x d := by
  obtain ⟨v, h1, h2⟩ := w
  exact ⟨v, u, PySem.W.mg_of X G a, h1, h2⟩
theorem gcd_is {mg : Str → Option Value} (a : mg (Str.ofString "gcd") = some (.builtin "math.gcd")) : (Str.ofString "gcd" = Str.ofString "gcd" → mg (Str.ofString "gcd") = some (.builtin "math.gcd")) ∧ (Str.ofString "gcd" = Str.ofString "isqrt" → mg (Str.ofString "gcd") = some (.builtin "math.isqrt")) :=
  ⟨fun _ => a, fun e => absurd e (by decide +kernel)⟩
theorem isqrt_is {mg : Str → Option Value} (a : mg (Str.ofString "isqrt") = some (.builtin "math.isqrt")) : (Str.ofString "isqrt" = Str.ofString "gcd" → mg (Str.ofString "isqrt") = some (.builtin "math.gcd")) ∧ (Str.ofString "isqrt" = Str.ofString "isqrt" → mg (Str.ofString "isqrt") = some (.builtin "math.isqrt")) :=
  ⟨fun e => absurd e (by decide +kernel), fun _ => a⟩

/-- the goal behind k_head, from the tables -/
theorem walk {l : PySem.W.OpenLaw} {n k : Nat} {q : Program} {loose : List Str} {XP : (Str → Option Value) → Heap → Prop} {YP : World → Heap → Prop} {d : DefRec} {K : Params → PySem.W.Frag} {c : CI} {L : List (Str × DefI)} {di : DefI} {G : Str → Option D}
    (hn : l.most = some n) (hn2 : n ≤ sizeLine) (hdf : d.params.defaults = []) (hr : Room (k + 1) callerA) (hY : ∀ (w : World) (h : Heap), YP w h → (K w.params).In h) (hd : d.name = Str.ofString "law")
    (hc : c.isFn = tabF L) (hl : L.lookup (Str.ofString "law") = some di) (hp : di.ps = [Str.ofString "script"])
    (F : ∀ (w : World) (mg : Str → Option Value) (h : Heap), (K w.params).In h → h.Ns mainGlobals mg → GOk (K w.params) mg c G ∧ AllSt (StandsAt (K w.params) mg c) L)
    (hs : ∀ ns : List Int, ns.length ≤ n → call (tabT L) G (k + 1) (Str.ofString "law") [.fz (ns.map .int)] [] = .ok (.bl true) []) :
    PySem.W.WalkO q loose XP YP l.row.toRowW d [] (fun f vs => PySem.call f vs) := by
  refine Att.attach_call hn hdf fun w s₀ s₁ mg mb fa o pm cd doc a vs ns Gr Y ho hdd hcd hmg hobj hints hlen hg => ?_
  have kx := hY w _ Y
  obtain ⟨gk, st⟩ := F w mg _ kx Gr.T.g
  rw [hd] at hmg
  obtain ⟨od, fa', fd, g, Fu, B, _⟩ := st.get hl
  cases hmg.symm.trans g
  rw [hp] at B
  refine run_law (fd := fd) (y := Str.ofString "law") (x := Str.ofString "script") (C := call (tabT L) G (k + 1)) kx Gr.T.g Gr.T.b Gr.T.builtins Gr.T.nolimit hg hobj hints (Nat.le_trans hlen hn2) hr (fun base _ _ => ?_) (fun u => B s₁ [u] kx rfl) (hs ns hlen)
  · have := def_ok (P := l.prog) (w := w) (base := base) gk (x := Str.ofString "law") (d := di) (by unfold tabT; rw [hl]; rfl) od Fu (tab_ok gk (stands_of hc st) k)
    rw [hp] at this
    exact this
end Py

set_option Elab.async false
set_option linter.all false
set_option maxRecDepth 100000
set_option maxHeartbeats 4000000
/-! Laws of the small language: loops, blocks, comparisons. -/
namespace Py
open PySem PySem.Spec PyProof.Rows L2

theorem eqP_int (S : Store) (a b : Int) : eqP S (.int a) (.int b) = some (decide (a = b)) := by
  unfold eqP deref toP
  by_cases h : a = b
  · simp [h, SeqAt.shaped, PyData.eqv, PyData.canLay0, PyData.depth]
  · simp [h, SeqAt.shaped, PyData.eqv, PyData.canLay0, PyData.depth]
theorem bindk_ok {α β : Type} (a : α) (S : Store) (g : α → Store → Res β) : (Res.ok a S).bind g = g a S := rfl
theorem bindN_ok {α β : Type} (a : α) (S : Store) (g : α → Store → Res β) : (Res.ok a S).bindN g = g a S := rfl
theorem ofO_some {α : Type} (a : α) (S : Store) : Res.ofO (some a) S = .ok a S := rfl

mutual
/-- no changing list within -/
def still : D → Bool
  | .tup ds => stills ds
  | .lv ds => stills ds
  | .fz ds => stills ds
  | .lo _ => false
  | _ => true
def stills : List D → Bool
  | [] => true
  | d :: ds => still d && stills ds
end
mutual
theorem rs_still {S : Store} {m : Nat} : ∀ {d : D}, still d = true → rs S m d = some d
  | .tup ds, h => by unfold rs; rw [rss_still (show stills ds = true from h)]; rfl
  | .lv ds, h => by unfold rs; rw [rss_still (show stills ds = true from h)]; rfl
  | .fz ds, h => by unfold rs; rw [rss_still (show stills ds = true from h)]; rfl
  | .lo _, h => by cases h
  | .dc, _ => rfl
  | .non, _ => rfl
  | .bl _, _ => rfl
  | .int _, _ => rfl
  | .str _, _ => rfl
theorem rss_still {S : Store} {m : Nat} : ∀ {ds : List D}, stills ds = true → rss S m ds = some ds
  | [], _ => rfl
  | d :: ds, h => by
    have h' : (still d && stills ds) = true := h
    rw [Bool.and_eq_true] at h'
    unfold rss
    rw [rs_still h'.1, rss_still h'.2]
end
mutual
theorem clo_still {m : Nat} : ∀ {d : D}, still d = true → clo m d = true
  | .tup ds, h => clos_still (show stills ds = true from h)
  | .lv ds, h => clos_still (show stills ds = true from h)
  | .fz ds, h => clos_still (show stills ds = true from h)
  | .lo _, h => by cases h
  | .dc, _ => rfl
  | .non, _ => rfl
  | .bl _, _ => rfl
  | .int _, _ => rfl
  | .str _, _ => rfl
theorem clos_still {m : Nat} : ∀ {ds : List D}, stills ds = true → clos m ds = true
  | [], _ => rfl
  | d :: ds, h => by
    have h' : (still d && stills ds) = true := h
    rw [Bool.and_eq_true] at h'
    show (clo m d && clos m ds) = true
    rw [clo_still h'.1, clos_still h'.2]; rfl
end
theorem stills_all : ∀ {ds : List D}, (∀ d ∈ ds, still d = true) → stills ds = true
  | [], _ => rfl
  | d :: ds, h => by
    show (still d && stills ds) = true
    rw [h d (List.mem_cons_self ..), stills_all fun e he => h e (List.mem_cons_of_mem _ he)]; rfl
theorem OkC.refl (S X : Store) : OkC S (S ++ X) := ⟨by simp, fun i h => .inl (by rw [List.getElem?_append_left h])⟩
/-- a block is left with a value; its own lists are forgotten -/
theorem leave_ext {d : D} {S X : Store} (h : still d = true) : leave S (.ok d (S ++ X)) = .ok d S := by
  unfold leave
  dsimp only
  rw [if_pos (OkC.refl S X), rs_still h]
  simp
theorem leave_same {d : D} {S : Store} (h : still d = true) : leave S (.ok d S) = .ok d S := by
  have := leave_ext (X := []) (S := S) h
  rwa [List.append_nil] at this
/-- a block has changed a list that stood -/
theorem leave_set {d : D} {S X : Store} {n : Nat} {ds : List D} (h : still d = true) (hs : stills ds = true) : leave S (.ok d (S.set n (.lst ds) ++ X)) = .ok d (S.set n (.lst ds)) := by
  unfold leave
  dsimp only
  rw [if_pos, rs_still h]
  · simp
  · refine ⟨by simp, fun i hi => ?_⟩
    rw [List.getElem?_append_left (by simpa using hi)]
    by_cases e : n = i
    · subst e
      exact .inr ⟨.lst ds, List.getElem?_set_self hi, clos_still hs⟩
    · exact .inl (List.getElem?_set_ne e)
/-- a new list handed back as a value -/
theorem leave_new {S X : Store} {ds : List D} (hs : stills ds = true) : leave S (.ok (.lo S.length) (S ++ .lst ds :: X)) = .ok (.lv ds) S := by
  unfold leave
  dsimp only
  rw [if_pos (OkC.refl S _)]
  have : rs (S ++ .lst ds :: X) S.length (.lo S.length) = some (.lv ds) := by
    unfold rs
    rw [if_neg (Nat.lt_irrefl _), List.getElem?_append_right (Nat.le_refl _), Nat.sub_self]
    simp [clos_still hs]
  rw [this]
  simp

/-! ### loops -/
theorem forL_ind {g : Store → Bool} {asg : D → Sl → Store → Res Sl} {b : Sl → Store → Res Fl} (P : List D → Sl → Store → Prop) (hg : ∀ S, g S = true)
    (step : ∀ d ds η S, P (d :: ds) η S → ∃ η1 S1 η2 S2, asg d η S = .ok η1 S1 ∧ (b η1 S1 = .ok (.nx η2) S2 ∨ b η1 S1 = .ok (.ct η2) S2) ∧ P ds η2 S2) :
    ∀ ds η S, P ds η S → ∃ η' S', forL g asg b ds η S = .ok (.nx η') S' ∧ P [] η' S'
  | [], η, S, h => ⟨η, S, by unfold forL; rw [if_pos (hg S)], h⟩
  | d :: ds, η, S, h => by
    obtain ⟨η1, S1, η2, S2, h1, h2, h3⟩ := step d ds η S h
    obtain ⟨η', S', h4, h5⟩ := forL_ind P hg step ds η2 S2 h3
    refine ⟨η', S', ?_, h5⟩
    unfold forL
    rw [if_pos (hg S), h1, bindk_ok]
    rcases h2 with h2 | h2
    · rw [h2, bindk_ok]; exact h4
    · rw [h2, bindk_ok]; exact h4
theorem whlN_mono {c : Sl → Store → Res Bool} {b : Sl → Store → Res Fl} : ∀ {n m : Nat} {η : Sl} {S : Store}, n ≤ m → whlN c b n η S ≠ .bad → whlN c b m η S = whlN c b n η S
  | 0, _, _, _, _, h => absurd rfl h
  | n + 1, 0, _, _, h, _ => by omega
  | n + 1, m + 1, η, S, hl, h => by
    unfold whlN at h ⊢
    cases hc : c η S with
    | ok t S1 =>
      rw [hc, bindk_ok] at h
      rw [bindk_ok, bindk_ok]
      cases t with
      | false => rfl
      | true =>
        rw [if_pos rfl] at h
        rw [if_pos rfl, if_pos rfl]
        cases hb : b η S1 with
        | ok f S2 =>
          rw [hb, bindk_ok] at h
          rw [bindk_ok, bindk_ok]
          cases f with
          | nx η2 => exact whlN_mono (by omega) h
          | ct η2 => exact whlN_mono (by omega) h
          | bk _ => rfl
          | rt _ => rfl
        | exc _ _ _ => rfl
        | bad => rfl
    | exc _ _ _ => rfl
    | bad => rfl
theorem whl_of {c : Sl → Store → Res Bool} {b : Sl → Store → Res Fl} {n : Nat} {η : Sl} {S : Store} {r : Res Fl} (h : whlN c b n η S = r) (hr : r ≠ .bad) : whl c b η S = r := by
  have hx : ∃ n, whlN c b n η S ≠ .bad := ⟨n, by rw [h]; exact hr⟩
  unfold whl
  rw [dif_pos hx]
  have h1 := hx.choose_spec
  rcases Nat.le_total n hx.choose with hl | hl
  · rw [whlN_mono hl (by rw [h]; exact hr), h]
  · rw [← h, whlN_mono hl h1]
theorem whl_ind {c : Sl → Store → Res Bool} {b : Sl → Store → Res Fl} (P : Nat → Sl → Store → Prop) (Q : Sl → Store → Prop)
    (step : ∀ n η S, P n η S → (∃ S1, c η S = .ok false S1 ∧ Q η S1) ∨ ∃ m S1 η2 S2, m < n ∧ c η S = .ok true S1 ∧ b η S1 = .ok (.nx η2) S2 ∧ P m η2 S2) :
    ∀ n η S, P n η S → ∃ η' S', whl c b η S = .ok (.nx η') S' ∧ Q η' S' := by
  have main : ∀ k n η S, n ≤ k → P n η S → ∃ j η' S', whlN c b j η S = .ok (.nx η') S' ∧ Q η' S' := by
    intro k
    induction k with
    | zero =>
      intro n η S hn h
      rcases step n η S h with ⟨S1, h1, h2⟩ | ⟨m, _, _, _, hm, _⟩
      · exact ⟨1, η, S1, by unfold whlN; rw [h1]; rfl, h2⟩
      · omega
    | succ k ih =>
      intro n η S hn h
      rcases step n η S h with ⟨S1, h1, h2⟩ | ⟨m, S1, η2, S2, hm, h1, h2, h3⟩
      · exact ⟨1, η, S1, by unfold whlN; rw [h1]; rfl, h2⟩
      · obtain ⟨j, η', S', h4, h5⟩ := ih m η2 S2 (by omega) h3
        refine ⟨j + 1, η', S', ?_, h5⟩
        unfold whlN
        rw [h1, bindk_ok, if_pos rfl, h2, bindk_ok]
        exact h4
  intro n η S h
  obtain ⟨j, η', S', h1, h2⟩ := main n n η S (Nat.le_refl _) h
  exact ⟨η', S', whl_of h1 (fun z => by cases z), h2⟩
/-- a comprehension that computes f of each item, without a test -/
theorem comL_map {g : Store → Bool} {asg : D → Option Sl} {t : Sl → Store → Res Bool} {e : Sl → Store → Res D} {S : Store} (hg : ∀ S, g S = true) (f : D → D) :
    ∀ (ds acc : List D), acc.length + ds.length ≤ sizeLine → (∀ d ∈ ds, ∃ η, asg d = some η ∧ ∀ acc, t η (S ++ [.lst acc]) = .ok true (S ++ [.lst acc]) ∧ e η (S ++ [.lst acc]) = .ok (f d) (S ++ [.lst acc])) →
    comL g asg t e S.length ds (S ++ [.lst acc]) = .ok (.lo S.length) (S ++ [.lst (acc ++ ds.map f)])
  | [], acc, _, _ => by unfold comL; rw [if_pos (hg _), List.map_nil, List.append_nil]
  | d :: ds, acc, hz, h => by
    obtain ⟨η, h1, h2⟩ := h d (List.mem_cons_self ..)
    obtain ⟨h3, h4⟩ := h2 acc
    unfold comL
    rw [if_pos (hg _), h1]
    simp only [h3, bindN_ok, if_pos, h4]
    rw [List.getElem?_append_right (Nat.le_refl _), Nat.sub_self]
    simp only [List.getElem?_cons_zero]
    rw [List.length_cons] at hz
    rw [if_pos (show acc.length < sizeLine by omega)]
    have e1 : (S ++ [Cell.lst acc]).set S.length (.lst (acc ++ [f d])) = S ++ [.lst (acc ++ [f d])] := by
      rw [List.set_append_right _ _ (Nat.le_refl _), Nat.sub_self]; rfl
    rw [e1, comL_map hg f ds (acc ++ [f d]) (by rw [List.length_append, List.length_singleton]; omega) fun d' hd => h d' (List.mem_cons_of_mem _ hd)]
    rw [List.map_cons, List.append_assoc]; rfl
theorem comp_map {g : Store → Bool} {asg : D → Option Sl} {t : Sl → Store → Res Bool} {e : Sl → Store → Res D} {S : Store} (hg : ∀ S, g S = true) (f : D → D) (ds : List D) (hz : ds.length ≤ sizeLine) (hs : ∀ d ∈ ds, still (f d) = true)
    (h : ∀ d ∈ ds, ∃ η, asg d = some η ∧ ∀ acc, t η (S ++ [.lst acc]) = .ok true (S ++ [.lst acc]) ∧ e η (S ++ [.lst acc]) = .ok (f d) (S ++ [.lst acc])) :
    leave S (comL g asg t e S.length ds (S ++ [.lst []])) = .ok (.lv (ds.map f)) S := by
  rw [comL_map hg f ds [] (by simpa using hz) h, List.nil_append]
  exact leave_new (X := []) (stills_all fun d hd => by
    obtain ⟨x, hx, rfl⟩ := List.mem_map.mp hd
    exact hs x hx)
theorem rng_length : ∀ (n : Nat) (lo : Int), (rng lo n).length = n
  | 0, _ => rfl
  | n + 1, lo => by unfold rng; rw [List.length_cons, rng_length n]
theorem call_eq {T : Str → Option Fn} {G : Str → Option D} {k : Nat} {f : Str} {fn : Fn} {ds : List D} {S : Store} (ht : T f = some fn) (hl : ds.length = fn.np) : call T G (k + 1) f ds S =
    (let r := (evSs (call T G k) G fn.body (ds.map some ++ List.replicate (fn.ns - fn.np) none) S).bind fun f S' => match f with
      | .rt d => .ok d S'
      | .nx _ => .ok .non S'
      | _ => .bad
    if fn.keep then r else leave S r) := by
  simp only [call, ht, if_pos hl]
  try rfl

/-! ### what comes out -/
def WP {α : Type} (r : Res α) (Q : α → Store → Prop) : Prop := ∃ a S, r = .ok a S ∧ Q a S
section
variable {α β : Type} {Q : α → Store → Prop}
theorem wp_ok {a : α} {S : Store} : WP (.ok a S) Q ↔ Q a S := ⟨fun ⟨_, _, e, h⟩ => by cases e; exact h, fun h => ⟨a, S, rfl, h⟩⟩
theorem wp_bind {r : Res β} {g : β → Store → Res α} : WP (r.bind g) Q ↔ WP r fun b S => WP (g b S) Q := by
  constructor
  · intro h
    cases r with
    | ok b S => exact ⟨b, S, rfl, h⟩
    | exc _ _ _ => obtain ⟨_, _, e, _⟩ := h; cases e
    | bad => obtain ⟨_, _, e, _⟩ := h; cases e
  · rintro ⟨b, S, rfl, h⟩
    exact h
theorem wp_ofO {o : Option α} {S : Store} : WP (.ofO o S) Q ↔ ∃ a, o = some a ∧ Q a S := by
  constructor
  · intro h
    cases o with
    | some a => exact ⟨a, rfl, wp_ok.mp h⟩
    | none => obtain ⟨_, _, e, _⟩ := h; cases e
  · rintro ⟨a, rfl, h⟩
    exact wp_ok.mpr h
theorem wp_some {a : α} {S : Store} : WP (.ofO (some a) S) Q ↔ Q a S := wp_ok
theorem wp_imp {r : Res α} {Q' : α → Store → Prop} (h : WP r Q) (f : ∀ a S, Q a S → Q' a S) : WP r Q' := let ⟨a, S, e, q⟩ := h; ⟨a, S, e, f a S q⟩
theorem wp_eq {r : Res α} {a : α} {S : Store} (h : WP r fun b S' => b = a ∧ S' = S) : r = .ok a S := by
  obtain ⟨b, S', e, rfl, rfl⟩ := h; exact e
theorem wp_of {r : Res α} {a : α} {S : Store} (h : r = .ok a S) : WP r Q ↔ Q a S := by rw [h]; exact wp_ok
end
/-- after a turn -/
def FQ (P : Sl → Store → Prop) (Q : Fl → Store → Prop) : Fl → Store → Prop
  | .nx η, S => P η S
  | .ct η, S => P η S
  | .bk η, S => Q (.nx η) S
  | .rt d, S => Q (.rt d) S
theorem wp_forL {g : Store → Bool} {asg : D → Sl → Store → Res Sl} {b : Sl → Store → Res Fl} {Q : Fl → Store → Prop} (P : List D → Sl → Store → Prop) :
    ∀ {ds : List D} {η : Sl} {S : Store}, P ds η S → (∀ ds η S, P ds η S → g S = true) → (∀ d ds η S, P (d :: ds) η S → WP (asg d η S) fun η1 S1 => WP (b η1 S1) (FQ (P ds) Q)) → (∀ η S, P [] η S → Q (.nx η) S) → WP (forL g asg b ds η S) Q
  | [], η, S, h, hg, _, fin => by unfold forL; rw [if_pos (hg _ _ _ h), wp_ok]; exact fin η S h
  | d :: ds, η, S, h, hg, step, fin => by
    unfold forL
    rw [if_pos (hg _ _ _ h), wp_bind]
    refine wp_imp (step d ds η S h) fun η1 S1 h1 => ?_
    rw [wp_bind]
    refine wp_imp h1 fun f S2 h2 => ?_
    cases f with
    | nx η2 => exact wp_forL P h2 hg step fin
    | ct η2 => exact wp_forL P h2 hg step fin
    | bk η2 => exact wp_ok.mpr h2
    | rt d => exact wp_ok.mpr h2
theorem wp_whl {c : Sl → Store → Res Bool} {b : Sl → Store → Res Fl} {Q : Fl → Store → Prop} (P : Nat → Sl → Store → Prop)
    (step : ∀ n η S, P n η S → WP (c η S) fun t S1 => if t = true then WP (b η S1) (FQ (fun η2 S2 => ∃ m, m < n ∧ P m η2 S2) Q) else Q (.nx η) S1) {n : Nat} {η : Sl} {S : Store} (h : P n η S) : WP (whl c b η S) Q := by
  have main : ∀ k n η S, n ≤ k → P n η S → ∃ j, WP (whlN c b j η S) Q := by
    intro k
    induction k with
    | zero =>
      intro n η S hn h
      obtain ⟨t, S1, h1, h2⟩ := step n η S h
      cases t with
      | false => exact ⟨1, by unfold whlN; rw [h1, bindk_ok]; exact wp_ok.mpr h2⟩
      | true =>
        rw [if_pos rfl] at h2
        obtain ⟨f, S2, h3, h4⟩ := h2
        refine ⟨1, ?_⟩
        unfold whlN
        rw [h1, bindk_ok, if_pos rfl, h3, bindk_ok]
        cases f with
        | nx η2 => obtain ⟨m, hm, _⟩ := h4; omega
        | ct η2 => obtain ⟨m, hm, _⟩ := h4; omega
        | bk η2 => exact wp_ok.mpr h4
        | rt d => exact wp_ok.mpr h4
    | succ k ih =>
      intro n η S hn h
      obtain ⟨t, S1, h1, h2⟩ := step n η S h
      cases t with
      | false => exact ⟨1, by unfold whlN; rw [h1, bindk_ok]; exact wp_ok.mpr h2⟩
      | true =>
        rw [if_pos rfl] at h2
        obtain ⟨f, S2, h3, h4⟩ := h2
        cases f with
        | nx η2 =>
          obtain ⟨m, hm, h5⟩ := h4
          obtain ⟨j, h6⟩ := ih m η2 S2 (by omega) h5
          refine ⟨j + 1, ?_⟩
          unfold whlN
          rw [h1, bindk_ok, if_pos rfl, h3, bindk_ok]
          exact h6
        | ct η2 =>
          obtain ⟨m, hm, h5⟩ := h4
          obtain ⟨j, h6⟩ := ih m η2 S2 (by omega) h5
          refine ⟨j + 1, ?_⟩
          unfold whlN
          rw [h1, bindk_ok, if_pos rfl, h3, bindk_ok]
          exact h6
        | bk η2 => exact ⟨1, by unfold whlN; rw [h1, bindk_ok, if_pos rfl, h3, bindk_ok]; exact wp_ok.mpr h4⟩
        | rt d => exact ⟨1, by unfold whlN; rw [h1, bindk_ok, if_pos rfl, h3, bindk_ok]; exact wp_ok.mpr h4⟩
  obtain ⟨j, f, S', h1, h2⟩ := main n n η S (Nat.le_refl _) h
  exact ⟨f, S', whl_of h1 (fun z => by cases z), h2⟩
end Py

set_option Elab.async false
set_option linter.all false
set_option maxRecDepth 100000
set_option maxHeartbeats 4000000
/-! The draws of the laws: the urn, a pull, one of some. -/
namespace Py
open PySem PySem.Spec PyProof.Rows L2

theorem mulOk_of {i j : Int} (hi : i.natAbs < 2 ^ 4000) (hj : j.natAbs < 2 ^ 4000) : mulOk i j = true := by
  unfold mulOk
  have lt : ∀ n : Nat, n < 2 ^ 4000 → n.log2 < 4000 := fun n h => by
    by_cases z : n = 0
    · subst z; decide
    · exact (Nat.log2_lt z).mpr h
  have := lt _ hi
  have := lt _ hj
  exact decide_eq_true (by omega)
theorem divOk_of {j : Int} (h0 : 0 < j) (hj : j.natAbs < 2 ^ 4000) : divOk j = true := by
  unfold divOk
  have : j.natAbs.log2 < 4000 := (Nat.log2_lt (by omega)).mpr hj
  rw [decide_eq_true h0, decide_eq_true (by omega : j.natAbs.log2 < 9000)]; rfl
theorem p64 : (2 : Nat) ^ 64 ≤ 2 ^ 4000 := Nat.pow_le_pow_right (by decide) (by decide)
/-- numbers below 2 ^ 64 -/
theorem sml {i : Int} (h0 : -18446744073709551616 < i) (h1 : i < 18446744073709551616) : i.natAbs < 2 ^ 4000 := Nat.lt_of_lt_of_le (by omega : i.natAbs < 2 ^ 64) p64
theorem bop_mul {S : Store} {i j : Int} (h : mulOk i j = true) : bop S .mul (.int i) (.int j) = some (.int (i * j)) := by
  show (if mulOk i j then some (D.int (i * j)) else none) = _
  rw [if_pos h]
theorem bop_mod {S : Store} {i j : Int} (h : 0 < j) : bop S .mod (.int i) (.int j) = some (.int (i % j)) := by
  show (if 0 < j then some (D.int (i % j)) else none) = _
  rw [if_pos h]
theorem bop_fdiv {S : Store} {i j : Int} (h : divOk j = true) : bop S .fdiv (.int i) (.int j) = some (.int (i / j)) := by
  show (if divOk j then some (D.int (i / j)) else if j < 0 ∧ j.natAbs < 1073741824 then some (D.int (i.fdiv j)) else none) = _
  rw [if_pos h]
theorem bop_fdivN {S : Store} {i j : Int} (h : j < 0) (h2 : j.natAbs < 1073741824) : bop S .fdiv (.int i) (.int j) = some (.int (i.fdiv j)) := by
  show (if divOk j then some (D.int (i / j)) else if j < 0 ∧ j.natAbs < 1073741824 then some (D.int (i.fdiv j)) else none) = _
  have : ¬ divOk j = true := by
    unfold divOk
    rw [Bool.and_eq_true, decide_eq_true_eq]
    omega
  rw [if_neg this, if_pos ⟨h, h2⟩]
theorem bop_add {S : Store} {i j : Int} : bop S .add (.int i) (.int j) = some (.int (i + j)) := rfl
theorem bop_sub {S : Store} {i j : Int} : bop S .sub (.int i) (.int j) = some (.int (i - j)) := rfl
theorem bf_int {S : Store} {i : Int} : bf S .int [.int i] = some (.int i) := rfl
theorem bf_abs {S : Store} {i : Int} : bf S .abs [.int i] = some (.int (if i < 0 then -i else i)) := rfl
theorem bf_divmod {S : Store} {i j : Int} (h : 0 < j) (h2 : j < 1073741824) : bf S .divmod [.int i, .int j] = some (.tup [.int (i / j), .int (i % j)]) := by
  show (if 0 < j ∧ j < 1073741824 then some (D.tup [.int (i / j), .int (i % j)]) else none) = _
  rw [if_pos ⟨h, h2⟩]
theorem cop_lt {S : Store} {i j : Int} : cop S .lt (.int i) (.int j) = some (decide (i < j)) := rfl
theorem cop_le {S : Store} {i j : Int} : cop S .le (.int i) (.int j) = some (decide (i ≤ j)) := rfl
theorem cop_gt {S : Store} {i j : Int} : cop S .gt (.int i) (.int j) = some (decide (j < i)) := rfl
theorem cop_ge {S : Store} {i j : Int} : cop S .ge (.int i) (.int j) = some (decide (j ≤ i)) := rfl
theorem cop_eq {S : Store} {i j : Int} : cop S .eq (.int i) (.int j) = some (decide (i = j)) := eqP_int S i j
theorem cop_ne {S : Store} {i j : Int} : cop S .ne (.int i) (.int j) = some (!decide (i = j)) := by
  show (eqP S (.int i) (.int j)).map (!·) = _
  rw [eqP_int]; rfl
theorem items_lo {S : Store} {n : Nat} {ds : List D} (h : S[n]? = some (.lst ds)) : items S (.lo n) = some ds := by
  show (match S[n]? with | some (.lst ds) => some ds | _ => none) = _
  rw [h]
theorem set_get {S : Store} {n : Nat} {ds es : List D} (h : S[n]? = some (.lst ds)) : (S.set n (.lst es))[n]? = some (.lst es) := List.getElem?_set_self (List.getElem?_eq_some_iff.mp h).1
theorem res_ok {α : Type} {a b : α} {S : Store} (h : a = b) : Res.ok a S = .ok b S := by rw [h]

def fUrn : Fn := ⟨5, 2, true, (.cons (.asg (.name 2) (.op .add (.int 910031) (.op .mul (.int 8581) (.var 1)))) (.cons (.forr (.name 3) (.seq (.slc (.var 0) .none (.some (.int 10)))) (.cons (.asg (.name 2) (.op .mod (.blt .int (.cons (.op .add (.op .add (.op .mul (.var 2) (.int 46099)) (.op .mul (.op .mod (.blt .int (.cons (.var 3) .nil)) (.int 2147483399)) (.int 7))) (.int 29)) .nil)) (.int 2147483399))) .nil)) (.cons (.asg (.name 4) (.ifx (.val (.cmp .lt (.var 1) (.blt .len (.cons (.var 0) .nil)))) (.blt .int (.cons (.sub (.var 0) (.var 1)) .nil)) (.int 0))) (.cons (.asg (.name 2) (.op .mod (.blt .int (.cons (.op .add (.op .add (.op .mul (.var 2) (.int 59)) (.op .mul (.op .mod (.blt .int (.cons (.var 4) .nil)) (.int 2147483399)) (.int 20021))) (.int 11)) .nil)) (.int 2147483399))) (.cons (.ret (.lst true (.cons (.ifx (.or (.val (.cmp .lt (.var 4) (.int 0))) (.val (.cmp .ge (.var 4) (.op .pow (.int 10) (.int 15))))) (.blt .abs (.cons (.var 4) .nil)) (.int 0)) (.cons (.var 2) (.cons (.int 0) .nil))))) .nil)))))⟩
def fPull : Fn := ⟨4, 2, false, (.cons (.iff (.val (.cmp .gt (.sub (.var 0) (.int 0)) (.int 0))) (.cons (.asg (.tup (.cons (.sub (.var 0) (.int 0)) (.cons (.name 2) .nil))) (.blt .divmod (.cons (.sub (.var 0) (.int 0)) (.cons (.var 1) .nil)))) (.cons (.ret (.var 2)) .nil)) .nil) (.cons (.asg (.sub (.var 0) (.int 2)) (.op .add (.sub (.var 0) (.int 2)) (.int 1))) (.cons (.asg (.name 3) (.op .mod (.blt .int (.cons (.op .add (.op .mul (.sub (.var 0) (.int 1)) (.int 41023)) (.op .mul (.int 60029) (.sub (.var 0) (.int 2)))) .nil)) (.int 2147483399))) (.cons (.asg (.sub (.var 0) (.int 1)) (.op .mod (.blt .int (.cons (.op .add (.op .mul (.var 3) (.op .add (.op .mod (.blt .int (.cons (.var 3) .nil)) (.int 5011)) (.int 20029))) (.op .mul (.int 41) (.sub (.var 0) (.int 2)))) .nil)) (.int 2147483399))) (.cons (.ret (.op .mod (.blt .int (.cons (.op .fdiv (.sub (.var 0) (.int 1)) (.int 739)) .nil)) (.var 1))) .nil)))))⟩
def fOne : Fn := ⟨2, 2, false, (.cons (.ret (.sub (.var 1) (.call (Str.ofString "_law_pull") (.cons (.var 0) (.cons (.blt .len (.cons (.var 1) .nil)) .nil))))) .nil)⟩
section
variable {T : Str → Option Fn} {G : Str → Option D} {k : Nat}
theorem ix0 (n : Nat) : ixN (n + 1) 0 = some 0 := by
  unfold ixN; rw [if_pos (by decide), if_pos (by omega)]; rfl
theorem ix1 (n : Nat) : ixN (n + 2) 1 = some 1 := by
  unfold ixN; rw [if_pos (by decide), if_pos (by omega)]; rfl
theorem ix2 (n : Nat) : ixN (n + 3) 2 = some 2 := by
  unfold ixN; rw [if_pos (by decide), if_pos (by omega)]; rfl
theorem at0 {α : Type} (x : α) (r : List α) : atI (x :: r) 0 = some x := by
  unfold atI; rw [List.length_cons, ix0]; rfl
theorem at1 {α : Type} (x y : α) (r : List α) : atI (x :: y :: r) 1 = some y := by
  unfold atI; rw [List.length_cons, List.length_cons, ix1]; rfl
theorem at2 {α : Type} (x y z : α) (r : List α) : atI (x :: y :: z :: r) 2 = some z := by
  unfold atI; rw [List.length_cons, List.length_cons, List.length_cons, ix2]; rfl
theorem tr_bl (S : Store) (b : Bool) : truth S (.bl b) = some b := rfl
theorem bind_cg {α β : Type} {r r' : Res α} {g : α → Store → Res β} (h : r = r') : r.bind g = r'.bind g := by rw [h]
theorem pull_ok (hT : T (Str.ofString "_law_pull") = some fPull) {n : Nat} {S : Store} {a m c b : Int} (hS : S[n]? = some (.lst [.int a, .int m, .int c])) (ha : 0 ≤ a) (hm : 0 ≤ m) (hm2 : m < 2147483399) (hc : 0 ≤ c) (hc2 : c < 1000000000) (hb : 0 < b) (hb2 : b < 1073741824) :
    ∃ a' m' c' f, 0 ≤ a' ∧ 0 ≤ m' ∧ m' < 2147483399 ∧ 0 ≤ c' ∧ c' ≤ c + 1 ∧ 0 ≤ f ∧ f < b ∧
      call T G (k + 1) (Str.ofString "_law_pull") [.lo n, .int b] S = .ok (.int f) (S.set n (.lst [.int a', .int m', .int c'])) := by
  have hn : n < S.length := (List.getElem?_eq_some_iff.mp hS).1
  rw [call_eq hT rfl]
  have hset : ∀ es : List D, (S.set n (.lst es))[n]? = some (.lst es) := fun es => set_get hS
  by_cases h0 : 0 < a
  · refine ⟨a / b, m, c, a % b, Int.ediv_nonneg ha (by omega), hm, hm2, hc, by omega, Int.emod_nonneg _ (by omega), Int.emod_lt_of_pos _ hb, ?_⟩
    simp only [fPull, evSs, evS, evE, evB, evEs, evT, evTs, bindk_ok, ofO_some, List.map_cons, List.map_nil, List.replicate, List.cons_append, List.nil_append, List.getElem?_cons_zero, List.getElem?_cons_succ, items_lo hS, at0, at1, at2, cop_gt, tr_bl, h0, decide_true, if_true, Option.map, bf_divmod hb hb2, ITs.len, List.length_cons, List.length_nil, hS, ix0, List.set_cons_zero, List.set_cons_succ, Bool.false_eq_true, if_false]
    have := leave_set (S := S) (X := []) (n := n) (d := .int (a % b)) (ds := [.int (a / b), .int m, .int c]) rfl rfl
    rw [List.append_nil] at this
    exact this
  · have hm' : 0 ≤ m * 41023 + 60029 * (c + 1) := by omega
    have q0 : 0 ≤ (m * 41023 + 60029 * (c + 1)) % 2147483399 := Int.emod_nonneg _ (by decide)
    have q1 : (m * 41023 + 60029 * (c + 1)) % 2147483399 < 2147483399 := Int.emod_lt_of_pos _ (by decide)
    generalize hx : (m * 41023 + 60029 * (c + 1)) % 2147483399 = x at q0 q1
    have r0 : 0 ≤ x % 5011 := Int.emod_nonneg _ (by decide)
    have r1 : x % 5011 < 5011 := Int.emod_lt_of_pos _ (by decide)
    have s0 : 0 ≤ (x * (x % 5011 + 20029) + 41 * (c + 1)) % 2147483399 := Int.emod_nonneg _ (by decide)
    have s1 : (x * (x % 5011 + 20029) + 41 * (c + 1)) % 2147483399 < 2147483399 := Int.emod_lt_of_pos _ (by decide)
    refine ⟨a, (x * (x % 5011 + 20029) + 41 * (c + 1)) % 2147483399, c + 1, (x * (x % 5011 + 20029) + 41 * (c + 1)) % 2147483399 / 739 % b, ha, s0, s1, by omega, by omega, Int.emod_nonneg _ (by omega), Int.emod_lt_of_pos _ hb, ?_⟩
    have m1 : mulOk m 41023 = true := mulOk_of (sml (by omega) (by omega)) (sml (by decide) (by decide))
    have m2 : mulOk 60029 (c + 1) = true := mulOk_of (sml (by decide) (by decide)) (sml (by omega) (by omega))
    have m3 : mulOk x (x % 5011 + 20029) = true := mulOk_of (sml (by omega) (by omega)) (sml (by omega) (by omega))
    have m4 : mulOk 41 (c + 1) = true := mulOk_of (sml (by decide) (by decide)) (sml (by omega) (by omega))
    have d1 : divOk 739 = true := by decide +kernel
    have p1 : (0 : Int) < 2147483399 := by decide
    have p2 : (0 : Int) < 5011 := by decide
    simp only [fPull, evSs, evS, evE, evB, evEs, evT, evTs, bindk_ok, ofO_some, List.map_cons, List.map_nil, List.replicate, List.cons_append, List.nil_append, List.getElem?_cons_zero, List.getElem?_cons_succ, items_lo hS, at0, at1, at2, cop_gt, tr_bl, h0, decide_false, if_true, Option.map, ITs.len, List.length_cons, List.length_nil, hS, ix0, ix1, ix2, List.set_cons_zero, List.set_cons_succ, Bool.false_eq_true, if_false,
      bop_add, items_lo (hset _), hset, bop_mul m1, bop_mul m2, bop_mod p1, bf_int, hx, bop_mod p2, bop_mul m3, bop_mul m4, bop_fdiv d1, bop_mod hb, List.set_set]
    have := leave_set (S := S) (X := []) (n := n) (d := .int ((x * (x % 5011 + 20029) + 41 * (c + 1)) % 2147483399 / 739 % b)) (ds := [.int a, .int ((x * (x % 5011 + 20029) + 41 * (c + 1)) % 2147483399), .int (c + 1)]) rfl rfl
    rw [List.append_nil] at this
    exact this
theorem bf_lenT {S : Store} {ds : List D} : bf S .len [.tup ds] = some (.int (ds.length : Int)) := rfl
theorem bf_lenF {S : Store} {ds : List D} : bf S .len [.fz ds] = some (.int (ds.length : Int)) := rfl
theorem itm_tup {S : Store} {ds : List D} : items S (.tup ds) = some ds := rfl
theorem itm_lv {S : Store} {ds : List D} : items S (.lv ds) = some ds := rfl
theorem itm_fz {S : Store} {ds : List D} : items S (.fz ds) = some ds := rfl
theorem atI_of {α : Type} {xs : List α} {i : Int} {x : α} (h0 : 0 ≤ i) (h : xs[i.toNat]? = some x) : atI xs i = some x := by
  have hl := (List.getElem?_eq_some_iff.mp h).1
  unfold atI ixN
  rw [if_pos h0, if_pos (by omega)]
  exact h
theorem still_of_mem {ds : List D} (h : stills ds = true) {d : D} (hd : d ∈ ds) : still d = true := by
  induction ds with
  | nil => cases hd
  | cons e ds ih =>
    have h' : (still e && stills ds) = true := h
    rw [Bool.and_eq_true] at h'
    rcases List.mem_cons.mp hd with q | q
    · rw [q]; exact h'.1
    · exact ih h'.2 q
/-- one of some -/
theorem one_ok (hT : T (Str.ofString "_law_pull") = some fPull) (hT1 : T (Str.ofString "_law_one") = some fOne) {n : Nat} {S : Store} {a m c : Int} {ds : List D} (hS : S[n]? = some (.lst [.int a, .int m, .int c])) (ha : 0 ≤ a) (hm : 0 ≤ m) (hm2 : m < 2147483399) (hc : 0 ≤ c) (hc2 : c < 1000000000) (hd : 0 < ds.length) (hd2 : ds.length < 1073741824)
    (hst : stills ds = true) : ∃ a' m' c' d, 0 ≤ a' ∧ 0 ≤ m' ∧ m' < 2147483399 ∧ 0 ≤ c' ∧ c' ≤ c + 1 ∧ d ∈ ds ∧
      call T G (k + 2) (Str.ofString "_law_one") [.lo n, .tup ds] S = .ok d (S.set n (.lst [.int a', .int m', .int c'])) := by
  obtain ⟨a', m', c', f, h1, h2, h3, h4, h5, h6, h7, h8⟩ := pull_ok (G := G) (k := k) hT (b := (ds.length : Int)) hS ha hm hm2 hc hc2 (by omega) (by omega)
  have hf : f.toNat < ds.length := by omega
  refine ⟨a', m', c', ds[f.toNat], h1, h2, h3, h4, h5, List.getElem_mem hf, ?_⟩
  rw [call_eq hT1 rfl]
  have ea := atI_of h6 (List.getElem?_eq_getElem hf)
  simp only [fOne, evSs, evS, evE, evB, evEs, evT, evTs, bindk_ok, ofO_some, List.map_cons, List.map_nil, List.replicate, List.cons_append, List.nil_append, List.getElem?_cons_zero, List.getElem?_cons_succ, bf_lenT, h8, itm_tup, ea, Bool.false_eq_true, if_false]
  have := leave_set (S := S) (X := []) (n := n) (d := ds[f.toNat]) (ds := [.int a', .int m', .int c']) (still_of_mem hst (List.getElem_mem hf)) rfl
  rw [List.append_nil] at this
  exact this
theorem bop_pow15 {S : Store} : bop S .pow (.int 10) (.int 15) = some (.int 1000000000000000) := rfl
theorem mem_slice {ds : List D} {lo hi : Option Int} {d : D} (h : d ∈ cutD ds lo hi) : d ∈ ds := by
  unfold cutD at h
  exact List.mem_of_mem_drop (List.mem_of_mem_take h)
/-- the urn of a turn -/
theorem urn_ok (hT : T (Str.ofString "_law_urn") = some fUrn) (ns : List Int) (t : Nat) (ht : t < 1000) (S : Store) : WP (call T G (k + 1) (Str.ofString "_law_urn") [.fz (ns.map .int), .int (t : Int)] S) fun d S' =>
    ∃ a m : Int, 0 ≤ a ∧ 0 ≤ m ∧ m < 2147483399 ∧ d = .lo S.length ∧ S' = S ++ [.lst [.int a, .int m, .int 0]] := by
  rw [call_eq hT rfl]
  have m0 : mulOk 8581 (t : Int) = true := mulOk_of (sml (by decide) (by decide)) (sml (by omega) (by omega))
  have p1 : (0 : Int) < 2147483399 := by decide
  have hP : ∀ x : Int, 0 ≤ x % 2147483399 ∧ x % 2147483399 < 2147483399 := fun x => ⟨Int.emod_nonneg _ (by decide), Int.emod_lt_of_pos _ (by decide)⟩
  simp only [fUrn, evSs, evS, evE, evB, evEs, evT, evTs, evI, evO, bindk_ok, ofO_some, List.map_cons, List.map_nil, List.replicate, List.cons_append, List.nil_append, List.getElem?_cons_zero, List.getElem?_cons_succ, bop_mul m0, bop_add, List.set_cons_zero, List.set_cons_succ, itm_lv, if_true]
  rw [wp_bind, wp_bind]
  refine wp_forL (fun rest η S1 => (∀ d ∈ rest, ∃ y : Int, d = .int y) ∧ ∃ (m' : Int) (x : Option D), 0 ≤ m' ∧ m' < 2147483399000 ∧ S1 = S ∧ η = [some (.fz (ns.map .int)), some (.int (t : Int)), some (.int m'), x, none]) ?_ (fun _ _ _ _ => rfl) ?_ ?_
  · refine ⟨fun d hd => ?_, _, none, ?_, ?_, rfl, rfl⟩
    · obtain ⟨y, _, rfl⟩ := List.mem_map.mp (mem_slice hd)
      exact ⟨y, rfl⟩
    · omega
    · omega
  · rintro d ds η S1 ⟨hl, m', x, q1, q2, rfl, rfl⟩
    obtain ⟨y, rfl⟩ := hl d (List.mem_cons_self ..)
    obtain ⟨y0, y1⟩ := hP y
    have m1 : mulOk m' 46099 = true := mulOk_of (sml (by omega) (by omega)) (sml (by decide) (by decide))
    have m2 : mulOk (y % 2147483399) 7 = true := mulOk_of (sml (by omega) (by omega)) (sml (by decide) (by decide))
    simp only [wp_ok, List.getElem?_cons_zero, List.getElem?_cons_succ, List.set_cons_zero, List.set_cons_succ, bindk_ok, ofO_some, bop_mul m1, bf_int, bop_mod p1, bop_mul m2, bop_add, FQ]
    obtain ⟨z0, z1⟩ := hP (m' * 46099 + y % 2147483399 * 7 + 29)
    exact ⟨fun e he => hl e (List.mem_cons_of_mem _ he), _, _, z0, by omega, trivial, rfl⟩
  · rintro η S1 ⟨_, m', x, q1, q2, rfl, rfl⟩
    have own : ∃ o : Int, (((if (t : Int) < ((ns.map D.int).length : Int) then ((Res.ofO (atI (ns.map D.int) (t : Int)) S1).bind fun d S => Res.ok [d] S).bind fun ds S => Res.ofO (bf S .int ds) S else .ok (.int 0) S1))) = .ok (.int o) S1 := by
      by_cases h : (t : Int) < ((ns.map D.int).length : Int)
      · rw [if_pos h]
        have ht2 : t < ns.length := by rw [List.length_map] at h; omega
        have e : atI (ns.map D.int) (t : Int) = some (.int ns[t]) := atI_of (by omega) (by rw [Int.toNat_natCast, List.getElem?_map, List.getElem?_eq_getElem ht2]; rfl)
        rw [e]
        exact ⟨ns[t], rfl⟩
      · rw [if_neg h]; exact ⟨0, rfl⟩
    obtain ⟨o, ho⟩ := own
    obtain ⟨y0, y1⟩ := hP o
    have m1 : mulOk m' 59 = true := mulOk_of (sml (by omega) (by omega)) (sml (by decide) (by decide))
    have m2 : mulOk (o % 2147483399) 20021 = true := mulOk_of (sml (by omega) (by omega)) (sml (by decide) (by decide))
    simp only [List.getElem?_cons_zero, List.getElem?_cons_succ, List.set_cons_zero, List.set_cons_succ, bindk_ok, ofO_some, bf_lenF, cop_lt, Option.map, tr_bl, itm_fz, decide_eq_true_eq]
    rw [ho]
    obtain ⟨z0, z1⟩ := hP (m' * 59 + o % 2147483399 * 20021 + 11)
    simp only [List.getElem?_cons_zero, List.getElem?_cons_succ, List.set_cons_zero, List.set_cons_succ, bindk_ok, ofO_some, bop_mul m1, bop_mul m2, bf_int, bop_mod p1, bop_add, cop_lt, cop_ge, Option.map, tr_bl, bop_pow15, bf_abs]
    by_cases h1 : o < 0
    · simp only [h1, decide_true, if_true, bindk_ok, ofO_some, List.length_cons, List.length_nil]
      exact wp_ok.mpr (wp_ok.mpr ⟨-o, _, by omega, z0, z1, rfl, rfl⟩)
    · by_cases h2 : (1000000000000000 : Int) ≤ o
      · simp only [h1, h2, decide_true, decide_false, Bool.false_eq_true, if_false, if_true, bindk_ok, ofO_some, List.length_cons, List.length_nil]
        exact wp_ok.mpr (wp_ok.mpr ⟨o, _, by omega, z0, z1, rfl, rfl⟩)
      · simp only [h1, h2, decide_true, decide_false, Bool.false_eq_true, if_false, if_true, bindk_ok, ofO_some, List.length_cons, List.length_nil]
        exact wp_ok.mpr (wp_ok.mpr ⟨0, _, by omega, z0, z1, rfl, rfl⟩)
def fLaw (M : Int) : Fn := ⟨2, 1, false, (.cons (.forr (.name 1) (.rng1 (.blt .max (.cons (.int 2) (.cons (.blt .min (.cons (.blt .len (.cons (.var 0) .nil)) (.cons (.int M) .nil))) .nil)))) (.cons (.iff (.not (.val (.call (Str.ofString "_law_right") (.cons (.call (Str.ofString "_law_urn") (.cons (.var 0) (.cons (.var 1) .nil))) .nil)))) (.cons (.ret (.bl false)) .nil) .nil) .nil)) (.cons (.ret (.bl true)) .nil))⟩
theorem rng_ints : ∀ (n : Nat) (lo : Int), ∀ d ∈ rng lo n, ∃ j : Nat, j < n ∧ d = .int (lo + j)
  | 0, _, _, h => by unfold rng at h; cases h
  | n + 1, lo, d, h => by
    unfold rng at h
    rcases List.mem_cons.mp h with e | e
    · exact ⟨0, by omega, by rw [e]; simp⟩
    · obtain ⟨j, h1, h2⟩ := rng_ints n (lo + 1) d e
      exact ⟨j + 1, by omega, by rw [h2]; congr 1; omega⟩
theorem leave_nil {d : D} {S : Store} (h : still d = true) : leave [] (.ok d S) = .ok d [] := leave_ext (S := []) (X := S) h
/-- the law, from one turn of it -/
theorem law_ok {k : Nat} {M : Int} (hM : 2 ≤ M ∧ M < 1000) (hL : T (Str.ofString "law") = some (fLaw M)) (hU : T (Str.ofString "_law_urn") = some fUrn)
    (hR : ∀ (S : Store) (n : Nat) (a m : Int), S[n]? = some (.lst [.int a, .int m, .int 0]) → 0 ≤ a → 0 ≤ m → m < 2147483399 → WP (call T G (k + 1) (Str.ofString "_law_right") [.lo n] S) fun d _ => d = .bl true)
    (ns : List Int) (hn : ns.length ≤ 63) : call T G (k + 2) (Str.ofString "law") [.fz (ns.map .int)] [] = .ok (.bl true) [] := by
  rw [call_eq hL rfl]
  have main : WP (evSs (call T G (k + 1)) G (fLaw M).body ([D.fz (ns.map .int)].map some ++ List.replicate ((fLaw M).ns - (fLaw M).np) none) []) fun f _ => f = .rt (.bl true) := by
    have hmin : ∃ j : Int, 2 ≤ j ∧ j ≤ M ∧ j = (if (if M < ((ns.map D.int).length : Int) then M else ((ns.map D.int).length : Int)) > 2 then (if M < ((ns.map D.int).length : Int) then M else ((ns.map D.int).length : Int)) else 2) := ⟨_, by split <;> omega, by split <;> split <;> omega, rfl⟩
    obtain ⟨j, j1, j2, j3⟩ := hmin
    have hj : -(2 ^ 62) ≤ j ∧ j < 2 ^ 62 := by omega
    simp only [fLaw, evSs, evS, evE, evB, evEs, evT, evTs, evI, evO, bindk_ok, ofO_some, List.map_cons, List.map_nil, List.replicate, List.cons_append, List.nil_append, List.getElem?_cons_zero, List.getElem?_cons_succ, bf_lenF]
    have e1 : bf ([] : Store) .min [.int ((ns.map D.int).length : Int), .int M] = some (.int (if M < ((ns.map D.int).length : Int) then M else ((ns.map D.int).length : Int))) := rfl
    have e2 : bf ([] : Store) .max [.int 2, .int (if M < ((ns.map D.int).length : Int) then M else ((ns.map D.int).length : Int))] = some (.int j) := by rw [j3]; rfl
    simp only [e1, e2, bindk_ok, ofO_some, hj, and_self, if_true]
    rw [wp_bind]
    refine wp_forL (fun rest η S1 => (∀ d ∈ rest, ∃ t : Nat, t < 1000 ∧ d = .int (t : Int)) ∧ ∃ x : Option D, η = [some (.fz (ns.map .int)), x]) ?_ (fun _ _ _ _ => rfl) ?_ ?_
    · refine ⟨fun d hd => ?_, none, rfl⟩
      obtain ⟨i, h1, rfl⟩ := rng_ints _ _ d hd
      exact ⟨i, by omega, by congr 1; omega⟩
    · rintro d ds η S1 ⟨hl, x, rfl⟩
      obtain ⟨t, ht, rfl⟩ := hl d (List.mem_cons_self ..)
      obtain ⟨d1, S2, hc, a, m, h1, h2, h3, rfl, rfl⟩ := urn_ok (G := G) (k := k) hU ns t ht S1
      obtain ⟨d2, S3, hc2, rfl⟩ := hR (S1 ++ [.lst [.int a, .int m, .int 0]]) S1.length a m (by rw [List.getElem?_append_right (Nat.le_refl _), Nat.sub_self]; rfl) h1 h2 h3
      simp only [wp_ok, List.getElem?_cons_zero, List.getElem?_cons_succ, List.set_cons_zero, List.set_cons_succ, bindk_ok, ofO_some, hc, hc2, tr_bl, Bool.not_true, Bool.false_eq_true, if_false, FQ]
      exact ⟨fun e he => hl e (List.mem_cons_of_mem _ he), _, rfl⟩
    · rintro η S1 ⟨_, x, rfl⟩
      simp only [wp_ok, bindk_ok]
  obtain ⟨f, S', h1, rfl⟩ := main
  rw [h1]
  show leave ([] : Store) (Res.ok (D.bl true) S') = Res.ok (D.bl true) []
  exact leave_nil rfl
end
end Py

set_option Elab.async false
set_option linter.all false
set_option maxRecDepth 100000
set_option maxHeartbeats 4000000
/-! repr(told) == repr(due) of numbers, tuples, lists. -/
namespace Py
open PySem PySem.Spec PyProof.Rows L2

theorem sk_str (s : String) : PyData.strOk (Str.ofString s) = true := by
  unfold PyData.strOk
  rw [Array.all_eq_true_iff_forall_mem]
  intro c hc
  have hc := Array.mem_toList_iff.mpr hc
  rw [signs_ofString] at hc
  obtain ⟨ch, _, rfl⟩ := List.mem_map.mp hc
  refine decide_eq_true ?_
  have hv := ch.valid
  show ch.val.toNat < 0x110000
  rcases hv with h | h
  · exact Nat.lt_trans h (by decide)
  · exact h.2
theorem sk_app {a b : Str} (ha : PyData.strOk a = true) (hb : PyData.strOk b = true) : PyData.strOk (a ++ b) = true := by
  unfold PyData.strOk at *
  show (a.cps ++ b.cps).all _ = true
  rw [Array.all_append, ha, hb]; rfl
theorem sk_text : ∀ (ts : List Str) (k : Nat) (acc : Str), PyData.strOk acc = true → (∀ t ∈ ts, PyData.strOk t = true) → PyData.strOk (textFrom k acc ts) = true
  | [], _, acc, h, _ => h
  | t :: ts, k, acc, h, ht => sk_text ts (k + 1) _ (sk_app (sk_app h (sk_str _)) (ht t (List.mem_cons_self ..))) fun u hu => ht u (List.mem_cons_of_mem _ hu)
theorem sk_list {ts : List Str} (h : ∀ t ∈ ts, PyData.strOk t = true) : PyData.strOk (listText ts) = true := sk_app (sk_text ts 0 _ (sk_str _) h) (sk_str _)
theorem sk_join (sep : Str) (hs : PyData.strOk sep = true) : ∀ ts : List Str, (∀ t ∈ ts, PyData.strOk t = true) → PyData.strOk (Str.join sep ts) = true
  | [], _ => by show PyData.strOk Str.empty = true; decide +kernel
  | [x], h => h x (List.mem_cons_self ..)
  | x :: y :: r, h => sk_app (sk_app (h x (List.mem_cons_self ..)) hs) (sk_join sep hs (y :: r) fun t ht => h t (List.mem_cons_of_mem _ ht))
theorem sk_tup {ts : List Str} (h : ∀ t ∈ ts, PyData.strOk t = true) : PyData.strOk (tupleText ts) = true := sk_app (sk_app (sk_str _) (sk_join _ (sk_str _) ts h)) (sk_str _)

mutual
/-- numbers, bools, None, tuples and lists of them -/
def numD : D → Bool
  | .non => true
  | .bl _ => true
  | .int i => decide (i.natAbs < 10 ^ 12)
  | .tup ds => numDs ds
  | .lv ds => numDs ds
  | .fz ds => numDs ds
  | _ => false
def numDs : List D → Bool
  | [] => true
  | d :: ds => numD d && numDs ds
end
mutual
def depD : D → Nat
  | .tup ds => depDs ds + 1
  | .lv ds => depDs ds + 1
  | .fz ds => depDs ds + 1
  | _ => 0
def depDs : List D → Nat
  | [] => 0
  | d :: ds => max (depD d) (depDs ds)
end
mutual
theorem num_toP : ∀ {d : D}, numD d = true → ∃ p, toP d = some p ∧ p.showable = true ∧ p.leavesShort 13 = true ∧ PyData.strOk p.shown = true
  | .non, _ => ⟨.none, rfl, rfl, rfl, sk_str _⟩
  | .bl b, _ => ⟨.bool b, rfl, rfl, rfl, by cases b <;> exact sk_str _⟩
  | .int i, h => by
    have h' : i.natAbs < 10 ^ 12 := of_decide_eq_true h
    refine ⟨.int i, rfl, ?_, ?_, sk_str _⟩
    · refine decide_eq_true ?_
      by_cases z : i.natAbs = 0
      · rw [z]; decide
      · exact Nat.lt_of_lt_of_le ((Nat.log2_lt z (k := 64)).mpr (Nat.lt_of_lt_of_le h' (by decide))) (by decide)
    · exact decide_eq_true (PyData.shown_int_le h')
  | .tup ds, h => by
    obtain ⟨ps, e1, e2, e3, e4⟩ := nums_toP (show numDs ds = true from h)
    exact ⟨.tuple ps, by show (toPs ds).map _ = _; rw [e1]; rfl, e2, e3, sk_tup e4⟩
  | .lv ds, h => by
    obtain ⟨ps, e1, e2, e3, e4⟩ := nums_toP (show numDs ds = true from h)
    exact ⟨.list ps, by show (toPs ds).map _ = _; rw [e1]; rfl, e2, e3, sk_list e4⟩
  | .fz ds, h => by
    obtain ⟨ps, e1, e2, e3, e4⟩ := nums_toP (show numDs ds = true from h)
    exact ⟨.list ps, by show (toPs ds).map _ = _; rw [e1]; rfl, e2, e3, sk_list e4⟩
theorem nums_toP : ∀ {ds : List D}, numDs ds = true → ∃ ps, toPs ds = some ps ∧ PyData.showableAll ps = true ∧ PyData.leavesShortAll 13 ps = true ∧ ∀ t ∈ PyData.shownAll ps, PyData.strOk t = true
  | [], _ => ⟨[], rfl, rfl, rfl, fun _ h => nomatch h⟩
  | d :: ds, h => by
    have h' : (numD d && numDs ds) = true := h
    rw [Bool.and_eq_true] at h'
    obtain ⟨p, a1, a2, a3, a4⟩ := num_toP h'.1
    obtain ⟨ps, b1, b2, b3, b4⟩ := nums_toP h'.2
    refine ⟨p :: ps, by unfold toPs; rw [a1, b1], ?_, ?_, fun t ht => ?_⟩
    · show (p.showable && PyData.showableAll ps) = true
      rw [a2, b2]; rfl
    · show (p.leavesShort 13 && PyData.leavesShortAll 13 ps) = true
      rw [a3, b3]; rfl
    · rcases List.mem_cons.mp ht with e | e
      · rw [e]; exact a4
      · exact b4 t e
end
/-- repr of such a thing; the text depends on the thing alone -/
theorem repr_num {S : Store} {d : D} {p : PyData} (hp : toP d = some p) (hn : numD d = true) (hd : p.depth ≤ 64) (hw : p.weight ≤ 2 ^ 20) (hr : deref S d = d) : bf S .repr [d] = some (.str p.shown) ∧ PyData.strOk p.shown = true := by
  obtain ⟨q, e1, e2, e3, e4⟩ := num_toP hn
  cases hp.symm.trans e1
  have hl := PyData.shown_fits (B := 13) (by decide) (by decide) e3 hw
  refine ⟨?_, e4⟩
  show (match toP (deref S d) with
    | some p => if p.showable && decide (p.depth ≤ 64) && decide (p.shown.length ≤ sizeLine) then some (D.str p.shown) else none
    | none => none) = _
  rw [hr, hp]
  show (if p.showable && decide (p.depth ≤ 64) && decide (p.shown.length ≤ sizeLine) then some (D.str p.shown) else none) = _
  rw [e2, decide_eq_true hd, decide_eq_true hl]; rfl
theorem cop_eq_str {S : Store} {x : Str} (h : PyData.strOk x = true) : cop S .eq (.str x) (.str x) = some true := by
  show eqP S (.str x) (.str x) = some true
  unfold eqP deref toP
  have : SeqAt.shaped (.str x) = true := by
    unfold SeqAt.shaped
    rw [show PyData.canLay0 (.str x) = true from h]
    simp [PyData.depth]
  simp [this, PyData.eqv]
def fIs : Fn := ⟨2, 2, false, (.cons (.ret (.cmp .eq (.blt .repr (.cons (.var 0) .nil)) (.blt .repr (.cons (.var 1) .nil)))) .nil)⟩
/-- _law_is of one thing twice -/
theorem is_ok {T : Str → Option Fn} {G : Str → Option D} {k : Nat} (hT : T (Str.ofString "_law_is") = some fIs) {S : Store} {d : D} {p : PyData} (hp : toP d = some p) (hn : numD d = true) (hd : p.depth ≤ 64) (hw : p.weight ≤ 2 ^ 20) (hr : deref S d = d) :
    call T G (k + 1) (Str.ofString "_law_is") [d, d] S = .ok (.bl true) S := by
  obtain ⟨e1, e2⟩ := repr_num hp hn hd hw hr
  rw [call_eq hT rfl]
  simp -implicitDefEqProofs only [fIs, evSs, evS, evE, evB, evEs, bindk_ok, ofO_some, List.map_cons, List.map_nil, List.replicate, List.cons_append, List.nil_append, List.getElem?_cons_zero, List.getElem?_cons_succ, Option.map, e1, cop_eq_str e2]
  show leave S (Res.ok (D.bl true) S) = _
  exact leave_same rfl
end Py

set_option Elab.async false
set_option linter.all false
set_option maxRecDepth 100000
set_option maxHeartbeats 4000000
/-! The urn, told without its place's neighbours. -/
namespace Py
open PySem PySem.Spec PyProof.Rows L2
def UrnAt (n : Nat) (S : Store) (t : Int) : Prop := ∃ a m c : Int, S[n]? = some (.lst [.int a, .int m, .int c]) ∧ 0 ≤ a ∧ 0 ≤ m ∧ m < 2147483399 ∧ 0 ≤ c ∧ c ≤ t
def Same (n : Nat) (S S' : Store) : Prop := S'.length = S.length ∧ ∀ i, i ≠ n → S'[i]? = S[i]?
theorem Same.refl {n : Nat} {S : Store} : Same n S S := ⟨rfl, fun _ _ => rfl⟩
theorem Same.trans {n : Nat} {S S1 S2 : Store} (a : Same n S S1) (b : Same n S1 S2) : Same n S S2 := ⟨b.1.trans a.1, fun i h => (b.2 i h).trans (a.2 i h)⟩
theorem Same.set {n : Nat} {S : Store} {c : Cell} : Same n S (S.set n c) := ⟨List.length_set .., fun i h => List.getElem?_set_ne (Ne.symm h)⟩
theorem UrnAt.lt {n : Nat} {S : Store} {t : Int} (u : UrnAt n S t) : n < S.length := let ⟨_, _, _, h, _⟩ := u; (List.getElem?_eq_some_iff.mp h).1
theorem UrnAt.app {n : Nat} {S X : Store} {t : Int} (u : UrnAt n S t) : UrnAt n (S ++ X) t := by
  have hl := u.lt
  obtain ⟨a, m, c, h, r⟩ := u
  exact ⟨a, m, c, by rw [List.getElem?_append_left hl]; exact h, r⟩
theorem UrnAt.other {n i : Nat} {S : Store} {t : Int} {c : Cell} (u : UrnAt n S t) (h : i ≠ n) : UrnAt n (S.set i c) t := by
  obtain ⟨a, m, c, e, r⟩ := u
  exact ⟨a, m, c, by rw [List.getElem?_set_ne h]; exact e, r⟩
section
variable {T : Str → Option Fn} {G : Str → Option D} {k : Nat}
theorem pull' (hT : T (Str.ofString "_law_pull") = some fPull) {n : Nat} {S : Store} {t b : Int} (u : UrnAt n S t) (ht : t < 100000000) (hb : 0 < b) (hb2 : b < 1073741824) :
    ∃ f S', 0 ≤ f ∧ f < b ∧ call T G (k + 1) (Str.ofString "_law_pull") [.lo n, .int b] S = .ok (.int f) S' ∧ Same n S S' ∧ UrnAt n S' (t + 1) := by
  obtain ⟨a, m, c, h, h1, h2, h3, h4, h5⟩ := u
  obtain ⟨a', m', c', f, r1, r2, r3, r4, r5, r6, r7, r8⟩ := pull_ok (G := G) (k := k) hT h h1 h2 h3 h4 (by omega) hb hb2
  exact ⟨f, _, r6, r7, r8, Same.set, a', m', c', set_get h, r1, r2, r3, r4, by omega⟩
theorem one' (hT : T (Str.ofString "_law_pull") = some fPull) (hT1 : T (Str.ofString "_law_one") = some fOne) {n : Nat} {S : Store} {t : Int} {ds : List D} (u : UrnAt n S t) (ht : t < 100000000) (hd : 0 < ds.length) (hd2 : ds.length < 1073741824) (hst : stills ds = true) :
    ∃ d S', d ∈ ds ∧ call T G (k + 2) (Str.ofString "_law_one") [.lo n, .tup ds] S = .ok d S' ∧ Same n S S' ∧ UrnAt n S' (t + 1) := by
  obtain ⟨a, m, c, h, h1, h2, h3, h4, h5⟩ := u
  obtain ⟨a', m', c', d, r1, r2, r3, r4, r5, r6, r7⟩ := one_ok (G := G) (k := k) hT hT1 h h1 h2 h3 h4 (by omega) hd hd2 hst
  exact ⟨d, _, r6, r7, Same.set, a', m', c', set_get h, r1, r2, r3, r4, by omega⟩
end
/-- a block that has changed the urn alone, and made lists of its own -/
theorem leave_urn {n : Nat} {S S' : Store} {d : D} {t : Int} (hn : n < S.length) (hl : S.length ≤ S'.length) (h : ∀ i, i < S.length → i ≠ n → S'[i]? = S[i]?) (u : UrnAt n S' t) (hd : still d = true) : leave S (.ok d S') = .ok d (S'.take S.length) := by
  unfold leave
  dsimp only
  rw [if_pos, rs_still hd]
  refine ⟨hl, fun i hi => ?_⟩
  by_cases e : i = n
  · subst e
    obtain ⟨a, m, c, h, _⟩ := u
    exact .inr ⟨_, h, rfl⟩
  · exact .inl (h i hi e)
theorem bop_pow2 {S : Store} {i : Int} (h : i.natAbs < 2 ^ 64) : bop S .pow (.int i) (.int 2) = some (.int (i ^ 2)) := by
  show (if 0 ≤ (2 : Int) ∧ (2 : Int) ≤ 1000000 ∧ i.natAbs < 2 ^ 64 then some (D.int (i ^ (2 : Int).toNat)) else none) = _
  rw [if_pos ⟨by decide, by decide, h⟩]; rfl
end Py

set_option Elab.async false
set_option linter.all false
set_option maxRecDepth 100000
set_option maxHeartbeats 4000000
/-! Comprehensions with a test, one of a list. -/
namespace Py
open PySem PySem.Spec PyProof.Rows L2
theorem comL_flt {g : Store → Bool} {asg : D → Option Sl} {t : Sl → Store → Res Bool} {e : Sl → Store → Res D} {S : Store} (hg : ∀ S, g S = true) (q : D → Bool) (f : D → D) :
    ∀ (ds acc : List D), acc.length + ds.length ≤ sizeLine → (∀ d ∈ ds, ∃ η, asg d = some η ∧ ∀ acc, t η (S ++ [.lst acc]) = .ok (q d) (S ++ [.lst acc]) ∧ (q d = true → e η (S ++ [.lst acc]) = .ok (f d) (S ++ [.lst acc]))) →
    comL g asg t e S.length ds (S ++ [.lst acc]) = .ok (.lo S.length) (S ++ [.lst (acc ++ (ds.filter q).map f)])
  | [], acc, _, _ => by unfold comL; rw [if_pos (hg _), List.filter_nil, List.map_nil, List.append_nil]
  | d :: ds, acc, hz, h => by
    obtain ⟨η, h1, h2⟩ := h d (List.mem_cons_self ..)
    obtain ⟨h3, h4⟩ := h2 acc
    rw [List.length_cons] at hz
    unfold comL
    rw [if_pos (hg _), h1]
    simp only [h3, bindN_ok]
    cases hq : q d with
    | false =>
      rw [if_neg (by decide), comL_flt hg q f ds acc (by omega) fun d' hd => h d' (List.mem_cons_of_mem _ hd)]
      rw [List.filter_cons_of_neg (by rw [hq]; decide)]
    | true =>
      rw [if_pos rfl]
      simp only [h4 hq, bindN_ok]
      rw [List.getElem?_append_right (Nat.le_refl _), Nat.sub_self]
      simp only [List.getElem?_cons_zero]
      rw [if_pos (show acc.length < sizeLine by omega)]
      have e1 : (S ++ [Cell.lst acc]).set S.length (.lst (acc ++ [f d])) = S ++ [.lst (acc ++ [f d])] := by
        rw [List.set_append_right _ _ (Nat.le_refl _), Nat.sub_self]; rfl
      rw [e1, comL_flt hg q f ds (acc ++ [f d]) (by rw [List.length_append, List.length_singleton]; omega) fun d' hd => h d' (List.mem_cons_of_mem _ hd)]
      rw [List.filter_cons_of_pos hq, List.map_cons, List.append_assoc]; rfl
theorem comp_flt {g : Store → Bool} {asg : D → Option Sl} {t : Sl → Store → Res Bool} {e : Sl → Store → Res D} {S : Store} (hg : ∀ S, g S = true) (q : D → Bool) (f : D → D) (ds : List D) (hz : ds.length ≤ sizeLine) (hs : ∀ d ∈ ds, still (f d) = true)
    (h : ∀ d ∈ ds, ∃ η, asg d = some η ∧ ∀ acc, t η (S ++ [.lst acc]) = .ok (q d) (S ++ [.lst acc]) ∧ (q d = true → e η (S ++ [.lst acc]) = .ok (f d) (S ++ [.lst acc]))) :
    leave S (comL g asg t e S.length ds (S ++ [.lst []])) = .ok (.lv ((ds.filter q).map f)) S := by
  rw [comL_flt hg q f ds [] (by simpa using hz) h, List.nil_append]
  exact leave_new (X := []) (stills_all fun d hd => by
    obtain ⟨x, hx, rfl⟩ := List.mem_map.mp hd
    exact hs x (List.mem_filter.mp hx).1)
theorem bf_lenL {S : Store} {ds : List D} : bf S .len [.lv ds] = some (.int (ds.length : Int)) := rfl
section
variable {T : Str → Option Fn} {G : Str → Option D} {k : Nat}
theorem one_lv (hT : T (Str.ofString "_law_pull") = some fPull) (hT1 : T (Str.ofString "_law_one") = some fOne) {n : Nat} {S : Store} {t : Int} {ds : List D} (u : UrnAt n S t) (ht : t < 100000000) (hd : 0 < ds.length) (hd2 : ds.length < 1073741824) (hst : stills ds = true) :
    ∃ d S', d ∈ ds ∧ call T G (k + 2) (Str.ofString "_law_one") [.lo n, .lv ds] S = .ok d S' ∧ Same n S S' ∧ UrnAt n S' (t + 1) := by
  obtain ⟨f, S', h1, h2, h3, h4, h5⟩ := pull' (G := G) (k := k) (b := (ds.length : Int)) hT u ht (by omega) (by omega)
  have hf : f.toNat < ds.length := by omega
  refine ⟨ds[f.toNat], S', List.getElem_mem hf, ?_, h4, h5⟩
  rw [call_eq hT1 rfl]
  have ea := atI_of h1 (List.getElem?_eq_getElem hf)
  simp -implicitDefEqProofs only [fOne, evSs, evS, evE, evB, evEs, evT, evTs, evI, evO, bindk_ok, ofO_some, List.map_cons, List.map_nil, List.replicate, List.cons_append, List.nil_append, List.getElem?_cons_zero, List.getElem?_cons_succ, List.set_cons_zero, List.set_cons_succ, Option.map, bf_lenL, h3, itm_lv, ea, Bool.false_eq_true, if_false]
  have hl := u.lt
  have := leave_urn (S := S) (S' := S') (d := ds[f.toNat]) (t := t + 1) hl (by rw [h4.1]; exact Nat.le_refl _) (fun i _ ne => h4.2 i ne) h5 (still_of_mem hst (List.getElem_mem hf))
  rw [← h4.1, List.take_length] at this
  exact this
end
end Py

set_option Elab.async false
set_option linter.all false
set_option maxRecDepth 100000
set_option maxHeartbeats 4000000
namespace K06
open PySem PySem.Spec PyProof.Rows L2 Py
/-- the text's own statements -/
def top (i : Nat) : Stmt := PySem.Challenge.pw_classprimes_k06_solutions_by_roots_of_wh.main.body.getD i (.Pass ⟨0, 0, 0, 0⟩)
def f_is_whole : Fn := ⟨1, 1, false, (.cons (.ret (.and (.isi "int" (.var 0)) (.not (.isi "bool" (.var 0))))) .nil)⟩
def d_is_whole : DefI := ⟨top 7, [(Str.ofString "value")], [(Str.ofString "value")], [], f_is_whole⟩
def f_is_within : Fn := ⟨3, 3, false, (.cons (.ret (.and (.call (Str.ofString "is_whole") (.cons (.var 0) .nil)) (.chain .le .le (.var 1) (.var 0) (.var 2)))) .nil)⟩
def d_is_within : DefI := ⟨top 8, [(Str.ofString "value"), (Str.ofString "low"), (Str.ofString "high")], [(Str.ofString "value"), (Str.ofString "low"), (Str.ofString "high")], [], f_is_within⟩
def f_are_wholes : Fn := ⟨3, 2, false, (.cons (.ret (.and (.isi "tuple" (.var 0)) (.and (.cmp .eq (.blt .len (.cons (.var 0) .nil)) (.var 1)) (.blt .all (.cons (.comp [2] true [2] (.seq (.var 0)) .yes (.call (Str.ofString "is_whole") (.cons (.var 2) .nil))) .nil))))) .nil)⟩
def d_are_wholes : DefI := ⟨top 9, [(Str.ofString "value"), (Str.ofString "many"), (Str.ofString "each")], [(Str.ofString "value"), (Str.ofString "many")], [], f_are_wholes⟩
def f_is_discriminant_by : Fn := ⟨1, 1, false, (.cons (.ret (.and (.call (Str.ofString "is_within") (.cons (.var 0) (.cons (.gl (Str.ofString "LOWEST")) (.cons (.gl (Str.ofString "HIGHEST")) .nil)))) (.cmp .inn (.op .mod (.var 0) (.int 4)) (.tup (.cons (.int 0) (.cons (.int 1) .nil)))))) .nil)⟩
def d_is_discriminant_by : DefI := ⟨top 13, [(Str.ofString "value")], [(Str.ofString "value")], [], f_is_discriminant_by⟩
def f_discriminant_by : Fn := ⟨1, 1, false, (.cons (.ret (.op .sub (.op .mul (.sub (.var 0) (.int 1)) (.sub (.var 0) (.int 1))) (.op .mul (.op .mul (.int 4) (.sub (.var 0) (.int 0))) (.sub (.var 0) (.int 2))))) .nil)⟩
def d_discriminant_by : DefI := ⟨top 16, [(Str.ofString "form")], [(Str.ofString "form")], [], f_discriminant_by⟩
def f_is_formed : Fn := ⟨1, 1, false, (.cons (.iff (.or (.not (.val (.call (Str.ofString "are_wholes") (.cons (.var 0) (.cons (.int 3) .nil))))) (.or (.val (.cmp .lt (.sub (.var 0) (.int 0)) (.int 1))) (.val (.cmp .ne (.blt .gcd (.cons (.blt .gcd (.cons (.sub (.var 0) (.int 0)) (.cons (.sub (.var 0) (.int 1)) .nil))) (.cons (.sub (.var 0) (.int 2)) .nil))) (.int 1))))) (.cons (.ret (.bl false)) .nil) .nil) (.cons (.ret (.call (Str.ofString "is_discriminant_by") (.cons (.call (Str.ofString "discriminant_by") (.cons (.var 0) .nil)) .nil))) .nil))⟩
def d_is_formed : DefI := ⟨top 17, [(Str.ofString "value")], [(Str.ofString "value")], [], f_is_formed⟩
def f_is_change_by : Fn := ⟨1, 1, false, (.cons (.ret (.and (.call (Str.ofString "are_wholes") (.cons (.var 0) (.cons (.int 4) .nil))) (.cmp .eq (.op .sub (.op .mul (.sub (.var 0) (.int 0)) (.sub (.var 0) (.int 3))) (.op .mul (.sub (.var 0) (.int 1)) (.sub (.var 0) (.int 2)))) (.int 1)))) .nil)⟩
def d_is_change_by : DefI := ⟨top 18, [(Str.ofString "value")], [(Str.ofString "value")], [], f_is_change_by⟩
def f_value_by : Fn := ⟨3, 3, false, (.cons (.ret (.op .add (.op .add (.op .mul (.op .mul (.sub (.var 0) (.int 0)) (.var 1)) (.var 1)) (.op .mul (.op .mul (.sub (.var 0) (.int 1)) (.var 1)) (.var 2))) (.op .mul (.op .mul (.sub (.var 0) (.int 2)) (.var 2)) (.var 2)))) .nil)⟩
def d_value_by : DefI := ⟨top 19, [(Str.ofString "form"), (Str.ofString "x"), (Str.ofString "y")], [(Str.ofString "form"), (Str.ofString "x"), (Str.ofString "y")], [], f_value_by⟩
def f_changed_by : Fn := ⟨7, 2, false, (.cons (.asg (.tup (.cons (.name 2) (.cons (.name 3) (.cons (.name 4) (.cons (.name 5) .nil))))) (.var 1)) (.cons (.asg (.name 6) (.op .add (.op .add (.op .mul (.op .mul (.op .mul (.int 2) (.sub (.var 0) (.int 0))) (.var 2)) (.var 3)) (.op .mul (.sub (.var 0) (.int 1)) (.op .add (.op .mul (.var 2) (.var 5)) (.op .mul (.var 3) (.var 4))))) (.op .mul (.op .mul (.op .mul (.int 2) (.sub (.var 0) (.int 2))) (.var 4)) (.var 5)))) (.cons (.ret (.tup (.cons (.call (Str.ofString "value_by") (.cons (.var 0) (.cons (.var 2) (.cons (.var 4) .nil)))) (.cons (.var 6) (.cons (.call (Str.ofString "value_by") (.cons (.var 0) (.cons (.var 3) (.cons (.var 5) .nil)))) .nil))))) .nil)))⟩
def d_changed_by : DefI := ⟨top 20, [(Str.ofString "form"), (Str.ofString "change"), (Str.ofString "p"), (Str.ofString "q"), (Str.ofString "r"), (Str.ofString "s"), (Str.ofString "middle")], [(Str.ofString "form"), (Str.ofString "change")], [], f_changed_by⟩
def f_after : Fn := ⟨6, 2, false, (.cons (.asg (.tup (.cons (.name 2) (.cons (.name 3) (.cons (.name 4) (.cons (.name 5) .nil))))) (.var 0)) (.cons (.ret (.tup (.cons (.op .add (.op .mul (.var 2) (.sub (.var 1) (.int 0))) (.op .mul (.var 3) (.sub (.var 1) (.int 2)))) (.cons (.op .add (.op .mul (.var 2) (.sub (.var 1) (.int 1))) (.op .mul (.var 3) (.sub (.var 1) (.int 3)))) (.cons (.op .add (.op .mul (.var 4) (.sub (.var 1) (.int 0))) (.op .mul (.var 5) (.sub (.var 1) (.int 2)))) (.cons (.op .add (.op .mul (.var 4) (.sub (.var 1) (.int 1))) (.op .mul (.var 5) (.sub (.var 1) (.int 3)))) .nil)))))) .nil))⟩
def d_after : DefI := ⟨top 21, [(Str.ofString "one"), (Str.ofString "two"), (Str.ofString "p"), (Str.ofString "q"), (Str.ofString "r"), (Str.ofString "s")], [(Str.ofString "one"), (Str.ofString "two")], [], f_after⟩
def f_reduction : Fn := ⟨3, 1, false, (.cons (.asg (.name 1) (.gl (Str.ofString "SAME"))) (.cons (.whl (.val (.bl true)) (.cons (.asg (.name 2) (.op .fdiv (.op .sub (.sub (.var 0) (.int 0)) (.sub (.var 0) (.int 1))) (.op .mul (.int 2) (.sub (.var 0) (.int 0))))) (.cons (.par 1 0 (.call (Str.ofString "after") (.cons (.var 1) (.cons (.tup (.cons (.int 1) (.cons (.var 2) (.cons (.int 0) (.cons (.int 1) .nil))))) .nil))) (.call (Str.ofString "changed_by") (.cons (.var 0) (.cons (.tup (.cons (.int 1) (.cons (.var 2) (.cons (.int 0) (.cons (.int 1) .nil))))) .nil)))) (.cons (.iff (.or (.val (.cmp .lt (.sub (.var 0) (.int 0)) (.sub (.var 0) (.int 2)))) (.and (.val (.cmp .eq (.sub (.var 0) (.int 0)) (.sub (.var 0) (.int 2)))) (.val (.cmp .ge (.sub (.var 0) (.int 1)) (.int 0))))) (.cons (.ret (.tup (.cons (.var 0) (.cons (.var 1) .nil)))) .nil) .nil) (.cons (.par 1 0 (.call (Str.ofString "after") (.cons (.var 1) (.cons (.tup (.cons (.int 0) (.cons (.neg (.int 1)) (.cons (.int 1) (.cons (.int 0) .nil))))) .nil))) (.call (Str.ofString "changed_by") (.cons (.var 0) (.cons (.tup (.cons (.int 0) (.cons (.neg (.int 1)) (.cons (.int 1) (.cons (.int 0) .nil))))) .nil)))) .nil))))) .nil))⟩
def d_reduction : DefI := ⟨top 22, [(Str.ofString "form"), (Str.ofString "change"), (Str.ofString "turns")], [(Str.ofString "form")], [], f_reduction⟩
def f_pairs_of : Fn := ⟨10, 2, false, (.cons (.par 2 3 (.lst true .nil) (.neg (.call (Str.ofString "discriminant_by") (.cons (.var 0) .nil)))) (.cons (.asg (.name 4) (.blt .isqrt (.cons (.op .fdiv (.op .mul (.op .mul (.int 4) (.sub (.var 0) (.int 0))) (.var 1)) (.var 3)) .nil))) (.cons (.forr (.name 5) (.rng2 (.neg (.var 4)) (.op .add (.var 4) (.int 1))) (.cons (.asg (.name 6) (.op .sub (.op .mul (.op .mul (.int 4) (.sub (.var 0) (.int 0))) (.var 1)) (.op .mul (.op .mul (.var 3) (.var 5)) (.var 5)))) (.cons (.asg (.name 7) (.blt .isqrt (.cons (.var 6) .nil))) (.cons (.iff (.val (.cmp .eq (.op .mul (.var 7) (.var 7)) (.var 6))) (.cons (.asg (.name 8) (.slc (.lst false (.cons (.op .sub (.var 7) (.op .mul (.sub (.var 0) (.int 1)) (.var 5))) (.cons (.op .sub (.neg (.var 7)) (.op .mul (.sub (.var 0) (.int 1)) (.var 5))) .nil))) .none (.some (.op .add (.int 1) (.blt .int (.cons (.cmp .gt (.var 7) (.int 0)) .nil)))))) (.cons (.expr (.extend (.var 2) (.comp [9] true [9] (.seq (.var 8)) (.val (.cmp .eq (.op .mod (.var 9) (.op .mul (.int 2) (.sub (.var 0) (.int 0)))) (.int 0))) (.tup (.cons (.op .fdiv (.var 9) (.op .mul (.int 2) (.sub (.var 0) (.int 0)))) (.cons (.var 5) .nil)))))) .nil)) .nil) .nil)))) (.cons (.ret (.var 2)) .nil))))⟩
def d_pairs_of : DefI := ⟨top 23, [(Str.ofString "form"), (Str.ofString "number"), (Str.ofString "found"), (Str.ofString "size"), (Str.ofString "most"), (Str.ofString "y"), (Str.ofString "square"), (Str.ofString "root"), (Str.ofString "tops"), (Str.ofString "top")], [(Str.ofString "form"), (Str.ofString "number")], [(Str.ofString "found")], f_pairs_of⟩
def f_solutions_by : Fn := ⟨9, 2, false, (.cons (.asg (.tup (.cons (.name 2) (.cons (.tup (.cons (.name 3) (.cons (.name 4) (.cons (.name 5) (.cons (.name 6) .nil))))) .nil))) (.call (Str.ofString "reduction") (.cons (.var 0) .nil))) (.cons (.ret (.blt .tuple (.cons (.blt .sort (.cons (.comp [7, 8] false [7, 8] (.seq (.call (Str.ofString "pairs_of") (.cons (.var 2) (.cons (.var 1) .nil)))) .yes (.tup (.cons (.op .add (.op .mul (.var 3) (.var 7)) (.op .mul (.var 4) (.var 8))) (.cons (.op .add (.op .mul (.var 5) (.var 7)) (.op .mul (.var 6) (.var 8))) .nil)))) .nil)) .nil))) .nil))⟩
def d_solutions_by : DefI := ⟨top 24, [(Str.ofString "form"), (Str.ofString "number"), (Str.ofString "here"), (Str.ofString "p"), (Str.ofString "q"), (Str.ofString "r"), (Str.ofString "s"), (Str.ofString "x"), (Str.ofString "y")], [(Str.ofString "form"), (Str.ofString "number")], [], f_solutions_by⟩
def f_check_form : Fn := ⟨1, 1, false, (.cons (.iff (.not (.val (.call (Str.ofString "is_formed") (.cons (.var 0) .nil)))) (.cons .never .nil) .nil) .nil)⟩
def d_check_form : DefI := ⟨top 26, [(Str.ofString "value")], [(Str.ofString "value")], [], f_check_form⟩
def f_check_change : Fn := ⟨1, 1, false, (.cons (.iff (.not (.val (.call (Str.ofString "is_change_by") (.cons (.var 0) .nil)))) (.cons .never .nil) .nil) .nil)⟩
def d_check_change : DefI := ⟨top 27, [(Str.ofString "value")], [(Str.ofString "value")], [], f_check_change⟩
def f_check_number : Fn := ⟨3, 3, false, (.cons (.iff (.not (.val (.call (Str.ofString "is_within") (.cons (.var 0) (.cons (.var 1) (.cons (.var 2) .nil)))))) (.cons .never .nil) .nil) .nil)⟩
def d_check_number : DefI := ⟨top 28, [(Str.ofString "value"), (Str.ofString "low"), (Str.ofString "high")], [(Str.ofString "value"), (Str.ofString "low"), (Str.ofString "high")], [], f_check_number⟩
def f_solutions : Fn := ⟨2, 2, false, (.cons (.expr (.call (Str.ofString "check_form") (.cons (.var 0) .nil))) (.cons (.expr (.call (Str.ofString "check_number") (.cons (.var 1) (.cons (.int 0) (.cons (.gl (Str.ofString "MOST_VALUE")) .nil))))) (.cons (.ret (.call (Str.ofString "solutions_by") (.cons (.var 0) (.cons (.var 1) .nil)))) .nil)))⟩
def d_solutions : DefI := ⟨top 31, [(Str.ofString "form"), (Str.ofString "number")], [(Str.ofString "form"), (Str.ofString "number")], [], f_solutions⟩
def f_changed : Fn := ⟨2, 2, false, (.cons (.expr (.call (Str.ofString "check_form") (.cons (.var 0) .nil))) (.cons (.expr (.call (Str.ofString "check_change") (.cons (.var 1) .nil))) (.cons (.ret (.call (Str.ofString "changed_by") (.cons (.var 0) (.cons (.var 1) .nil)))) .nil)))⟩
def d_changed : DefI := ⟨top 33, [(Str.ofString "form"), (Str.ofString "change")], [(Str.ofString "form"), (Str.ofString "change")], [], f_changed⟩
def f__law_well : Fn := ⟨5, 2, true, (.cons (.asg (.name 2) (.op .add (.int 51407) (.op .mul (.int 6101) (.var 1)))) (.cons (.forr (.name 3) (.seq (.slc (.var 0) .none (.some (.int 12)))) (.cons (.asg (.name 2) (.op .mod (.blt .int (.cons (.op .add (.op .add (.op .mul (.var 2) (.int 40151)) (.op .mul (.op .mod (.blt .int (.cons (.var 3) .nil)) (.int 2147483563)) (.int 13))) (.int 19)) .nil)) (.int 2147483563))) .nil)) (.cons (.asg (.name 4) (.ifx (.val (.cmp .lt (.var 1) (.blt .len (.cons (.var 0) .nil)))) (.blt .int (.cons (.sub (.var 0) (.var 1)) .nil)) (.int 0))) (.cons (.asg (.name 2) (.op .mod (.blt .int (.cons (.op .add (.op .add (.op .mul (.var 2) (.int 101)) (.op .mul (.op .mod (.blt .int (.cons (.var 4) .nil)) (.int 2147483563)) (.int 20047))) (.int 7)) .nil)) (.int 2147483563))) (.cons (.ret (.lst true (.cons (.ifx (.or (.val (.cmp .lt (.var 4) (.int 0))) (.val (.cmp .ge (.var 4) (.op .pow (.int 10) (.int 15))))) (.blt .abs (.cons (.var 4) .nil)) (.int 0)) (.cons (.var 2) (.cons (.int 0) .nil))))) .nil)))))⟩
def d__law_well : DefI := ⟨top 35, [(Str.ofString "script"), (Str.ofString "lap"), (Str.ofString "mixed"), (Str.ofString "cell"), (Str.ofString "own")], [(Str.ofString "script"), (Str.ofString "lap")], [], f__law_well⟩
def f__law_draw : Fn := ⟨4, 2, false, (.cons (.iff (.val (.cmp .gt (.sub (.var 0) (.int 0)) (.int 0))) (.cons (.asg (.tup (.cons (.sub (.var 0) (.int 0)) (.cons (.name 2) .nil))) (.blt .divmod (.cons (.sub (.var 0) (.int 0)) (.cons (.var 1) .nil)))) (.cons (.ret (.var 2)) .nil)) .nil) (.cons (.asg (.sub (.var 0) (.int 2)) (.op .add (.sub (.var 0) (.int 2)) (.int 1))) (.cons (.asg (.name 3) (.op .mod (.blt .int (.cons (.op .add (.op .mul (.sub (.var 0) (.int 1)) (.int 48271)) (.op .mul (.int 15013) (.sub (.var 0) (.int 2)))) .nil)) (.int 2147483563))) (.cons (.asg (.sub (.var 0) (.int 1)) (.op .mod (.blt .int (.cons (.op .add (.op .mul (.var 3) (.op .add (.op .mod (.blt .int (.cons (.var 3) .nil)) (.int 4999)) (.int 20011))) (.sub (.var 0) (.int 2))) .nil)) (.int 2147483563))) (.cons (.ret (.op .mod (.blt .int (.cons (.op .fdiv (.sub (.var 0) (.int 1)) (.int 977)) .nil)) (.var 1))) .nil)))))⟩
def d__law_draw : DefI := ⟨top 36, [(Str.ofString "well"), (Str.ofString "few"), (Str.ofString "figure"), (Str.ofString "mixed")], [(Str.ofString "well"), (Str.ofString "few")], [(Str.ofString "well")], f__law_draw⟩
def f__law_one : Fn := ⟨2, 2, false, (.cons (.ret (.sub (.var 1) (.call (Str.ofString "_law_draw") (.cons (.var 0) (.cons (.blt .len (.cons (.var 1) .nil)) .nil))))) .nil)⟩
def d__law_one : DefI := ⟨top 37, [(Str.ofString "well"), (Str.ofString "some")], [(Str.ofString "well"), (Str.ofString "some")], [(Str.ofString "well")], f__law_one⟩
def f__law_is_whole : Fn := ⟨1, 1, false, (.cons (.ret (.and (.isi "int" (.var 0)) (.not (.isi "bool" (.var 0))))) .nil)⟩
def d__law_is_whole : DefI := ⟨top 38, [(Str.ofString "thing")], [(Str.ofString "thing")], [], f__law_is_whole⟩
def f__law_gcd : Fn := ⟨2, 2, false, (.cons (.par 0 1 (.blt .abs (.cons (.var 0) .nil)) (.blt .abs (.cons (.var 1) .nil))) (.cons (.whl (.val (.cmp .gt (.var 1) (.int 0))) (.cons (.par 0 1 (.var 1) (.op .mod (.blt .int (.cons (.var 0) .nil)) (.var 1))) .nil)) (.cons (.ret (.var 0)) .nil)))⟩
def d__law_gcd : DefI := ⟨top 39, [(Str.ofString "one"), (Str.ofString "two")], [(Str.ofString "one"), (Str.ofString "two")], [], f__law_gcd⟩
def f__law_root : Fn := ⟨4, 1, false, (.cons (.asg (.tup (.cons (.name 1) (.cons (.name 2) .nil))) (.tup (.cons (.int 0) (.cons (.int 1) .nil)))) (.cons (.whl (.val (.cmp .le (.op .mul (.var 2) (.var 2)) (.var 0))) (.cons (.asg (.name 2) (.op .mul (.int 2) (.var 2))) .nil)) (.cons (.whl (.val (.cmp .gt (.op .sub (.var 2) (.var 1)) (.int 1))) (.cons (.asg (.name 3) (.op .fdiv (.op .add (.var 1) (.var 2)) (.int 2))) (.cons (.iff (.val (.cmp .le (.op .mul (.var 3) (.var 3)) (.var 0))) (.cons (.asg (.name 1) (.var 3)) .nil) (.cons (.asg (.name 2) (.var 3)) .nil)) .nil))) (.cons (.ret (.var 1)) .nil))))⟩
def d__law_root : DefI := ⟨top 40, [(Str.ofString "number"), (Str.ofString "low"), (Str.ofString "high"), (Str.ofString "half")], [(Str.ofString "number")], [], f__law_root⟩
def f__law_is_discriminant : Fn := ⟨1, 1, false, (.cons (.ret (.and (.call (Str.ofString "_law_is_whole") (.cons (.var 0) .nil)) (.and (.chain .le .le (.neg (.int 400)) (.var 0) (.neg (.int 3))) (.cmp .lt (.op .mod (.blt .int (.cons (.var 0) .nil)) (.int 4)) (.int 2))))) .nil)⟩
def d__law_is_discriminant : DefI := ⟨top 41, [(Str.ofString "thing")], [(Str.ofString "thing")], [], f__law_is_discriminant⟩
def f__law_disc : Fn := ⟨5, 1, false, (.cons (.iff (.val (.cmp .eq (.call (Str.ofString "_law_draw") (.cons (.var 0) (.cons (.int 4) .nil))) (.int 0))) (.cons (.ret (.call (Str.ofString "_law_one") (.cons (.var 0) (.cons (.comp [4] true [4] (.rng2 (.int 3) (.int 401)) (.val (.cmp .inn (.op .mod (.blt .int (.cons (.var 4) .nil)) (.int 4)) (.tup (.cons (.int 0) (.cons (.int 3) .nil))))) (.op .sub (.int 0) (.var 4))) .nil)))) .nil) .nil) (.cons (.asg (.name 1) (.tup (.cons (.neg (.int 23)) (.cons (.neg (.int 20)) (.cons (.neg (.int 56)) (.cons (.neg (.int 3)) (.cons (.neg (.int 4)) (.cons (.neg (.int 7)) (.cons (.neg (.int 8)) (.cons (.neg (.int 11)) (.cons (.neg (.int 12)) (.cons (.neg (.int 15)) (.cons (.neg (.int 16)) (.cons (.neg (.int 24)) (.cons (.neg (.int 27)) (.cons (.neg (.int 28)) (.cons (.neg (.int 31)) (.cons (.neg (.int 32)) (.cons (.neg (.int 35)) (.cons (.neg (.int 36)) (.cons (.neg (.int 39)) (.cons (.neg (.int 40)) (.cons (.neg (.int 43)) (.cons (.neg (.int 44)) .nil)))))))))))))))))))))))) (.cons (.asg (.name 2) (.tup (.cons (.neg (.int 47)) (.cons (.neg (.int 48)) (.cons (.neg (.int 55)) (.cons (.neg (.int 63)) (.cons (.neg (.int 68)) (.cons (.neg (.int 71)) (.cons (.neg (.int 75)) (.cons (.neg (.int 80)) (.cons (.neg (.int 84)) (.cons (.neg (.int 87)) (.cons (.neg (.int 95)) (.cons (.neg (.int 96)) (.cons (.neg (.int 99)) (.cons (.neg (.int 104)) (.cons (.neg (.int 108)) (.cons (.neg (.int 119)) (.cons (.neg (.int 120)) (.cons (.neg (.int 128)) (.cons (.neg (.int 144)) (.cons (.neg (.int 163)) .nil)))))))))))))))))))))) (.cons (.asg (.name 3) (.tup (.cons (.neg (.int 168)) (.cons (.neg (.int 180)) (.cons (.neg (.int 195)) (.cons (.neg (.int 200)) (.cons (.neg (.int 231)) (.cons (.neg (.int 239)) (.cons (.neg (.int 240)) (.cons (.neg (.int 260)) (.cons (.neg (.int 264)) (.cons (.neg (.int 311)) (.cons (.neg (.int 312)) (.cons (.neg (.int 340)) (.cons (.neg (.int 372)) (.cons (.neg (.int 384)) (.cons (.neg (.int 399)) (.cons (.neg (.int 400)) .nil)))))))))))))))))) (.cons (.ret (.call (Str.ofString "_law_one") (.cons (.var 0) (.cons (.sub (.tup (.cons (.var 1) (.cons (.var 1) (.cons (.var 2) (.cons (.var 3) .nil))))) (.call (Str.ofString "_law_draw") (.cons (.var 0) (.cons (.int 4) .nil)))) .nil)))) .nil)))))⟩
def d__law_disc : DefI := ⟨top 42, [(Str.ofString "well"), (Str.ofString "some"), (Str.ofString "more"), (Str.ofString "great"), (Str.ofString "number")], [(Str.ofString "well")], [(Str.ofString "well")], f__law_disc⟩
def f__law_value : Fn := ⟨3, 3, false, (.cons (.ret (.op .add (.op .add (.op .mul (.op .mul (.sub (.var 0) (.int 0)) (.var 1)) (.var 1)) (.op .mul (.op .mul (.sub (.var 0) (.int 1)) (.var 1)) (.var 2))) (.op .mul (.op .mul (.sub (.var 0) (.int 2)) (.var 2)) (.var 2)))) .nil)⟩
def d__law_value : DefI := ⟨top 43, [(Str.ofString "form"), (Str.ofString "x"), (Str.ofString "y")], [(Str.ofString "form"), (Str.ofString "x"), (Str.ofString "y")], [], f__law_value⟩
def f__law_disc_of : Fn := ⟨1, 1, false, (.cons (.ret (.op .sub (.op .mul (.sub (.var 0) (.int 1)) (.sub (.var 0) (.int 1))) (.op .mul (.op .mul (.int 4) (.sub (.var 0) (.int 0))) (.sub (.var 0) (.int 2))))) .nil)⟩
def d__law_disc_of : DefI := ⟨top 44, [(Str.ofString "form")], [(Str.ofString "form")], [], f__law_disc_of⟩
def f__law_is_form : Fn := ⟨2, 1, false, (.cons (.iff (.or (.not (.val (.isi "tuple" (.var 0)))) (.or (.val (.cmp .ne (.blt .len (.cons (.var 0) .nil)) (.int 3))) (.not (.val (.blt .all (.cons (.comp [1] true [1] (.seq (.var 0)) .yes (.call (Str.ofString "_law_is_whole") (.cons (.var 1) .nil))) .nil)))))) (.cons (.ret (.bl false)) .nil) .nil) (.cons (.iff (.or (.val (.cmp .ne (.call (Str.ofString "_law_gcd") (.cons (.sub (.var 0) (.int 0)) (.cons (.call (Str.ofString "_law_gcd") (.cons (.sub (.var 0) (.int 1)) (.cons (.sub (.var 0) (.int 2)) .nil))) .nil))) (.int 1))) (.val (.cmp .lt (.sub (.var 0) (.int 0)) (.int 1)))) (.cons (.ret (.bl false)) .nil) .nil) (.cons (.ret (.call (Str.ofString "_law_is_discriminant") (.cons (.call (Str.ofString "_law_disc_of") (.cons (.var 0) .nil)) .nil))) .nil)))⟩
def d__law_is_form : DefI := ⟨top 45, [(Str.ofString "thing"), (Str.ofString "x")], [(Str.ofString "thing")], [], f__law_is_form⟩
def f__law_led : Fn := ⟨7, 2, false, (.cons (.asg (.tup (.cons (.name 2) (.cons (.name 3) (.cons (.name 4) (.cons (.name 5) .nil))))) (.var 1)) (.cons (.asg (.name 6) (.op .add (.op .add (.op .mul (.op .mul (.op .mul (.int 2) (.sub (.var 0) (.int 0))) (.var 2)) (.var 3)) (.op .mul (.sub (.var 0) (.int 1)) (.op .add (.op .mul (.var 2) (.var 5)) (.op .mul (.var 3) (.var 4))))) (.op .mul (.op .mul (.op .mul (.int 2) (.sub (.var 0) (.int 2))) (.var 4)) (.var 5)))) (.cons (.ret (.tup (.cons (.call (Str.ofString "_law_value") (.cons (.var 0) (.cons (.var 2) (.cons (.var 4) .nil)))) (.cons (.var 6) (.cons (.call (Str.ofString "_law_value") (.cons (.var 0) (.cons (.var 3) (.cons (.var 5) .nil)))) .nil))))) .nil)))⟩
def d__law_led : DefI := ⟨top 46, [(Str.ofString "form"), (Str.ofString "change"), (Str.ofString "p"), (Str.ofString "q"), (Str.ofString "r"), (Str.ofString "s"), (Str.ofString "middle")], [(Str.ofString "form"), (Str.ofString "change")], [], f__law_led⟩
def f__law_both : Fn := ⟨2, 2, false, (.cons (.ret (.tup (.cons (.op .add (.op .mul (.sub (.var 0) (.int 0)) (.sub (.var 1) (.int 0))) (.op .mul (.sub (.var 0) (.int 1)) (.sub (.var 1) (.int 2)))) (.cons (.op .add (.op .mul (.sub (.var 0) (.int 0)) (.sub (.var 1) (.int 1))) (.op .mul (.sub (.var 0) (.int 1)) (.sub (.var 1) (.int 3)))) (.cons (.op .add (.op .mul (.sub (.var 0) (.int 2)) (.sub (.var 1) (.int 0))) (.op .mul (.sub (.var 0) (.int 3)) (.sub (.var 1) (.int 2)))) (.cons (.op .add (.op .mul (.sub (.var 0) (.int 2)) (.sub (.var 1) (.int 1))) (.op .mul (.sub (.var 0) (.int 3)) (.sub (.var 1) (.int 3)))) .nil)))))) .nil)⟩
def d__law_both : DefI := ⟨top 47, [(Str.ofString "one"), (Str.ofString "two")], [(Str.ofString "one"), (Str.ofString "two")], [], f__law_both⟩
def f__law_change : Fn := ⟨7, 3, false, (.cons (.par 3 4 (.tup (.cons (.int 1) (.cons (.int 0) (.cons (.int 0) (.cons (.int 1) .nil))))) (.ifx (.val (.var 2)) (.call (Str.ofString "_law_draw") (.cons (.var 0) (.cons (.int 12) .nil))) (.int 12))) (.cons (.forr (.name 5) (.rng1 (.call (Str.ofString "_law_draw") (.cons (.var 0) (.cons (.op .add (.var 1) (.int 1)) .nil)))) (.cons (.asg (.name 6) (.op .sub (.call (Str.ofString "_law_draw") (.cons (.var 0) (.cons (.int 7) .nil))) (.int 3))) (.cons (.iff (.val (.cmp .eq (.var 5) (.var 4))) (.cons (.asg (.name 6) (.call (Str.ofString "_law_one") (.cons (.var 0) (.cons (.tup (.cons (.op .pow (.int 10) (.int 6)) (.cons (.neg (.op .pow (.int 10) (.int 9))) (.cons (.op .add (.op .pow (.int 10) (.int 10)) (.int 7)) .nil)))) .nil)))) .nil) .nil) (.cons (.asg (.name 3) (.call (Str.ofString "_law_both") (.cons (.var 3) (.cons (.call (Str.ofString "_law_one") (.cons (.var 0) (.cons (.tup (.cons (.tup (.cons (.int 0) (.cons (.neg (.int 1)) (.cons (.int 1) (.cons (.int 0) .nil))))) (.cons (.tup (.cons (.int 1) (.cons (.var 6) (.cons (.int 0) (.cons (.int 1) .nil))))) (.cons (.tup (.cons (.int 1) (.cons (.int 0) (.cons (.var 6) (.cons (.int 1) .nil))))) .nil)))) .nil))) .nil)))) .nil)))) (.cons (.ret (.var 3)) .nil)))⟩
def d__law_change : DefI := ⟨top 48, [(Str.ofString "well"), (Str.ofString "most"), (Str.ofString "great"), (Str.ofString "found"), (Str.ofString "spot"), (Str.ofString "turn"), (Str.ofString "step")], [(Str.ofString "well"), (Str.ofString "most"), (Str.ofString "great")], [(Str.ofString "well")], f__law_change⟩
def f__law_is_reduced : Fn := ⟨4, 1, false, (.cons (.asg (.tup (.cons (.name 1) (.cons (.name 2) (.cons (.name 3) .nil)))) (.var 0)) (.cons (.ret (.and (.chn (.op .sub (.int 0) (.var 1)) (.link .le (.var 2) (.link .le (.var 1) (.last .le (.var 3))))) (.or (.cmp .ge (.var 2) (.int 0)) (.and (.cmp .ne (.op .sub (.int 0) (.var 2)) (.var 1)) (.cmp .ne (.var 1) (.var 3)))))) .nil))⟩
def d__law_is_reduced : DefI := ⟨top 49, [(Str.ofString "form"), (Str.ofString "a"), (Str.ofString "b"), (Str.ofString "c")], [(Str.ofString "form")], [], f__law_is_reduced⟩
def f__law_classes : Fn := ⟨5, 1, false, (.cons (.asg (.name 1) (.lst true .nil)) (.cons (.forr (.name 2) (.rng2 (.int 1) (.op .add (.call (Str.ofString "_law_root") (.cons (.op .fdiv (.op .sub (.int 0) (.var 0)) (.int 3)) .nil)) (.int 1))) (.cons (.forr (.name 3) (.rng2 (.op .sub (.int 0) (.var 2)) (.op .add (.var 2) (.int 1))) (.cons (.iff (.val (.cmp .eq (.op .mod (.blt .int (.cons (.op .sub (.op .mul (.var 3) (.var 3)) (.var 0)) .nil)) (.op .mul (.int 4) (.var 2))) (.int 0))) (.cons (.asg (.name 4) (.tup (.cons (.var 2) (.cons (.var 3) (.cons (.op .fdiv (.op .sub (.op .mul (.var 3) (.var 3)) (.var 0)) (.op .mul (.int 4) (.var 2))) .nil))))) (.cons (.iff (.and (.val (.call (Str.ofString "_law_is_form") (.cons (.var 4) .nil))) (.val (.call (Str.ofString "_law_is_reduced") (.cons (.var 4) .nil)))) (.cons (.expr (.append (.var 1) (.var 4))) .nil) .nil) .nil)) .nil) .nil)) .nil)) (.cons (.ret (.var 1)) .nil)))⟩
def d__law_classes : DefI := ⟨top 50, [(Str.ofString "number"), (Str.ofString "found"), (Str.ofString "a"), (Str.ofString "b"), (Str.ofString "form")], [(Str.ofString "number")], [(Str.ofString "found")], f__law_classes⟩
def f__law_solutions : Fn := ⟨10, 2, false, (.cons (.par3 2 3 4 (.lst true .nil) (.sub (.var 0) (.int 0)) (.sub (.var 0) (.int 1))) (.cons (.asg (.name 5) (.call (Str.ofString "_law_root") (.cons (.op .fdiv (.op .mul (.op .mul (.int 4) (.var 3)) (.var 1)) (.op .sub (.int 0) (.call (Str.ofString "_law_disc_of") (.cons (.var 0) .nil)))) .nil))) (.cons (.forr (.name 6) (.rng2 (.op .sub (.int 0) (.var 5)) (.op .add (.var 5) (.int 1))) (.cons (.asg (.name 7) (.op .add (.op .mul (.op .mul (.call (Str.ofString "_law_disc_of") (.cons (.var 0) .nil)) (.var 6)) (.var 6)) (.op .mul (.op .mul (.int 4) (.var 3)) (.var 1)))) (.cons (.asg (.name 8) (.call (Str.ofString "_law_root") (.cons (.var 7) .nil))) (.cons (.iff (.val (.cmp .eq (.op .mul (.var 8) (.var 8)) (.var 7))) (.cons (.forr (.name 9) (.seq (.sortS (.lst false (.cons (.op .sub (.op .sub (.int 0) (.op .mul (.var 4) (.var 6))) (.var 8)) (.cons (.op .sub (.var 8) (.op .mul (.var 4) (.var 6))) .nil))))) (.cons (.iff (.val (.cmp .eq (.op .mod (.blt .int (.cons (.var 9) .nil)) (.op .mul (.int 2) (.var 3))) (.int 0))) (.cons (.expr (.append (.var 2) (.tup (.cons (.op .fdiv (.var 9) (.op .mul (.int 2) (.var 3))) (.cons (.var 6) .nil))))) .nil) .nil) .nil)) .nil) .nil) .nil)))) (.cons (.ret (.blt .sort (.cons (.var 2) .nil))) .nil))))⟩
def d__law_solutions : DefI := ⟨top 51, [(Str.ofString "form"), (Str.ofString "number"), (Str.ofString "found"), (Str.ofString "a"), (Str.ofString "b"), (Str.ofString "most"), (Str.ofString "y"), (Str.ofString "square"), (Str.ofString "root"), (Str.ofString "top")], [(Str.ofString "form"), (Str.ofString "number")], [(Str.ofString "found")], f__law_solutions⟩
def f__law_number : Fn := ⟨3, 2, false, (.cons (.asg (.name 2) (.call (Str.ofString "_law_value") (.cons (.var 1) (.cons (.op .sub (.call (Str.ofString "_law_draw") (.cons (.var 0) (.cons (.int 21) .nil))) (.int 10)) (.cons (.op .sub (.call (Str.ofString "_law_draw") (.cons (.var 0) (.cons (.int 13) .nil))) (.int 6)) .nil))))) (.cons (.iff (.or (.val (.cmp .gt (.var 2) (.int 10000))) (.val (.cmp .eq (.call (Str.ofString "_law_draw") (.cons (.var 0) (.cons (.int 3) .nil))) (.int 0)))) (.cons (.ret (.call (Str.ofString "_law_one") (.cons (.var 0) (.cons (.tup (.cons (.int 0) (.cons (.int 1) (.cons (.int 4) (.cons (.call (Str.ofString "_law_draw") (.cons (.var 0) (.cons (.int 200) .nil))) (.cons (.call (Str.ofString "_law_draw") (.cons (.var 0) (.cons (.int 60) .nil))) (.cons (.call (Str.ofString "_law_draw") (.cons (.var 0) (.cons (.int 10001) .nil))) (.cons (.blt .min (.cons (.sub (.var 1) (.int 0)) (.cons (.int 10000) .nil))) (.cons (.int 10000) .nil))))))))) .nil)))) .nil) .nil) (.cons (.ret (.var 2)) .nil)))⟩
def d__law_number : DefI := ⟨top 52, [(Str.ofString "well"), (Str.ofString "form"), (Str.ofString "found")], [(Str.ofString "well"), (Str.ofString "form")], [(Str.ofString "well")], f__law_number⟩
def f__law_right : Fn := ⟨15, 1, false, (.cons (.forr (.name 1) (.rng1 (.int 3)) (.cons (.asg (.name 2) (.call (Str.ofString "_law_disc") (.cons (.var 0) .nil))) (.cons (.asg (.name 3) (.call (Str.ofString "_law_one") (.cons (.var 0) (.cons (.call (Str.ofString "_law_classes") (.cons (.var 2) .nil)) .nil)))) (.cons (.asg (.name 3) (.ifx (.val (.cmp .eq (.call (Str.ofString "_law_draw") (.cons (.var 0) (.cons (.int 2) .nil))) (.int 0))) (.call (Str.ofString "_law_led") (.cons (.var 3) (.cons (.call (Str.ofString "_law_change") (.cons (.var 0) (.cons (.int 2) (.cons (.bl false) .nil)))) .nil))) (.var 3))) (.cons (.asg (.name 4) (.call (Str.ofString "_law_change") (.cons (.var 0) (.cons (.int 2) (.cons (.bl false) .nil))))) (.cons (.forr (.name 5) (.rng1 (.int 3)) (.cons (.asg (.name 6) (.call (Str.ofString "_law_number") (.cons (.var 0) (.cons (.var 3) .nil)))) (.cons (.asg (.name 7) (.blt .tuple (.cons (.call (Str.ofString "_law_solutions") (.cons (.var 3) (.cons (.var 6) .nil))) .nil))) (.cons (.iff (.val (.cmp .ne (.blt .repr (.cons (.lst false (.cons (.call (Str.ofString "solutions") (.cons (.var 3) (.cons (.var 6) .nil))) (.cons (.callK (Str.ofString "solutions") .nil (.cons (.var 6) (.cons (.var 3) .nil)) 0 2 [1, 0]) .nil))) .nil)) (.blt .repr (.cons (.lst false (.cons (.var 7) (.cons (.var 7) .nil))) .nil)))) (.cons (.ret (.bl false)) .nil) .nil) (.cons (.iff (.or (.not (.val (.blt .all (.cons (.comp [13, 14] false [13, 14] (.seq (.var 7)) .yes (.cmp .eq (.call (Str.ofString "_law_value") (.cons (.var 3) (.cons (.var 13) (.cons (.var 14) .nil)))) (.var 6))) .nil)))) (.val (.cmp .ne (.blt .len (.cons (.sortS (.var 7)) .nil)) (.blt .len (.cons (.var 7) .nil))))) (.cons (.ret (.bl false)) .nil) .nil) (.cons (.asg (.tup (.cons (.name 8) (.cons (.name 9) (.cons (.name 10) (.cons (.name 11) .nil))))) (.var 4)) (.cons (.asg (.name 12) (.call (Str.ofString "solutions") (.cons (.call (Str.ofString "changed") (.cons (.var 3) (.cons (.var 4) .nil))) (.cons (.var 6) .nil)))) (.cons (.iff (.val (.cmp .ne (.blt .repr (.cons (.blt .tuple (.cons (.blt .sort (.cons (.comp [13, 14] false [13, 14] (.seq (.var 12)) .yes (.tup (.cons (.op .add (.op .mul (.var 8) (.var 13)) (.op .mul (.var 9) (.var 14))) (.cons (.op .add (.op .mul (.var 10) (.var 13)) (.op .mul (.var 11) (.var 14))) .nil)))) .nil)) .nil)) .nil)) (.blt .repr (.cons (.var 7) .nil)))) (.cons (.ret (.bl false)) .nil) .nil) .nil)))))))) .nil)))))) (.cons (.ret (.bl true)) .nil))⟩
def d__law_right : DefI := ⟨top 53, [(Str.ofString "well"), (Str.ofString "turn"), (Str.ofString "number"), (Str.ofString "form"), (Str.ofString "change"), (Str.ofString "step"), (Str.ofString "many"), (Str.ofString "due"), (Str.ofString "p"), (Str.ofString "q"), (Str.ofString "r"), (Str.ofString "s"), (Str.ofString "told"), (Str.ofString "x"), (Str.ofString "y")], [(Str.ofString "well")], [(Str.ofString "well")], f__law_right⟩
def f_law : Fn := ⟨2, 1, false, (.cons (.ret (.blt .all (.cons (.comp [1] true [1] (.rng1 (.blt .max (.cons (.int 2) (.cons (.blt .min (.cons (.blt .len (.cons (.var 0) .nil)) (.cons (.int 3) .nil))) .nil)))) .yes (.call (Str.ofString "_law_right") (.cons (.call (Str.ofString "_law_well") (.cons (.var 0) (.cons (.var 1) .nil))) .nil))) .nil))) .nil)⟩
def d_law : DefI := ⟨top 54, [(Str.ofString "script"), (Str.ofString "lap")], [(Str.ofString "script")], [], f_law⟩
def tab : List (Str × DefI) := [((Str.ofString "is_whole"), d_is_whole), ((Str.ofString "is_within"), d_is_within), ((Str.ofString "are_wholes"), d_are_wholes), ((Str.ofString "is_discriminant_by"), d_is_discriminant_by), ((Str.ofString "discriminant_by"), d_discriminant_by), ((Str.ofString "is_formed"), d_is_formed), ((Str.ofString "is_change_by"), d_is_change_by), ((Str.ofString "value_by"), d_value_by), ((Str.ofString "changed_by"), d_changed_by), ((Str.ofString "after"), d_after), ((Str.ofString "reduction"), d_reduction), ((Str.ofString "pairs_of"), d_pairs_of), ((Str.ofString "solutions_by"), d_solutions_by), ((Str.ofString "check_form"), d_check_form), ((Str.ofString "check_change"), d_check_change), ((Str.ofString "check_number"), d_check_number), ((Str.ofString "solutions"), d_solutions), ((Str.ofString "changed"), d_changed), ((Str.ofString "_law_well"), d__law_well), ((Str.ofString "_law_draw"), d__law_draw), ((Str.ofString "_law_one"), d__law_one), ((Str.ofString "_law_is_whole"), d__law_is_whole), ((Str.ofString "_law_gcd"), d__law_gcd), ((Str.ofString "_law_root"), d__law_root), ((Str.ofString "_law_is_discriminant"), d__law_is_discriminant), ((Str.ofString "_law_disc"), d__law_disc), ((Str.ofString "_law_value"), d__law_value), ((Str.ofString "_law_disc_of"), d__law_disc_of), ((Str.ofString "_law_is_form"), d__law_is_form), ((Str.ofString "_law_led"), d__law_led), ((Str.ofString "_law_both"), d__law_both), ((Str.ofString "_law_change"), d__law_change), ((Str.ofString "_law_is_reduced"), d__law_is_reduced), ((Str.ofString "_law_classes"), d__law_classes), ((Str.ofString "_law_solutions"), d__law_solutions), ((Str.ofString "_law_number"), d__law_number), ((Str.ofString "_law_right"), d__law_right), ((Str.ofString "law"), d_law)]
def cons : List (Str × D) := [((Str.ofString "LOWEST"), (.int (-400))), ((Str.ofString "HIGHEST"), (.int (-3))), ((Str.ofString "SAME"), (.tup [(.int 1), (.int 0), (.int 0), (.int 1)])), ((Str.ofString "MOST_VALUE"), (.int 10000))]
def blts : List Str := [(Str.ofString "len"), (Str.ofString "abs"), (Str.ofString "max"), (Str.ofString "min"), (Str.ofString "int"), (Str.ofString "all"), (Str.ofString "tuple"), (Str.ofString "repr"), (Str.ofString "divmod"), (Str.ofString "range"), (Str.ofString "isinstance"), (Str.ofString "bool"), (Str.ofString "sorted"), (Str.ofString "set")]
def kws : List (Str × List (Nat × List Str × List Nat)) := [((Str.ofString "solutions"), [(0, [(Str.ofString "number"), (Str.ofString "form")], [1, 0])])]
def mths : List Str := [(Str.ofString "gcd"), (Str.ofString "isqrt")]
abbrev ci : CI := ⟨tabF tab, fun x => (cons.lookup x).isSome, fun x => blts.contains x, fun x => mths.contains x, fun x => (kws.lookup x).getD []⟩
abbrev G : Str → Option D := fun x => cons.lookup x
abbrev T : Str → Option Fn := tabT tab
theorem ok_is_whole : OkDef ci d_is_whole := ⟨by rfl, rfl, rfl, ⟨rfl, rfl, rfl, by decide +kernel, rfl, by decide +kernel, by decide +kernel⟩⟩
theorem ok_is_within : OkDef ci d_is_within := ⟨by rfl, rfl, rfl, ⟨rfl, rfl, rfl, by decide +kernel, rfl, by decide +kernel, by decide +kernel⟩⟩
theorem ok_are_wholes : OkDef ci d_are_wholes := ⟨by rfl, rfl, rfl, ⟨rfl, rfl, rfl, by decide +kernel, rfl, by decide +kernel, by decide +kernel⟩⟩
theorem ok_is_discriminant_by : OkDef ci d_is_discriminant_by := ⟨by rfl, rfl, rfl, ⟨rfl, rfl, rfl, by decide +kernel, rfl, by decide +kernel, by decide +kernel⟩⟩
theorem ok_discriminant_by : OkDef ci d_discriminant_by := ⟨by rfl, rfl, rfl, ⟨rfl, rfl, rfl, by decide +kernel, rfl, by decide +kernel, by decide +kernel⟩⟩
theorem ok_is_formed : OkDef ci d_is_formed := ⟨by rfl, rfl, rfl, ⟨rfl, rfl, rfl, by decide +kernel, rfl, by decide +kernel, by decide +kernel⟩⟩
theorem ok_is_change_by : OkDef ci d_is_change_by := ⟨by rfl, rfl, rfl, ⟨rfl, rfl, rfl, by decide +kernel, rfl, by decide +kernel, by decide +kernel⟩⟩
theorem ok_value_by : OkDef ci d_value_by := ⟨by rfl, rfl, rfl, ⟨rfl, rfl, rfl, by decide +kernel, rfl, by decide +kernel, by decide +kernel⟩⟩
theorem ok_changed_by : OkDef ci d_changed_by := ⟨by rfl, rfl, rfl, ⟨rfl, rfl, rfl, by decide +kernel, rfl, by decide +kernel, by decide +kernel⟩⟩
theorem ok_after : OkDef ci d_after := ⟨by rfl, rfl, rfl, ⟨rfl, rfl, rfl, by decide +kernel, rfl, by decide +kernel, by decide +kernel⟩⟩
theorem ok_reduction : OkDef ci d_reduction := ⟨by rfl, rfl, rfl, ⟨rfl, rfl, rfl, by decide +kernel, rfl, by decide +kernel, by decide +kernel⟩⟩
theorem ok_pairs_of : OkDef ci d_pairs_of := ⟨by rfl, rfl, rfl, ⟨rfl, rfl, rfl, by decide +kernel, rfl, by decide +kernel, by decide +kernel⟩⟩
theorem ok_solutions_by : OkDef ci d_solutions_by := ⟨by rfl, rfl, rfl, ⟨rfl, rfl, rfl, by decide +kernel, rfl, by decide +kernel, by decide +kernel⟩⟩
theorem ok_check_form : OkDef ci d_check_form := ⟨by rfl, rfl, rfl, ⟨rfl, rfl, rfl, by decide +kernel, rfl, by decide +kernel, by decide +kernel⟩⟩
theorem ok_check_change : OkDef ci d_check_change := ⟨by rfl, rfl, rfl, ⟨rfl, rfl, rfl, by decide +kernel, rfl, by decide +kernel, by decide +kernel⟩⟩
theorem ok_check_number : OkDef ci d_check_number := ⟨by rfl, rfl, rfl, ⟨rfl, rfl, rfl, by decide +kernel, rfl, by decide +kernel, by decide +kernel⟩⟩
theorem ok_solutions : OkDef ci d_solutions := ⟨by rfl, rfl, rfl, ⟨rfl, rfl, rfl, by decide +kernel, rfl, by decide +kernel, by decide +kernel⟩⟩
theorem ok_changed : OkDef ci d_changed := ⟨by rfl, rfl, rfl, ⟨rfl, rfl, rfl, by decide +kernel, rfl, by decide +kernel, by decide +kernel⟩⟩
theorem ok__law_well : OkDef ci d__law_well := ⟨by rfl, rfl, rfl, ⟨rfl, rfl, rfl, by decide +kernel, rfl, by decide +kernel, by decide +kernel⟩⟩
theorem ok__law_draw : OkDef ci d__law_draw := ⟨by rfl, rfl, rfl, ⟨rfl, rfl, rfl, by decide +kernel, rfl, by decide +kernel, by decide +kernel⟩⟩
theorem ok__law_one : OkDef ci d__law_one := ⟨by rfl, rfl, rfl, ⟨rfl, rfl, rfl, by decide +kernel, rfl, by decide +kernel, by decide +kernel⟩⟩
theorem ok__law_is_whole : OkDef ci d__law_is_whole := ⟨by rfl, rfl, rfl, ⟨rfl, rfl, rfl, by decide +kernel, rfl, by decide +kernel, by decide +kernel⟩⟩
theorem ok__law_gcd : OkDef ci d__law_gcd := ⟨by rfl, rfl, rfl, ⟨rfl, rfl, rfl, by decide +kernel, rfl, by decide +kernel, by decide +kernel⟩⟩
theorem ok__law_root : OkDef ci d__law_root := ⟨by rfl, rfl, rfl, ⟨rfl, rfl, rfl, by decide +kernel, rfl, by decide +kernel, by decide +kernel⟩⟩
theorem ok__law_is_discriminant : OkDef ci d__law_is_discriminant := ⟨by rfl, rfl, rfl, ⟨rfl, rfl, rfl, by decide +kernel, rfl, by decide +kernel, by decide +kernel⟩⟩
theorem ok__law_disc : OkDef ci d__law_disc := ⟨by rfl, rfl, rfl, ⟨rfl, rfl, rfl, by decide +kernel, rfl, by decide +kernel, by decide +kernel⟩⟩
theorem ok__law_value : OkDef ci d__law_value := ⟨by rfl, rfl, rfl, ⟨rfl, rfl, rfl, by decide +kernel, rfl, by decide +kernel, by decide +kernel⟩⟩
theorem ok__law_disc_of : OkDef ci d__law_disc_of := ⟨by rfl, rfl, rfl, ⟨rfl, rfl, rfl, by decide +kernel, rfl, by decide +kernel, by decide +kernel⟩⟩
theorem ok__law_is_form : OkDef ci d__law_is_form := ⟨by rfl, rfl, rfl, ⟨rfl, rfl, rfl, by decide +kernel, rfl, by decide +kernel, by decide +kernel⟩⟩
theorem ok__law_led : OkDef ci d__law_led := ⟨by rfl, rfl, rfl, ⟨rfl, rfl, rfl, by decide +kernel, rfl, by decide +kernel, by decide +kernel⟩⟩
theorem ok__law_both : OkDef ci d__law_both := ⟨by rfl, rfl, rfl, ⟨rfl, rfl, rfl, by decide +kernel, rfl, by decide +kernel, by decide +kernel⟩⟩
theorem ok__law_change : OkDef ci d__law_change := ⟨by rfl, rfl, rfl, ⟨rfl, rfl, rfl, by decide +kernel, rfl, by decide +kernel, by decide +kernel⟩⟩
theorem ok__law_is_reduced : OkDef ci d__law_is_reduced := ⟨by rfl, rfl, rfl, ⟨rfl, rfl, rfl, by decide +kernel, rfl, by decide +kernel, by decide +kernel⟩⟩
theorem ok__law_classes : OkDef ci d__law_classes := ⟨by rfl, rfl, rfl, ⟨rfl, rfl, rfl, by decide +kernel, rfl, by decide +kernel, by decide +kernel⟩⟩
theorem ok__law_solutions : OkDef ci d__law_solutions := ⟨by rfl, rfl, rfl, ⟨rfl, rfl, rfl, by decide +kernel, rfl, by decide +kernel, by decide +kernel⟩⟩
theorem ok__law_number : OkDef ci d__law_number := ⟨by rfl, rfl, rfl, ⟨rfl, rfl, rfl, by decide +kernel, rfl, by decide +kernel, by decide +kernel⟩⟩
theorem ok__law_right : OkDef ci d__law_right := ⟨by rfl, rfl, rfl, ⟨rfl, rfl, rfl, by decide +kernel, rfl, by decide +kernel, by decide +kernel⟩⟩
theorem ok_law : OkDef ci d_law := ⟨by rfl, rfl, rfl, ⟨rfl, rfl, rfl, by decide +kernel, rfl, by decide +kernel, by decide +kernel⟩⟩
theorem kw_solutions : ci.kw (Str.ofString "solutions") = [(0, [(Str.ofString "number"), (Str.ofString "form")], [1, 0])] := by rfl
theorem T_is_whole : T (Str.ofString "is_whole") = some f_is_whole := by rfl
theorem T_is_within : T (Str.ofString "is_within") = some f_is_within := by rfl
theorem T_are_wholes : T (Str.ofString "are_wholes") = some f_are_wholes := by rfl
theorem T_is_discriminant_by : T (Str.ofString "is_discriminant_by") = some f_is_discriminant_by := by rfl
theorem T_discriminant_by : T (Str.ofString "discriminant_by") = some f_discriminant_by := by rfl
theorem T_is_formed : T (Str.ofString "is_formed") = some f_is_formed := by rfl
theorem T_is_change_by : T (Str.ofString "is_change_by") = some f_is_change_by := by rfl
theorem T_value_by : T (Str.ofString "value_by") = some f_value_by := by rfl
theorem T_changed_by : T (Str.ofString "changed_by") = some f_changed_by := by rfl
theorem T_after : T (Str.ofString "after") = some f_after := by rfl
theorem T_reduction : T (Str.ofString "reduction") = some f_reduction := by rfl
theorem T_pairs_of : T (Str.ofString "pairs_of") = some f_pairs_of := by rfl
theorem T_solutions_by : T (Str.ofString "solutions_by") = some f_solutions_by := by rfl
theorem T_check_form : T (Str.ofString "check_form") = some f_check_form := by rfl
theorem T_check_change : T (Str.ofString "check_change") = some f_check_change := by rfl
theorem T_check_number : T (Str.ofString "check_number") = some f_check_number := by rfl
theorem T_solutions : T (Str.ofString "solutions") = some f_solutions := by rfl
theorem T_changed : T (Str.ofString "changed") = some f_changed := by rfl
theorem T__law_well : T (Str.ofString "_law_well") = some f__law_well := by rfl
theorem T__law_draw : T (Str.ofString "_law_draw") = some f__law_draw := by rfl
theorem T__law_one : T (Str.ofString "_law_one") = some f__law_one := by rfl
theorem T__law_is_whole : T (Str.ofString "_law_is_whole") = some f__law_is_whole := by rfl
theorem T__law_gcd : T (Str.ofString "_law_gcd") = some f__law_gcd := by rfl
theorem T__law_root : T (Str.ofString "_law_root") = some f__law_root := by rfl
theorem T__law_is_discriminant : T (Str.ofString "_law_is_discriminant") = some f__law_is_discriminant := by rfl
theorem T__law_disc : T (Str.ofString "_law_disc") = some f__law_disc := by rfl
theorem T__law_value : T (Str.ofString "_law_value") = some f__law_value := by rfl
theorem T__law_disc_of : T (Str.ofString "_law_disc_of") = some f__law_disc_of := by rfl
theorem T__law_is_form : T (Str.ofString "_law_is_form") = some f__law_is_form := by rfl
theorem T__law_led : T (Str.ofString "_law_led") = some f__law_led := by rfl
theorem T__law_both : T (Str.ofString "_law_both") = some f__law_both := by rfl
theorem T__law_change : T (Str.ofString "_law_change") = some f__law_change := by rfl
theorem T__law_is_reduced : T (Str.ofString "_law_is_reduced") = some f__law_is_reduced := by rfl
theorem T__law_classes : T (Str.ofString "_law_classes") = some f__law_classes := by rfl
theorem T__law_solutions : T (Str.ofString "_law_solutions") = some f__law_solutions := by rfl
theorem T__law_number : T (Str.ofString "_law_number") = some f__law_number := by rfl
theorem T__law_right : T (Str.ofString "_law_right") = some f__law_right := by rfl
theorem T_law : T (Str.ofString "law") = some f_law := by rfl
theorem all_mk {K : PySem.W.Frag} {h : Heap} {mg : Str → Option Value} {f0 f1 f2 f3 f4 f5 f6 f7 f8 f9 f10 f11 f12 f13 f14 f15 f16 f17 f18 f19 f20 f21 f22 f23 f24 f25 f26 f27 f28 f29 f30 f31 f32 f33 f34 f35 f36 f37 : Addr} {od0 an0 od1 an1 od2 an2 od3 an3 od4 an4 od5 an5 od6 an6 od7 an7 od8 an8 od9 an9 od10 an10 od11 an11 od12 an12 od13 an13 od14 an14 od15 an15 od16 an16 od17 an17 od18 an18 od19 an19 od20 an20 od21 an21 od22 an22 od23 an23 od24 an24 od25 an25 od26 an26 od27 an27 od28 an28 od29 an29 od30 an30 od31 an31 od32 an32 od33 an33 od34 an34 od35 an35 od36 an36 od37 an37 : Option Addr} {sl0 sl1 sl2 sl3 sl4 sl5 sl6 sl7 sl8 sl9 sl10 sl11 sl12 sl13 sl14 sl15 sl16 sl17 sl18 sl19 sl20 sl21 sl22 sl23 sl24 sl25 sl26 sl27 sl28 sl29 sl30 sl31 sl32 sl33 sl34 sl35 sl36 sl37 : Array (Option Value)} {oc0 kV0 dc0 pm0 cd0 ct0 oc1 kV1 dc1 pm1 cd1 ct1 oc2 kV2 dc2 pm2 cd2 ct2 oc3 kV3 dc3 pm3 cd3 ct3 oc4 kV4 dc4 pm4 cd4 ct4 oc5 kV5 dc5 pm5 cd5 ct5 oc6 kV6 dc6 pm6 cd6 ct6 oc7 kV7 dc7 pm7 cd7 ct7 oc8 kV8 dc8 pm8 cd8 ct8 oc9 kV9 dc9 pm9 cd9 ct9 oc10 kV10 dc10 pm10 cd10 ct10 oc11 kV11 dc11 pm11 cd11 ct11 oc12 kV12 dc12 pm12 cd12 ct12 oc13 kV13 dc13 pm13 cd13 ct13 oc14 kV14 dc14 pm14 cd14 ct14 oc15 kV15 dc15 pm15 cd15 ct15 oc16 kV16 dc16 pm16 cd16 ct16 oc17 kV17 dc17 pm17 cd17 ct17 oc18 kV18 dc18 pm18 cd18 ct18 oc19 kV19 dc19 pm19 cd19 ct19 oc20 kV20 dc20 pm20 cd20 ct20 oc21 kV21 dc21 pm21 cd21 ct21 oc22 kV22 dc22 pm22 cd22 ct22 oc23 kV23 dc23 pm23 cd23 ct23 oc24 kV24 dc24 pm24 cd24 ct24 oc25 kV25 dc25 pm25 cd25 ct25 oc26 kV26 dc26 pm26 cd26 ct26 oc27 kV27 dc27 pm27 cd27 ct27 oc28 kV28 dc28 pm28 cd28 ct28 oc29 kV29 dc29 pm29 cd29 ct29 oc30 kV30 dc30 pm30 cd30 ct30 oc31 kV31 dc31 pm31 cd31 ct31 oc32 kV32 dc32 pm32 cd32 ct32 oc33 kV33 dc33 pm33 cd33 ct33 oc34 kV34 dc34 pm34 cd34 ct34 oc35 kV35 dc35 pm35 cd35 ct35 oc36 kV36 dc36 pm36 cd36 ct36 oc37 kV37 dc37 pm37 cd37 ct37 : Value} {t0 t1 t2 t3 t4 t5 t6 : Tok} {cA0 : Addr} {cO0 : Option Addr} {cn0 : Nat} {cs0 : Array (Option Value)} (hX : K.In h) (hG : h.Ns mainGlobals mg)
    (a0 : PySem.W.nsIn K mainGlobals (Str.ofString "is_whole") = some (some (.ref f0))) (l0 : K.lookup f0 = some ⟨oc0, od0, .func (PySem.W.fnOf (Str.ofString "is_whole") (Str.ofString "is_whole") (defArgs (top 7)) (defBody (top 7)) (defScope (top 7)) .none kV0 dc0 pm0 an0 cd0 ct0), sl0⟩) (c0 : PySem.W.codeIn K cd0 (Str.ofString "is_whole") = true) (k0 : PySem.W.keepIn K (.ref f0) = true)
    (a1 : PySem.W.nsIn K mainGlobals (Str.ofString "is_within") = some (some (.ref f1))) (l1 : K.lookup f1 = some ⟨oc1, od1, .func (PySem.W.fnOf (Str.ofString "is_within") (Str.ofString "is_within") (defArgs (top 8)) (defBody (top 8)) (defScope (top 8)) .none kV1 dc1 pm1 an1 cd1 ct1), sl1⟩) (c1 : PySem.W.codeIn K cd1 (Str.ofString "is_within") = true) (k1 : PySem.W.keepIn K (.ref f1) = true)
    (a2 : PySem.W.nsIn K mainGlobals (Str.ofString "are_wholes") = some (some (.ref f2))) (l2 : K.lookup f2 = some ⟨oc2, od2, .func (PySem.W.fnOf (Str.ofString "are_wholes") (Str.ofString "are_wholes") (defArgs (top 9)) (defBody (top 9)) (defScope (top 9)) .none kV2 dc2 pm2 an2 cd2 ct2), sl2⟩) (c2 : PySem.W.codeIn K cd2 (Str.ofString "are_wholes") = true) (k2 : PySem.W.keepIn K (.ref f2) = true)
    (a3 : PySem.W.nsIn K mainGlobals (Str.ofString "is_discriminant_by") = some (some (.ref f3))) (l3 : K.lookup f3 = some ⟨oc3, od3, .func (PySem.W.fnOf (Str.ofString "is_discriminant_by") (Str.ofString "is_discriminant_by") (defArgs (top 13)) (defBody (top 13)) (defScope (top 13)) .none kV3 dc3 pm3 an3 cd3 ct3), sl3⟩) (c3 : PySem.W.codeIn K cd3 (Str.ofString "is_discriminant_by") = true) (k3 : PySem.W.keepIn K (.ref f3) = true)
    (a4 : PySem.W.nsIn K mainGlobals (Str.ofString "discriminant_by") = some (some (.ref f4))) (l4 : K.lookup f4 = some ⟨oc4, od4, .func (PySem.W.fnOf (Str.ofString "discriminant_by") (Str.ofString "discriminant_by") (defArgs (top 16)) (defBody (top 16)) (defScope (top 16)) .none kV4 dc4 pm4 an4 cd4 ct4), sl4⟩) (c4 : PySem.W.codeIn K cd4 (Str.ofString "discriminant_by") = true) (k4 : PySem.W.keepIn K (.ref f4) = true)
    (a5 : PySem.W.nsIn K mainGlobals (Str.ofString "is_formed") = some (some (.ref f5))) (l5 : K.lookup f5 = some ⟨oc5, od5, .func (PySem.W.fnOf (Str.ofString "is_formed") (Str.ofString "is_formed") (defArgs (top 17)) (defBody (top 17)) (defScope (top 17)) .none kV5 dc5 pm5 an5 cd5 ct5), sl5⟩) (c5 : PySem.W.codeIn K cd5 (Str.ofString "is_formed") = true) (k5 : PySem.W.keepIn K (.ref f5) = true)
    (a6 : PySem.W.nsIn K mainGlobals (Str.ofString "is_change_by") = some (some (.ref f6))) (l6 : K.lookup f6 = some ⟨oc6, od6, .func (PySem.W.fnOf (Str.ofString "is_change_by") (Str.ofString "is_change_by") (defArgs (top 18)) (defBody (top 18)) (defScope (top 18)) .none kV6 dc6 pm6 an6 cd6 ct6), sl6⟩) (c6 : PySem.W.codeIn K cd6 (Str.ofString "is_change_by") = true) (k6 : PySem.W.keepIn K (.ref f6) = true)
    (a7 : PySem.W.nsIn K mainGlobals (Str.ofString "value_by") = some (some (.ref f7))) (l7 : K.lookup f7 = some ⟨oc7, od7, .func (PySem.W.fnOf (Str.ofString "value_by") (Str.ofString "value_by") (defArgs (top 19)) (defBody (top 19)) (defScope (top 19)) .none kV7 dc7 pm7 an7 cd7 ct7), sl7⟩) (c7 : PySem.W.codeIn K cd7 (Str.ofString "value_by") = true) (k7 : PySem.W.keepIn K (.ref f7) = true)
    (a8 : PySem.W.nsIn K mainGlobals (Str.ofString "changed_by") = some (some (.ref f8))) (l8 : K.lookup f8 = some ⟨oc8, od8, .func (PySem.W.fnOf (Str.ofString "changed_by") (Str.ofString "changed_by") (defArgs (top 20)) (defBody (top 20)) (defScope (top 20)) .none kV8 dc8 pm8 an8 cd8 ct8), sl8⟩) (c8 : PySem.W.codeIn K cd8 (Str.ofString "changed_by") = true) (k8 : PySem.W.keepIn K (.ref f8) = true)
    (a9 : PySem.W.nsIn K mainGlobals (Str.ofString "after") = some (some (.ref f9))) (l9 : K.lookup f9 = some ⟨oc9, od9, .func (PySem.W.fnOf (Str.ofString "after") (Str.ofString "after") (defArgs (top 21)) (defBody (top 21)) (defScope (top 21)) .none kV9 dc9 pm9 an9 cd9 ct9), sl9⟩) (c9 : PySem.W.codeIn K cd9 (Str.ofString "after") = true) (k9 : PySem.W.keepIn K (.ref f9) = true)
    (a10 : PySem.W.nsIn K mainGlobals (Str.ofString "reduction") = some (some (.ref f10))) (l10 : K.lookup f10 = some ⟨oc10, od10, .func (PySem.W.fnOf (Str.ofString "reduction") (Str.ofString "reduction") (defArgs (top 22)) (defBody (top 22)) (defScope (top 22)) .none kV10 dc10 pm10 an10 cd10 ct10), sl10⟩) (c10 : PySem.W.codeIn K cd10 (Str.ofString "reduction") = true) (k10 : PySem.W.keepIn K (.ref f10) = true)
    (a11 : PySem.W.nsIn K mainGlobals (Str.ofString "pairs_of") = some (some (.ref f11))) (l11 : K.lookup f11 = some ⟨oc11, od11, .func (PySem.W.fnOf (Str.ofString "pairs_of") (Str.ofString "pairs_of") (defArgs (top 23)) (defBody (top 23)) (defScope (top 23)) .none kV11 dc11 pm11 an11 cd11 ct11), sl11⟩) (c11 : PySem.W.codeIn K cd11 (Str.ofString "pairs_of") = true) (k11 : PySem.W.keepIn K (.ref f11) = true)
    (a12 : PySem.W.nsIn K mainGlobals (Str.ofString "solutions_by") = some (some (.ref f12))) (l12 : K.lookup f12 = some ⟨oc12, od12, .func (PySem.W.fnOf (Str.ofString "solutions_by") (Str.ofString "solutions_by") (defArgs (top 24)) (defBody (top 24)) (defScope (top 24)) .none kV12 dc12 pm12 an12 cd12 ct12), sl12⟩) (c12 : PySem.W.codeIn K cd12 (Str.ofString "solutions_by") = true) (k12 : PySem.W.keepIn K (.ref f12) = true)
    (a13 : PySem.W.nsIn K mainGlobals (Str.ofString "check_form") = some (some (.ref f13))) (l13 : K.lookup f13 = some ⟨oc13, od13, .func (PySem.W.fnOf (Str.ofString "check_form") (Str.ofString "check_form") (defArgs (top 26)) (defBody (top 26)) (defScope (top 26)) .none kV13 dc13 pm13 an13 cd13 ct13), sl13⟩) (c13 : PySem.W.codeIn K cd13 (Str.ofString "check_form") = true) (k13 : PySem.W.keepIn K (.ref f13) = true)
    (a14 : PySem.W.nsIn K mainGlobals (Str.ofString "check_change") = some (some (.ref f14))) (l14 : K.lookup f14 = some ⟨oc14, od14, .func (PySem.W.fnOf (Str.ofString "check_change") (Str.ofString "check_change") (defArgs (top 27)) (defBody (top 27)) (defScope (top 27)) .none kV14 dc14 pm14 an14 cd14 ct14), sl14⟩) (c14 : PySem.W.codeIn K cd14 (Str.ofString "check_change") = true) (k14 : PySem.W.keepIn K (.ref f14) = true)
    (a15 : PySem.W.nsIn K mainGlobals (Str.ofString "check_number") = some (some (.ref f15))) (l15 : K.lookup f15 = some ⟨oc15, od15, .func (PySem.W.fnOf (Str.ofString "check_number") (Str.ofString "check_number") (defArgs (top 28)) (defBody (top 28)) (defScope (top 28)) .none kV15 dc15 pm15 an15 cd15 ct15), sl15⟩) (c15 : PySem.W.codeIn K cd15 (Str.ofString "check_number") = true) (k15 : PySem.W.keepIn K (.ref f15) = true)
    (a16 : PySem.W.nsIn K mainGlobals (Str.ofString "solutions") = some (some (.ref f16))) (l16 : K.lookup f16 = some ⟨oc16, od16, .func (PySem.W.fnOf (Str.ofString "solutions") (Str.ofString "solutions") (defArgs (top 31)) (defBody (top 31)) (defScope (top 31)) .none kV16 dc16 pm16 an16 cd16 ct16), sl16⟩) (c16 : PySem.W.codeIn K cd16 (Str.ofString "solutions") = true) (k16 : PySem.W.keepIn K (.ref f16) = true)
    (a17 : PySem.W.nsIn K mainGlobals (Str.ofString "changed") = some (some (.ref f17))) (l17 : K.lookup f17 = some ⟨oc17, od17, .func (PySem.W.fnOf (Str.ofString "changed") (Str.ofString "changed") (defArgs (top 33)) (defBody (top 33)) (defScope (top 33)) .none kV17 dc17 pm17 an17 cd17 ct17), sl17⟩) (c17 : PySem.W.codeIn K cd17 (Str.ofString "changed") = true) (k17 : PySem.W.keepIn K (.ref f17) = true)
    (a18 : PySem.W.nsIn K mainGlobals (Str.ofString "_law_well") = some (some (.ref f18))) (l18 : K.lookup f18 = some ⟨oc18, od18, .func (PySem.W.fnOf (Str.ofString "_law_well") (Str.ofString "_law_well") (defArgs (top 35)) (defBody (top 35)) (defScope (top 35)) .none kV18 dc18 pm18 an18 cd18 ct18), sl18⟩) (c18 : PySem.W.codeIn K cd18 (Str.ofString "_law_well") = true) (k18 : PySem.W.keepIn K (.ref f18) = true)
    (a19 : PySem.W.nsIn K mainGlobals (Str.ofString "_law_draw") = some (some (.ref f19))) (l19 : K.lookup f19 = some ⟨oc19, od19, .func (PySem.W.fnOf (Str.ofString "_law_draw") (Str.ofString "_law_draw") (defArgs (top 36)) (defBody (top 36)) (defScope (top 36)) .none kV19 dc19 pm19 an19 cd19 ct19), sl19⟩) (c19 : PySem.W.codeIn K cd19 (Str.ofString "_law_draw") = true) (k19 : PySem.W.keepIn K (.ref f19) = true)
    (a20 : PySem.W.nsIn K mainGlobals (Str.ofString "_law_one") = some (some (.ref f20))) (l20 : K.lookup f20 = some ⟨oc20, od20, .func (PySem.W.fnOf (Str.ofString "_law_one") (Str.ofString "_law_one") (defArgs (top 37)) (defBody (top 37)) (defScope (top 37)) .none kV20 dc20 pm20 an20 cd20 ct20), sl20⟩) (c20 : PySem.W.codeIn K cd20 (Str.ofString "_law_one") = true) (k20 : PySem.W.keepIn K (.ref f20) = true)
    (a21 : PySem.W.nsIn K mainGlobals (Str.ofString "_law_is_whole") = some (some (.ref f21))) (l21 : K.lookup f21 = some ⟨oc21, od21, .func (PySem.W.fnOf (Str.ofString "_law_is_whole") (Str.ofString "_law_is_whole") (defArgs (top 38)) (defBody (top 38)) (defScope (top 38)) .none kV21 dc21 pm21 an21 cd21 ct21), sl21⟩) (c21 : PySem.W.codeIn K cd21 (Str.ofString "_law_is_whole") = true) (k21 : PySem.W.keepIn K (.ref f21) = true)
    (a22 : PySem.W.nsIn K mainGlobals (Str.ofString "_law_gcd") = some (some (.ref f22))) (l22 : K.lookup f22 = some ⟨oc22, od22, .func (PySem.W.fnOf (Str.ofString "_law_gcd") (Str.ofString "_law_gcd") (defArgs (top 39)) (defBody (top 39)) (defScope (top 39)) .none kV22 dc22 pm22 an22 cd22 ct22), sl22⟩) (c22 : PySem.W.codeIn K cd22 (Str.ofString "_law_gcd") = true) (k22 : PySem.W.keepIn K (.ref f22) = true)
    (a23 : PySem.W.nsIn K mainGlobals (Str.ofString "_law_root") = some (some (.ref f23))) (l23 : K.lookup f23 = some ⟨oc23, od23, .func (PySem.W.fnOf (Str.ofString "_law_root") (Str.ofString "_law_root") (defArgs (top 40)) (defBody (top 40)) (defScope (top 40)) .none kV23 dc23 pm23 an23 cd23 ct23), sl23⟩) (c23 : PySem.W.codeIn K cd23 (Str.ofString "_law_root") = true) (k23 : PySem.W.keepIn K (.ref f23) = true)
    (a24 : PySem.W.nsIn K mainGlobals (Str.ofString "_law_is_discriminant") = some (some (.ref f24))) (l24 : K.lookup f24 = some ⟨oc24, od24, .func (PySem.W.fnOf (Str.ofString "_law_is_discriminant") (Str.ofString "_law_is_discriminant") (defArgs (top 41)) (defBody (top 41)) (defScope (top 41)) .none kV24 dc24 pm24 an24 cd24 ct24), sl24⟩) (c24 : PySem.W.codeIn K cd24 (Str.ofString "_law_is_discriminant") = true) (k24 : PySem.W.keepIn K (.ref f24) = true)
    (a25 : PySem.W.nsIn K mainGlobals (Str.ofString "_law_disc") = some (some (.ref f25))) (l25 : K.lookup f25 = some ⟨oc25, od25, .func (PySem.W.fnOf (Str.ofString "_law_disc") (Str.ofString "_law_disc") (defArgs (top 42)) (defBody (top 42)) (defScope (top 42)) .none kV25 dc25 pm25 an25 cd25 ct25), sl25⟩) (c25 : PySem.W.codeIn K cd25 (Str.ofString "_law_disc") = true) (k25 : PySem.W.keepIn K (.ref f25) = true)
    (a26 : PySem.W.nsIn K mainGlobals (Str.ofString "_law_value") = some (some (.ref f26))) (l26 : K.lookup f26 = some ⟨oc26, od26, .func (PySem.W.fnOf (Str.ofString "_law_value") (Str.ofString "_law_value") (defArgs (top 43)) (defBody (top 43)) (defScope (top 43)) .none kV26 dc26 pm26 an26 cd26 ct26), sl26⟩) (c26 : PySem.W.codeIn K cd26 (Str.ofString "_law_value") = true) (k26 : PySem.W.keepIn K (.ref f26) = true)
    (a27 : PySem.W.nsIn K mainGlobals (Str.ofString "_law_disc_of") = some (some (.ref f27))) (l27 : K.lookup f27 = some ⟨oc27, od27, .func (PySem.W.fnOf (Str.ofString "_law_disc_of") (Str.ofString "_law_disc_of") (defArgs (top 44)) (defBody (top 44)) (defScope (top 44)) .none kV27 dc27 pm27 an27 cd27 ct27), sl27⟩) (c27 : PySem.W.codeIn K cd27 (Str.ofString "_law_disc_of") = true) (k27 : PySem.W.keepIn K (.ref f27) = true)
    (a28 : PySem.W.nsIn K mainGlobals (Str.ofString "_law_is_form") = some (some (.ref f28))) (l28 : K.lookup f28 = some ⟨oc28, od28, .func (PySem.W.fnOf (Str.ofString "_law_is_form") (Str.ofString "_law_is_form") (defArgs (top 45)) (defBody (top 45)) (defScope (top 45)) .none kV28 dc28 pm28 an28 cd28 ct28), sl28⟩) (c28 : PySem.W.codeIn K cd28 (Str.ofString "_law_is_form") = true) (k28 : PySem.W.keepIn K (.ref f28) = true)
    (a29 : PySem.W.nsIn K mainGlobals (Str.ofString "_law_led") = some (some (.ref f29))) (l29 : K.lookup f29 = some ⟨oc29, od29, .func (PySem.W.fnOf (Str.ofString "_law_led") (Str.ofString "_law_led") (defArgs (top 46)) (defBody (top 46)) (defScope (top 46)) .none kV29 dc29 pm29 an29 cd29 ct29), sl29⟩) (c29 : PySem.W.codeIn K cd29 (Str.ofString "_law_led") = true) (k29 : PySem.W.keepIn K (.ref f29) = true)
    (a30 : PySem.W.nsIn K mainGlobals (Str.ofString "_law_both") = some (some (.ref f30))) (l30 : K.lookup f30 = some ⟨oc30, od30, .func (PySem.W.fnOf (Str.ofString "_law_both") (Str.ofString "_law_both") (defArgs (top 47)) (defBody (top 47)) (defScope (top 47)) .none kV30 dc30 pm30 an30 cd30 ct30), sl30⟩) (c30 : PySem.W.codeIn K cd30 (Str.ofString "_law_both") = true) (k30 : PySem.W.keepIn K (.ref f30) = true)
    (a31 : PySem.W.nsIn K mainGlobals (Str.ofString "_law_change") = some (some (.ref f31))) (l31 : K.lookup f31 = some ⟨oc31, od31, .func (PySem.W.fnOf (Str.ofString "_law_change") (Str.ofString "_law_change") (defArgs (top 48)) (defBody (top 48)) (defScope (top 48)) .none kV31 dc31 pm31 an31 cd31 ct31), sl31⟩) (c31 : PySem.W.codeIn K cd31 (Str.ofString "_law_change") = true) (k31 : PySem.W.keepIn K (.ref f31) = true)
    (a32 : PySem.W.nsIn K mainGlobals (Str.ofString "_law_is_reduced") = some (some (.ref f32))) (l32 : K.lookup f32 = some ⟨oc32, od32, .func (PySem.W.fnOf (Str.ofString "_law_is_reduced") (Str.ofString "_law_is_reduced") (defArgs (top 49)) (defBody (top 49)) (defScope (top 49)) .none kV32 dc32 pm32 an32 cd32 ct32), sl32⟩) (c32 : PySem.W.codeIn K cd32 (Str.ofString "_law_is_reduced") = true) (k32 : PySem.W.keepIn K (.ref f32) = true)
    (a33 : PySem.W.nsIn K mainGlobals (Str.ofString "_law_classes") = some (some (.ref f33))) (l33 : K.lookup f33 = some ⟨oc33, od33, .func (PySem.W.fnOf (Str.ofString "_law_classes") (Str.ofString "_law_classes") (defArgs (top 50)) (defBody (top 50)) (defScope (top 50)) .none kV33 dc33 pm33 an33 cd33 ct33), sl33⟩) (c33 : PySem.W.codeIn K cd33 (Str.ofString "_law_classes") = true) (k33 : PySem.W.keepIn K (.ref f33) = true)
    (a34 : PySem.W.nsIn K mainGlobals (Str.ofString "_law_solutions") = some (some (.ref f34))) (l34 : K.lookup f34 = some ⟨oc34, od34, .func (PySem.W.fnOf (Str.ofString "_law_solutions") (Str.ofString "_law_solutions") (defArgs (top 51)) (defBody (top 51)) (defScope (top 51)) .none kV34 dc34 pm34 an34 cd34 ct34), sl34⟩) (c34 : PySem.W.codeIn K cd34 (Str.ofString "_law_solutions") = true) (k34 : PySem.W.keepIn K (.ref f34) = true)
    (a35 : PySem.W.nsIn K mainGlobals (Str.ofString "_law_number") = some (some (.ref f35))) (l35 : K.lookup f35 = some ⟨oc35, od35, .func (PySem.W.fnOf (Str.ofString "_law_number") (Str.ofString "_law_number") (defArgs (top 52)) (defBody (top 52)) (defScope (top 52)) .none kV35 dc35 pm35 an35 cd35 ct35), sl35⟩) (c35 : PySem.W.codeIn K cd35 (Str.ofString "_law_number") = true) (k35 : PySem.W.keepIn K (.ref f35) = true)
    (a36 : PySem.W.nsIn K mainGlobals (Str.ofString "_law_right") = some (some (.ref f36))) (l36 : K.lookup f36 = some ⟨oc36, od36, .func (PySem.W.fnOf (Str.ofString "_law_right") (Str.ofString "_law_right") (defArgs (top 53)) (defBody (top 53)) (defScope (top 53)) .none kV36 dc36 pm36 an36 cd36 ct36), sl36⟩) (c36 : PySem.W.codeIn K cd36 (Str.ofString "_law_right") = true) (k36 : PySem.W.keepIn K (.ref f36) = true)
    (a37 : PySem.W.nsIn K mainGlobals (Str.ofString "law") = some (some (.ref f37))) (l37 : K.lookup f37 = some ⟨oc37, od37, .func (PySem.W.fnOf (Str.ofString "law") (Str.ofString "law") (defArgs (top 54)) (defBody (top 54)) (defScope (top 54)) .none kV37 dc37 pm37 an37 cd37 ct37), sl37⟩) (c37 : PySem.W.codeIn K cd37 (Str.ofString "law") = true) (k37 : PySem.W.keepIn K (.ref f37) = true)
    (u0 : PySem.W.nsIn K mainGlobals (Str.ofString "LOWEST") = some (some (.int (-400) t0)))
    (u1 : PySem.W.nsIn K mainGlobals (Str.ofString "HIGHEST") = some (some (.int (-3) t1)))
    (u2 : PySem.W.nsIn K mainGlobals (Str.ofString "SAME") = some (some (.ref cA0)))
    (u3 : PySem.W.nsIn K mainGlobals (Str.ofString "MOST_VALUE") = some (some (.int (10000) t6)))
    (w0 : K.lookup cA0 = some ⟨.type "tuple", cO0, .seq #[(.int (1) t2), (.int (0) t3), (.int (0) t4), (.int (1) t5)] cn0, cs0⟩)
    (z0 : PySem.W.nsIn K mainGlobals (Str.ofString "len") = some none)
    (z1 : PySem.W.nsIn K mainGlobals (Str.ofString "abs") = some none)
    (z2 : PySem.W.nsIn K mainGlobals (Str.ofString "max") = some none)
    (z3 : PySem.W.nsIn K mainGlobals (Str.ofString "min") = some none)
    (z4 : PySem.W.nsIn K mainGlobals (Str.ofString "int") = some none)
    (z5 : PySem.W.nsIn K mainGlobals (Str.ofString "all") = some none)
    (z6 : PySem.W.nsIn K mainGlobals (Str.ofString "tuple") = some none)
    (z7 : PySem.W.nsIn K mainGlobals (Str.ofString "repr") = some none)
    (z8 : PySem.W.nsIn K mainGlobals (Str.ofString "divmod") = some none)
    (z9 : PySem.W.nsIn K mainGlobals (Str.ofString "range") = some none)
    (z10 : PySem.W.nsIn K mainGlobals (Str.ofString "isinstance") = some none)
    (z11 : PySem.W.nsIn K mainGlobals (Str.ofString "bool") = some none)
    (z12 : PySem.W.nsIn K mainGlobals (Str.ofString "sorted") = some none)
    (z13 : PySem.W.nsIn K mainGlobals (Str.ofString "set") = some none)
    (m0 : PySem.W.nsIn K mainGlobals (Str.ofString "gcd") = some (some (.builtin "math.gcd")))
    (m1 : PySem.W.nsIn K mainGlobals (Str.ofString "isqrt") = some (some (.builtin "math.isqrt")))
    : GOk K mg ci G ∧ AllSt (StandsAt K mg ci) tab := by
  refine ⟨gok_of (.cons (con_of hX hG u0 Wr.int) (.cons (con_of hX hG u1 Wr.int) (.cons (con_of hX hG u2 (Wr.tup w0 (by show 4 ≤ sizeLine; decide) (.cons Wr.int (.cons Wr.int (.cons Wr.int (.cons Wr.int .nil)))))) (.cons (con_of hX hG u3 Wr.int) .nil)))) (.cons (PySem.W.mg_none_of hX hG z0) (.cons (PySem.W.mg_none_of hX hG z1) (.cons (PySem.W.mg_none_of hX hG z2) (.cons (PySem.W.mg_none_of hX hG z3) (.cons (PySem.W.mg_none_of hX hG z4) (.cons (PySem.W.mg_none_of hX hG z5) (.cons (PySem.W.mg_none_of hX hG z6) (.cons (PySem.W.mg_none_of hX hG z7) (.cons (PySem.W.mg_none_of hX hG z8) (.cons (PySem.W.mg_none_of hX hG z9) (.cons (PySem.W.mg_none_of hX hG z10) (.cons (PySem.W.mg_none_of hX hG z11) (.cons (PySem.W.mg_none_of hX hG z12) (.cons (PySem.W.mg_none_of hX hG z13) .nil)))))))))))))) (.cons (gcd_is (PySem.W.mg_of hX hG m0)) (.cons (isqrt_is (PySem.W.mg_of hX hG m1)) .nil)), ?_⟩
  refine .cons (stands_at hX hG ok_is_whole (fun _ _ _ _ _ _ us hl => match us, hl with | [_], _ => rfl) (fun _ _ _ _ _ _ => KwOk.nil) a0 l0 c0 k0) ?_
  refine .cons (stands_at hX hG ok_is_within (fun _ _ _ _ _ _ us hl => match us, hl with | [_, _, _], _ => rfl) (fun _ _ _ _ _ _ => KwOk.nil) a1 l1 c1 k1) ?_
  refine .cons (stands_at hX hG ok_are_wholes (fun _ _ _ _ _ _ us hl => match us, hl with | [_, _], _ => rfl) (fun _ _ _ _ _ _ => KwOk.nil) a2 l2 c2 k2) ?_
  refine .cons (stands_at hX hG ok_is_discriminant_by (fun _ _ _ _ _ _ us hl => match us, hl with | [_], _ => rfl) (fun _ _ _ _ _ _ => KwOk.nil) a3 l3 c3 k3) ?_
  refine .cons (stands_at hX hG ok_discriminant_by (fun _ _ _ _ _ _ us hl => match us, hl with | [_], _ => rfl) (fun _ _ _ _ _ _ => KwOk.nil) a4 l4 c4 k4) ?_
  refine .cons (stands_at hX hG ok_is_formed (fun _ _ _ _ _ _ us hl => match us, hl with | [_], _ => rfl) (fun _ _ _ _ _ _ => KwOk.nil) a5 l5 c5 k5) ?_
  refine .cons (stands_at hX hG ok_is_change_by (fun _ _ _ _ _ _ us hl => match us, hl with | [_], _ => rfl) (fun _ _ _ _ _ _ => KwOk.nil) a6 l6 c6 k6) ?_
  refine .cons (stands_at hX hG ok_value_by (fun _ _ _ _ _ _ us hl => match us, hl with | [_, _, _], _ => rfl) (fun _ _ _ _ _ _ => KwOk.nil) a7 l7 c7 k7) ?_
  refine .cons (stands_at hX hG ok_changed_by (fun _ _ _ _ _ _ us hl => match us, hl with | [_, _], _ => rfl) (fun _ _ _ _ _ _ => KwOk.nil) a8 l8 c8 k8) ?_
  refine .cons (stands_at hX hG ok_after (fun _ _ _ _ _ _ us hl => match us, hl with | [_, _], _ => rfl) (fun _ _ _ _ _ _ => KwOk.nil) a9 l9 c9 k9) ?_
  refine .cons (stands_at hX hG ok_reduction (fun _ _ _ _ _ _ us hl => match us, hl with | [_], _ => rfl) (fun _ _ _ _ _ _ => KwOk.nil) a10 l10 c10 k10) ?_
  refine .cons (stands_at hX hG ok_pairs_of (fun _ _ _ _ _ _ us hl => match us, hl with | [_, _], _ => rfl) (fun _ _ _ _ _ _ => KwOk.nil) a11 l11 c11 k11) ?_
  refine .cons (stands_at hX hG ok_solutions_by (fun _ _ _ _ _ _ us hl => match us, hl with | [_, _], _ => rfl) (fun _ _ _ _ _ _ => KwOk.nil) a12 l12 c12 k12) ?_
  refine .cons (stands_at hX hG ok_check_form (fun _ _ _ _ _ _ us hl => match us, hl with | [_], _ => rfl) (fun _ _ _ _ _ _ => KwOk.nil) a13 l13 c13 k13) ?_
  refine .cons (stands_at hX hG ok_check_change (fun _ _ _ _ _ _ us hl => match us, hl with | [_], _ => rfl) (fun _ _ _ _ _ _ => KwOk.nil) a14 l14 c14 k14) ?_
  refine .cons (stands_at hX hG ok_check_number (fun _ _ _ _ _ _ us hl => match us, hl with | [_, _, _], _ => rfl) (fun _ _ _ _ _ _ => KwOk.nil) a15 l15 c15 k15) ?_
  refine .cons (stands_at hX hG ok_solutions (fun _ _ _ _ _ _ us hl => match us, hl with | [_, _], _ => rfl) (fun _ _ _ _ _ _ => by rw [kw_solutions]; exact (.cons (fun us ws vs h1 h2 e => match us, h1, ws, h2 with | [], _, [_, _], _ => by cases e; rfl) .nil)) a16 l16 c16 k16) ?_
  refine .cons (stands_at hX hG ok_changed (fun _ _ _ _ _ _ us hl => match us, hl with | [_, _], _ => rfl) (fun _ _ _ _ _ _ => KwOk.nil) a17 l17 c17 k17) ?_
  refine .cons (stands_at hX hG ok__law_well (fun _ _ _ _ _ _ us hl => match us, hl with | [_, _], _ => rfl) (fun _ _ _ _ _ _ => KwOk.nil) a18 l18 c18 k18) ?_
  refine .cons (stands_at hX hG ok__law_draw (fun _ _ _ _ _ _ us hl => match us, hl with | [_, _], _ => rfl) (fun _ _ _ _ _ _ => KwOk.nil) a19 l19 c19 k19) ?_
  refine .cons (stands_at hX hG ok__law_one (fun _ _ _ _ _ _ us hl => match us, hl with | [_, _], _ => rfl) (fun _ _ _ _ _ _ => KwOk.nil) a20 l20 c20 k20) ?_
  refine .cons (stands_at hX hG ok__law_is_whole (fun _ _ _ _ _ _ us hl => match us, hl with | [_], _ => rfl) (fun _ _ _ _ _ _ => KwOk.nil) a21 l21 c21 k21) ?_
  refine .cons (stands_at hX hG ok__law_gcd (fun _ _ _ _ _ _ us hl => match us, hl with | [_, _], _ => rfl) (fun _ _ _ _ _ _ => KwOk.nil) a22 l22 c22 k22) ?_
  refine .cons (stands_at hX hG ok__law_root (fun _ _ _ _ _ _ us hl => match us, hl with | [_], _ => rfl) (fun _ _ _ _ _ _ => KwOk.nil) a23 l23 c23 k23) ?_
  refine .cons (stands_at hX hG ok__law_is_discriminant (fun _ _ _ _ _ _ us hl => match us, hl with | [_], _ => rfl) (fun _ _ _ _ _ _ => KwOk.nil) a24 l24 c24 k24) ?_
  refine .cons (stands_at hX hG ok__law_disc (fun _ _ _ _ _ _ us hl => match us, hl with | [_], _ => rfl) (fun _ _ _ _ _ _ => KwOk.nil) a25 l25 c25 k25) ?_
  refine .cons (stands_at hX hG ok__law_value (fun _ _ _ _ _ _ us hl => match us, hl with | [_, _, _], _ => rfl) (fun _ _ _ _ _ _ => KwOk.nil) a26 l26 c26 k26) ?_
  refine .cons (stands_at hX hG ok__law_disc_of (fun _ _ _ _ _ _ us hl => match us, hl with | [_], _ => rfl) (fun _ _ _ _ _ _ => KwOk.nil) a27 l27 c27 k27) ?_
  refine .cons (stands_at hX hG ok__law_is_form (fun _ _ _ _ _ _ us hl => match us, hl with | [_], _ => rfl) (fun _ _ _ _ _ _ => KwOk.nil) a28 l28 c28 k28) ?_
  refine .cons (stands_at hX hG ok__law_led (fun _ _ _ _ _ _ us hl => match us, hl with | [_, _], _ => rfl) (fun _ _ _ _ _ _ => KwOk.nil) a29 l29 c29 k29) ?_
  refine .cons (stands_at hX hG ok__law_both (fun _ _ _ _ _ _ us hl => match us, hl with | [_, _], _ => rfl) (fun _ _ _ _ _ _ => KwOk.nil) a30 l30 c30 k30) ?_
  refine .cons (stands_at hX hG ok__law_change (fun _ _ _ _ _ _ us hl => match us, hl with | [_, _, _], _ => rfl) (fun _ _ _ _ _ _ => KwOk.nil) a31 l31 c31 k31) ?_
  refine .cons (stands_at hX hG ok__law_is_reduced (fun _ _ _ _ _ _ us hl => match us, hl with | [_], _ => rfl) (fun _ _ _ _ _ _ => KwOk.nil) a32 l32 c32 k32) ?_
  refine .cons (stands_at hX hG ok__law_classes (fun _ _ _ _ _ _ us hl => match us, hl with | [_], _ => rfl) (fun _ _ _ _ _ _ => KwOk.nil) a33 l33 c33 k33) ?_
  refine .cons (stands_at hX hG ok__law_solutions (fun _ _ _ _ _ _ us hl => match us, hl with | [_, _], _ => rfl) (fun _ _ _ _ _ _ => KwOk.nil) a34 l34 c34 k34) ?_
  refine .cons (stands_at hX hG ok__law_number (fun _ _ _ _ _ _ us hl => match us, hl with | [_, _], _ => rfl) (fun _ _ _ _ _ _ => KwOk.nil) a35 l35 c35 k35) ?_
  refine .cons (stands_at hX hG ok__law_right (fun _ _ _ _ _ _ us hl => match us, hl with | [_], _ => rfl) (fun _ _ _ _ _ _ => KwOk.nil) a36 l36 c36 k36) ?_
  refine .cons (stands_at hX hG ok_law (fun _ _ _ _ _ _ us hl => match us, hl with | [_], _ => rfl) (fun _ _ _ _ _ _ => KwOk.nil) a37 l37 c37 k37) ?_
  exact .nil
end K06

set_option Elab.async false
set_option linter.all false
set_option maxRecDepth 100000
set_option maxHeartbeats 4000000
/-! The other draws of the laws: the well, a draw, one of some. -/
namespace Py
open PySem PySem.Spec PyProof.Rows L2
def fWell : Fn := ⟨5, 2, true, (.cons (.asg (.name 2) (.op .add (.int 51407) (.op .mul (.int 6101) (.var 1)))) (.cons (.forr (.name 3) (.seq (.slc (.var 0) .none (.some (.int 12)))) (.cons (.asg (.name 2) (.op .mod (.blt .int (.cons (.op .add (.op .add (.op .mul (.var 2) (.int 40151)) (.op .mul (.op .mod (.blt .int (.cons (.var 3) .nil)) (.int 2147483563)) (.int 13))) (.int 19)) .nil)) (.int 2147483563))) .nil)) (.cons (.asg (.name 4) (.ifx (.val (.cmp .lt (.var 1) (.blt .len (.cons (.var 0) .nil)))) (.blt .int (.cons (.sub (.var 0) (.var 1)) .nil)) (.int 0))) (.cons (.asg (.name 2) (.op .mod (.blt .int (.cons (.op .add (.op .add (.op .mul (.var 2) (.int 101)) (.op .mul (.op .mod (.blt .int (.cons (.var 4) .nil)) (.int 2147483563)) (.int 20047))) (.int 7)) .nil)) (.int 2147483563))) (.cons (.ret (.lst true (.cons (.ifx (.or (.val (.cmp .lt (.var 4) (.int 0))) (.val (.cmp .ge (.var 4) (.op .pow (.int 10) (.int 15))))) (.blt .abs (.cons (.var 4) .nil)) (.int 0)) (.cons (.var 2) (.cons (.int 0) .nil))))) .nil)))))⟩
def fDraw : Fn := ⟨4, 2, false, (.cons (.iff (.val (.cmp .gt (.sub (.var 0) (.int 0)) (.int 0))) (.cons (.asg (.tup (.cons (.sub (.var 0) (.int 0)) (.cons (.name 2) .nil))) (.blt .divmod (.cons (.sub (.var 0) (.int 0)) (.cons (.var 1) .nil)))) (.cons (.ret (.var 2)) .nil)) .nil) (.cons (.asg (.sub (.var 0) (.int 2)) (.op .add (.sub (.var 0) (.int 2)) (.int 1))) (.cons (.asg (.name 3) (.op .mod (.blt .int (.cons (.op .add (.op .mul (.sub (.var 0) (.int 1)) (.int 48271)) (.op .mul (.int 15013) (.sub (.var 0) (.int 2)))) .nil)) (.int 2147483563))) (.cons (.asg (.sub (.var 0) (.int 1)) (.op .mod (.blt .int (.cons (.op .add (.op .mul (.var 3) (.op .add (.op .mod (.blt .int (.cons (.var 3) .nil)) (.int 4999)) (.int 20011))) (.sub (.var 0) (.int 2))) .nil)) (.int 2147483563))) (.cons (.ret (.op .mod (.blt .int (.cons (.op .fdiv (.sub (.var 0) (.int 1)) (.int 977)) .nil)) (.var 1))) .nil)))))⟩
def fOneW : Fn := ⟨2, 2, false, (.cons (.ret (.sub (.var 1) (.call (Str.ofString "_law_draw") (.cons (.var 0) (.cons (.blt .len (.cons (.var 1) .nil)) .nil))))) .nil)⟩
def WellAt (n : Nat) (S : Store) (t : Int) : Prop := ∃ a m c : Int, S[n]? = some (.lst [.int a, .int m, .int c]) ∧ 0 ≤ a ∧ 0 ≤ m ∧ m < 2147483563 ∧ 0 ≤ c ∧ c ≤ t
section
variable {T : Str → Option Fn} {G : Str → Option D} {k : Nat}
theorem draw_ok (hT : T (Str.ofString "_law_draw") = some fDraw) {n : Nat} {S : Store} {a m c b : Int} (hS : S[n]? = some (.lst [.int a, .int m, .int c])) (ha : 0 ≤ a) (hm : 0 ≤ m) (hm2 : m < 2147483563) (hc : 0 ≤ c) (hc2 : c < 1000000000) (hb : 0 < b) (hb2 : b < 1073741824) :
    ∃ a' m' c' f, 0 ≤ a' ∧ 0 ≤ m' ∧ m' < 2147483563 ∧ 0 ≤ c' ∧ c' ≤ c + 1 ∧ 0 ≤ f ∧ f < b ∧
      call T G (k + 1) (Str.ofString "_law_draw") [.lo n, .int b] S = .ok (.int f) (S.set n (.lst [.int a', .int m', .int c'])) := by
  have hn : n < S.length := (List.getElem?_eq_some_iff.mp hS).1
  rw [call_eq hT rfl]
  have hset : ∀ es : List D, (S.set n (.lst es))[n]? = some (.lst es) := fun es => set_get hS
  by_cases h0 : 0 < a
  · refine ⟨a / b, m, c, a % b, Int.ediv_nonneg ha (by omega), hm, hm2, hc, by omega, Int.emod_nonneg _ (by omega), Int.emod_lt_of_pos _ hb, ?_⟩
    simp only [fDraw, evSs, evS, evE, evB, evEs, evT, evTs, bindk_ok, ofO_some, List.map_cons, List.map_nil, List.replicate, List.cons_append, List.nil_append, List.getElem?_cons_zero, List.getElem?_cons_succ, items_lo hS, at0, at1, at2, cop_gt, tr_bl, h0, decide_true, if_true, Option.map, bf_divmod hb hb2, ITs.len, List.length_cons, List.length_nil, hS, ix0, List.set_cons_zero, List.set_cons_succ, Bool.false_eq_true, if_false]
    have := leave_set (S := S) (X := []) (n := n) (d := .int (a % b)) (ds := [.int (a / b), .int m, .int c]) rfl rfl
    rw [List.append_nil] at this
    exact this
  · have hm' : 0 ≤ m * 48271 + 15013 * (c + 1) := by omega
    have q0 : 0 ≤ (m * 48271 + 15013 * (c + 1)) % 2147483563 := Int.emod_nonneg _ (by decide)
    have q1 : (m * 48271 + 15013 * (c + 1)) % 2147483563 < 2147483563 := Int.emod_lt_of_pos _ (by decide)
    generalize hx : (m * 48271 + 15013 * (c + 1)) % 2147483563 = x at q0 q1
    have r0 : 0 ≤ x % 4999 := Int.emod_nonneg _ (by decide)
    have r1 : x % 4999 < 4999 := Int.emod_lt_of_pos _ (by decide)
    have s0 : 0 ≤ (x * (x % 4999 + 20011) + (c + 1)) % 2147483563 := Int.emod_nonneg _ (by decide)
    have s1 : (x * (x % 4999 + 20011) + (c + 1)) % 2147483563 < 2147483563 := Int.emod_lt_of_pos _ (by decide)
    refine ⟨a, (x * (x % 4999 + 20011) + (c + 1)) % 2147483563, c + 1, (x * (x % 4999 + 20011) + (c + 1)) % 2147483563 / 977 % b, ha, s0, s1, by omega, by omega, Int.emod_nonneg _ (by omega), Int.emod_lt_of_pos _ hb, ?_⟩
    have m1 : mulOk m 48271 = true := mulOk_of (sml (by omega) (by omega)) (sml (by decide) (by decide))
    have m2 : mulOk 15013 (c + 1) = true := mulOk_of (sml (by decide) (by decide)) (sml (by omega) (by omega))
    have m3 : mulOk x (x % 4999 + 20011) = true := mulOk_of (sml (by omega) (by omega)) (sml (by omega) (by omega))
    have d1 : divOk 977 = true := by decide +kernel
    have p1 : (0 : Int) < 2147483563 := by decide
    have p2 : (0 : Int) < 4999 := by decide
    simp only [fDraw, evSs, evS, evE, evB, evEs, evT, evTs, bindk_ok, ofO_some, List.map_cons, List.map_nil, List.replicate, List.cons_append, List.nil_append, List.getElem?_cons_zero, List.getElem?_cons_succ, items_lo hS, at0, at1, at2, cop_gt, tr_bl, h0, decide_false, if_true, Option.map, ITs.len, List.length_cons, List.length_nil, hS, ix0, ix1, ix2, List.set_cons_zero, List.set_cons_succ, Bool.false_eq_true, if_false,
      bop_add, items_lo (hset _), hset, bop_mul m1, bop_mul m2, bop_mod p1, bf_int, hx, bop_mod p2, bop_mul m3, bop_fdiv d1, bop_mod hb, List.set_set]
    have := leave_set (S := S) (X := []) (n := n) (d := .int ((x * (x % 4999 + 20011) + (c + 1)) % 2147483563 / 977 % b)) (ds := [.int a, .int ((x * (x % 4999 + 20011) + (c + 1)) % 2147483563), .int (c + 1)]) rfl rfl
    rw [List.append_nil] at this
    exact this
/-- one of some -/
theorem oneW_ok (hT : T (Str.ofString "_law_draw") = some fDraw) (hT1 : T (Str.ofString "_law_one") = some fOneW) {n : Nat} {S : Store} {a m c : Int} {ds : List D} (hS : S[n]? = some (.lst [.int a, .int m, .int c])) (ha : 0 ≤ a) (hm : 0 ≤ m) (hm2 : m < 2147483563) (hc : 0 ≤ c) (hc2 : c < 1000000000) (hd : 0 < ds.length) (hd2 : ds.length < 1073741824)
    (hst : stills ds = true) : ∃ a' m' c' d, 0 ≤ a' ∧ 0 ≤ m' ∧ m' < 2147483563 ∧ 0 ≤ c' ∧ c' ≤ c + 1 ∧ d ∈ ds ∧
      call T G (k + 2) (Str.ofString "_law_one") [.lo n, .tup ds] S = .ok d (S.set n (.lst [.int a', .int m', .int c'])) := by
  obtain ⟨a', m', c', f, h1, h2, h3, h4, h5, h6, h7, h8⟩ := draw_ok (G := G) (k := k) hT (b := (ds.length : Int)) hS ha hm hm2 hc hc2 (by omega) (by omega)
  have hf : f.toNat < ds.length := by omega
  refine ⟨a', m', c', ds[f.toNat], h1, h2, h3, h4, h5, List.getElem_mem hf, ?_⟩
  rw [call_eq hT1 rfl]
  have ea := atI_of h6 (List.getElem?_eq_getElem hf)
  simp only [fOneW, evSs, evS, evE, evB, evEs, evT, evTs, bindk_ok, ofO_some, List.map_cons, List.map_nil, List.replicate, List.cons_append, List.nil_append, List.getElem?_cons_zero, List.getElem?_cons_succ, bf_lenT, h8, itm_tup, ea, Bool.false_eq_true, if_false]
  have := leave_set (S := S) (X := []) (n := n) (d := ds[f.toNat]) (ds := [.int a', .int m', .int c']) (still_of_mem hst (List.getElem_mem hf)) rfl
  rw [List.append_nil] at this
  exact this
/-- the urn of a turn -/
theorem well_ok (hT : T (Str.ofString "_law_well") = some fWell) (ns : List Int) (t : Nat) (ht : t < 1000) (S : Store) : WP (call T G (k + 1) (Str.ofString "_law_well") [.fz (ns.map .int), .int (t : Int)] S) fun d S' =>
    ∃ a m : Int, 0 ≤ a ∧ 0 ≤ m ∧ m < 2147483563 ∧ d = .lo S.length ∧ S' = S ++ [.lst [.int a, .int m, .int 0]] := by
  rw [call_eq hT rfl]
  have m0 : mulOk 6101 (t : Int) = true := mulOk_of (sml (by decide) (by decide)) (sml (by omega) (by omega))
  have p1 : (0 : Int) < 2147483563 := by decide
  have hP : ∀ x : Int, 0 ≤ x % 2147483563 ∧ x % 2147483563 < 2147483563 := fun x => ⟨Int.emod_nonneg _ (by decide), Int.emod_lt_of_pos _ (by decide)⟩
  simp only [fWell, evSs, evS, evE, evB, evEs, evT, evTs, evI, evO, bindk_ok, ofO_some, List.map_cons, List.map_nil, List.replicate, List.cons_append, List.nil_append, List.getElem?_cons_zero, List.getElem?_cons_succ, bop_mul m0, bop_add, List.set_cons_zero, List.set_cons_succ, itm_lv, if_true]
  rw [wp_bind, wp_bind]
  refine wp_forL (fun rest η S1 => (∀ d ∈ rest, ∃ y : Int, d = .int y) ∧ ∃ (m' : Int) (x : Option D), 0 ≤ m' ∧ m' < 2147483563000 ∧ S1 = S ∧ η = [some (.fz (ns.map .int)), some (.int (t : Int)), some (.int m'), x, none]) ?_ (fun _ _ _ _ => rfl) ?_ ?_
  · refine ⟨fun d hd => ?_, _, none, ?_, ?_, rfl, rfl⟩
    · obtain ⟨y, _, rfl⟩ := List.mem_map.mp (mem_slice hd)
      exact ⟨y, rfl⟩
    · omega
    · omega
  · rintro d ds η S1 ⟨hl, m', x, q1, q2, rfl, rfl⟩
    obtain ⟨y, rfl⟩ := hl d (List.mem_cons_self ..)
    obtain ⟨y0, y1⟩ := hP y
    have m1 : mulOk m' 40151 = true := mulOk_of (sml (by omega) (by omega)) (sml (by decide) (by decide))
    have m2 : mulOk (y % 2147483563) 13 = true := mulOk_of (sml (by omega) (by omega)) (sml (by decide) (by decide))
    simp only [wp_ok, List.getElem?_cons_zero, List.getElem?_cons_succ, List.set_cons_zero, List.set_cons_succ, bindk_ok, ofO_some, bop_mul m1, bf_int, bop_mod p1, bop_mul m2, bop_add, FQ]
    obtain ⟨z0, z1⟩ := hP (m' * 40151 + y % 2147483563 * 13 + 19)
    exact ⟨fun e he => hl e (List.mem_cons_of_mem _ he), _, _, z0, by omega, trivial, rfl⟩
  · rintro η S1 ⟨_, m', x, q1, q2, rfl, rfl⟩
    have own : ∃ o : Int, (((if (t : Int) < ((ns.map D.int).length : Int) then ((Res.ofO (atI (ns.map D.int) (t : Int)) S1).bind fun d S => Res.ok [d] S).bind fun ds S => Res.ofO (bf S .int ds) S else .ok (.int 0) S1))) = .ok (.int o) S1 := by
      by_cases h : (t : Int) < ((ns.map D.int).length : Int)
      · rw [if_pos h]
        have ht2 : t < ns.length := by rw [List.length_map] at h; omega
        have e : atI (ns.map D.int) (t : Int) = some (.int ns[t]) := atI_of (by omega) (by rw [Int.toNat_natCast, List.getElem?_map, List.getElem?_eq_getElem ht2]; rfl)
        rw [e]
        exact ⟨ns[t], rfl⟩
      · rw [if_neg h]; exact ⟨0, rfl⟩
    obtain ⟨o, ho⟩ := own
    obtain ⟨y0, y1⟩ := hP o
    have m1 : mulOk m' 101 = true := mulOk_of (sml (by omega) (by omega)) (sml (by decide) (by decide))
    have m2 : mulOk (o % 2147483563) 20047 = true := mulOk_of (sml (by omega) (by omega)) (sml (by decide) (by decide))
    simp only [List.getElem?_cons_zero, List.getElem?_cons_succ, List.set_cons_zero, List.set_cons_succ, bindk_ok, ofO_some, bf_lenF, cop_lt, Option.map, tr_bl, itm_fz, decide_eq_true_eq]
    rw [ho]
    obtain ⟨z0, z1⟩ := hP (m' * 101 + o % 2147483563 * 20047 + 7)
    simp only [List.getElem?_cons_zero, List.getElem?_cons_succ, List.set_cons_zero, List.set_cons_succ, bindk_ok, ofO_some, bop_mul m1, bop_mul m2, bf_int, bop_mod p1, bop_add, cop_lt, cop_ge, Option.map, tr_bl, bop_pow15, bf_abs]
    by_cases h1 : o < 0
    · simp only [h1, decide_true, if_true, bindk_ok, ofO_some, List.length_cons, List.length_nil]
      exact wp_ok.mpr (wp_ok.mpr ⟨-o, _, by omega, z0, z1, rfl, rfl⟩)
    · by_cases h2 : (1000000000000000 : Int) ≤ o
      · simp only [h1, h2, decide_true, decide_false, Bool.false_eq_true, if_false, if_true, bindk_ok, ofO_some, List.length_cons, List.length_nil]
        exact wp_ok.mpr (wp_ok.mpr ⟨o, _, by omega, z0, z1, rfl, rfl⟩)
      · simp only [h1, h2, decide_true, decide_false, Bool.false_eq_true, if_false, if_true, bindk_ok, ofO_some, List.length_cons, List.length_nil]
        exact wp_ok.mpr (wp_ok.mpr ⟨0, _, by omega, z0, z1, rfl, rfl⟩)
theorem WellAt.lt {n : Nat} {S : Store} {t : Int} (u : WellAt n S t) : n < S.length := let ⟨_, _, _, h, _⟩ := u; (List.getElem?_eq_some_iff.mp h).1
theorem WellAt.app {n : Nat} {S X : Store} {t : Int} (u : WellAt n S t) : WellAt n (S ++ X) t := by
  have hl := u.lt
  obtain ⟨a, m, c, h, r⟩ := u
  exact ⟨a, m, c, by rw [List.getElem?_append_left hl]; exact h, r⟩
theorem WellAt.other {n i : Nat} {S : Store} {t : Int} {c : Cell} (u : WellAt n S t) (h : i ≠ n) : WellAt n (S.set i c) t := by
  obtain ⟨a, m, c, e, r⟩ := u
  exact ⟨a, m, c, by rw [List.getElem?_set_ne h]; exact e, r⟩
theorem draw' (hT : T (Str.ofString "_law_draw") = some fDraw) {n : Nat} {S : Store} {t b : Int} (u : WellAt n S t) (ht : t < 100000000) (hb : 0 < b) (hb2 : b < 1073741824) :
    ∃ f S', 0 ≤ f ∧ f < b ∧ call T G (k + 1) (Str.ofString "_law_draw") [.lo n, .int b] S = .ok (.int f) S' ∧ Same n S S' ∧ WellAt n S' (t + 1) := by
  obtain ⟨a, m, c, h, h1, h2, h3, h4, h5⟩ := u
  obtain ⟨a', m', c', f, r1, r2, r3, r4, r5, r6, r7, r8⟩ := draw_ok (G := G) (k := k) hT h h1 h2 h3 h4 (by omega) hb hb2
  exact ⟨f, _, r6, r7, r8, Same.set, a', m', c', set_get h, r1, r2, r3, r4, by omega⟩
theorem oneW' (hT : T (Str.ofString "_law_draw") = some fDraw) (hT1 : T (Str.ofString "_law_one") = some fOneW) {n : Nat} {S : Store} {t : Int} {ds : List D} (u : WellAt n S t) (ht : t < 100000000) (hd : 0 < ds.length) (hd2 : ds.length < 1073741824) (hst : stills ds = true) :
    ∃ d S', d ∈ ds ∧ call T G (k + 2) (Str.ofString "_law_one") [.lo n, .tup ds] S = .ok d S' ∧ Same n S S' ∧ WellAt n S' (t + 1) := by
  obtain ⟨a, m, c, h, h1, h2, h3, h4, h5⟩ := u
  obtain ⟨a', m', c', d, r1, r2, r3, r4, r5, r6, r7⟩ := oneW_ok (G := G) (k := k) hT hT1 h h1 h2 h3 h4 (by omega) hd hd2 hst
  exact ⟨d, _, r6, r7, Same.set, a', m', c', set_get h, r1, r2, r3, r4, by omega⟩
/-- a block that has changed the urn alone, and made lists of its own -/
theorem leave_well {n : Nat} {S S' : Store} {d : D} {t : Int} (hn : n < S.length) (hl : S.length ≤ S'.length) (h : ∀ i, i < S.length → i ≠ n → S'[i]? = S[i]?) (u : WellAt n S' t) (hd : still d = true) : leave S (.ok d S') = .ok d (S'.take S.length) := by
  unfold leave
  dsimp only
  rw [if_pos, rs_still hd]
  refine ⟨hl, fun i hi => ?_⟩
  by_cases e : i = n
  · subst e
    obtain ⟨a, m, c, h, _⟩ := u
    exact .inr ⟨_, h, rfl⟩
  · exact .inl (h i hi e)
theorem oneW_lv (hT : T (Str.ofString "_law_draw") = some fDraw) (hT1 : T (Str.ofString "_law_one") = some fOneW) {n : Nat} {S : Store} {t : Int} {ds : List D} (u : WellAt n S t) (ht : t < 100000000) (hd : 0 < ds.length) (hd2 : ds.length < 1073741824) (hst : stills ds = true) :
    ∃ d S', d ∈ ds ∧ call T G (k + 2) (Str.ofString "_law_one") [.lo n, .lv ds] S = .ok d S' ∧ Same n S S' ∧ WellAt n S' (t + 1) := by
  obtain ⟨f, S', h1, h2, h3, h4, h5⟩ := draw' (G := G) (k := k) (b := (ds.length : Int)) hT u ht (by omega) (by omega)
  have hf : f.toNat < ds.length := by omega
  refine ⟨ds[f.toNat], S', List.getElem_mem hf, ?_, h4, h5⟩
  rw [call_eq hT1 rfl]
  have ea := atI_of h1 (List.getElem?_eq_getElem hf)
  simp -implicitDefEqProofs only [fOneW, evSs, evS, evE, evB, evEs, evT, evTs, evI, evO, bindk_ok, ofO_some, List.map_cons, List.map_nil, List.replicate, List.cons_append, List.nil_append, List.getElem?_cons_zero, List.getElem?_cons_succ, List.set_cons_zero, List.set_cons_succ, Option.map, bf_lenL, h3, itm_lv, ea, Bool.false_eq_true, if_false]
  have hl := u.lt
  have := leave_well (S := S) (S' := S') (d := ds[f.toNat]) (t := t + 1) hl (by rw [h4.1]; exact Nat.le_refl _) (fun i _ ne => h4.2 i ne) h5 (still_of_mem hst (List.getElem_mem hf))
  rw [← h4.1, List.take_length] at this
  exact this
theorem WellAt.mono {n : Nat} {S : Store} {t t' : Int} (u : WellAt n S t) (h : t ≤ t') : WellAt n S t' := by
  obtain ⟨a, m, c, e, h1, h2, h3, h4, h5⟩ := u
  exact ⟨a, m, c, e, h1, h2, h3, h4, by omega⟩
end
end Py

set_option Elab.async false
set_option linter.all false
set_option maxRecDepth 100000
set_option maxHeartbeats 4000000
/-! all([_law_right(_law_well(script, lap)) for lap in range(..)]) -/
namespace Py
open PySem PySem.Spec PyProof.Rows L2
def fLawW (M : Int) : Fn := ⟨2, 1, false, (.cons (.ret (.blt .all (.cons (.comp [1] true [1] (.rng1 (.blt .max (.cons (.int 2) (.cons (.blt .min (.cons (.blt .len (.cons (.var 0) .nil)) (.cons (.int M) .nil))) .nil)))) .yes (.call (Str.ofString "_law_right") (.cons (.call (Str.ofString "_law_well") (.cons (.var 0) (.cons (.var 1) .nil))) .nil))) .nil))) .nil)⟩
theorem comL_true {g : Store → Bool} {asg : D → Option Sl} {t : Sl → Store → Res Bool} {e : Sl → Store → Res D} {n : Nat} (hg : ∀ S, g S = true) :
    ∀ (ds acc : List D) (S : Store), S[n]? = some (.lst acc) → acc.length + ds.length ≤ sizeLine → (∀ b ∈ acc, b = .bl true) →
    (∀ d ∈ ds, ∃ η, asg d = some η ∧ ∀ S : Store, t η S = .ok true S ∧ WP (e η S) fun x S' => x = .bl true ∧ S.length ≤ S'.length ∧ ∀ i, i < S.length → S'[i]? = S[i]?) →
    ∃ acc' S', comL g asg t e n ds S = .ok (.lo n) S' ∧ S'[n]? = some (.lst acc') ∧ (∀ b ∈ acc', b = .bl true) ∧ S.length ≤ S'.length ∧ ∀ i, i < S.length → i ≠ n → S'[i]? = S[i]?
  | [], acc, S, h1, _, h3, _ => ⟨acc, S, by unfold comL; rw [if_pos (hg _)], h1, h3, Nat.le_refl _, fun _ _ _ => rfl⟩
  | d :: ds, acc, S, h1, h2, h3, h4 => by
    obtain ⟨η, q1, q2⟩ := h4 d (List.mem_cons_self ..)
    obtain ⟨q3, x, S1, q4, rfl, q5, q6⟩ := q2 S
    have hn : n < S.length := (List.getElem?_eq_some_iff.mp h1).1
    have e1 : S1[n]? = some (.lst acc) := by rw [q6 n hn, h1]
    rw [List.length_cons] at h2
    have e2 : (S1.set n (.lst (acc ++ [D.bl true])))[n]? = some (.lst (acc ++ [D.bl true])) := set_get e1
    obtain ⟨acc', S', r1, r2, r3, r4, r5⟩ := comL_true (g := g) (asg := asg) (t := t) (e := e) hg ds (acc ++ [.bl true]) (S1.set n (.lst (acc ++ [D.bl true]))) e2 (by rw [List.length_append, List.length_singleton]; omega) (fun b hb => by
      rcases List.mem_append.mp hb with h | h
      · exact h3 b h
      · exact List.mem_singleton.mp h) fun d' hd => h4 d' (List.mem_cons_of_mem _ hd)
    rw [List.length_set] at r4 r5
    refine ⟨acc', S', ?_, r2, r3, by omega, fun i hi ne => ?_⟩
    · unfold comL
      rw [if_pos (hg _), q1]
      simp only [q3, bindN_ok, if_true, q4, e1]
      rw [if_pos (show acc.length < sizeLine by omega)]
      exact r1
    · rw [r5 i (by omega) ne, List.getElem?_set_ne (Ne.symm ne), q6 i hi]
theorem bls_true : ∀ acc : List D, (∀ b ∈ acc, b = .bl true) → blsOf acc = some (List.replicate acc.length true) ∧ stills acc = true
  | [], _ => ⟨rfl, rfl⟩
  | d :: ds, h => by
    obtain ⟨h1, h2⟩ := bls_true ds fun b hb => h b (List.mem_cons_of_mem _ hb)
    rw [h d (List.mem_cons_self ..)]
    constructor
    · show (blsOf ds).map (true :: ·) = _
      rw [h1]; rfl
    · show (true && stills ds) = true
      rw [h2]; rfl
theorem all_rep (S : Store) (acc : List D) (h : ∀ b ∈ acc, b = .bl true) : bf S .all [.lv acc] = some (.bl true) := by
  show (blsOf acc).map (fun bs => D.bl (bs.all id)) = _
  rw [(bls_true acc h).1]
  show some (D.bl ((List.replicate acc.length true).all id)) = _
  rw [List.all_replicate]
  simp
section
variable {T : Str → Option Fn} {G : Str → Option D}
theorem lawW_ok {k : Nat} {M : Int} (hM : 2 ≤ M ∧ M < 1000) (hL : T (Str.ofString "law") = some (fLawW M)) (hU : T (Str.ofString "_law_well") = some fWell)
    (hR : ∀ (S : Store) (n : Nat) (a m : Int), S[n]? = some (.lst [.int a, .int m, .int 0]) → 0 ≤ a → 0 ≤ m → m < 2147483563 → WP (call T G (k + 1) (Str.ofString "_law_right") [.lo n] S) fun d S' => d = .bl true ∧ Same n S S')
    (ns : List Int) (hn : ns.length ≤ 63) : call T G (k + 2) (Str.ofString "law") [.fz (ns.map .int)] [] = .ok (.bl true) [] := by
  rw [call_eq hL rfl]
  have hmin : ∃ j : Int, 2 ≤ j ∧ j ≤ M ∧ j = (if (if M < ((ns.map D.int).length : Int) then M else ((ns.map D.int).length : Int)) > 2 then (if M < ((ns.map D.int).length : Int) then M else ((ns.map D.int).length : Int)) else 2) := ⟨_, by split <;> omega, by split <;> (try split) <;> omega, rfl⟩
  obtain ⟨j, j1, j2, j3⟩ := hmin
  have hj : -(2 ^ 62) ≤ j ∧ j < 2 ^ 62 := by omega
  have e1 : bf ([] : Store) .min [.int ((ns.map D.int).length : Int), .int M] = some (.int (if M < ((ns.map D.int).length : Int) then M else ((ns.map D.int).length : Int))) := rfl
  have e2 : bf ([] : Store) .max [.int 2, .int (if M < ((ns.map D.int).length : Int) then M else ((ns.map D.int).length : Int))] = some (.int j) := by rw [j3]; rfl
  have hz : (1000 : Nat) ≤ sizeLine := by decide
  obtain ⟨acc', S', r1, r2, r3, r4, r5⟩ := comL_true (g := guardOf .non []) (asg := fun d => asgC [1] true [1] d (wipeD [some (.fz (ns.map .int)), none] [1])) (t := evB (call T G (k + 1)) G .yes)
    (e := evE (call T G (k + 1)) G (.call (Str.ofString "_law_right") (.cons (.call (Str.ofString "_law_well") (.cons (.var 0) (.cons (.var 1) .nil))) .nil))) (n := 0) (fun _ => rfl) (rng 0 j.toNat) [] [.lst []] rfl (by rw [rng_length]; show 0 + j.toNat ≤ sizeLine; omega) (fun _ h => nomatch h) (by
      intro d hd
      obtain ⟨i, hi, rfl⟩ := rng_ints _ _ d hd
      rw [Int.zero_add]
      refine ⟨[some (.fz (ns.map .int)), some (.int (i : Int))], rfl, fun S => ⟨rfl, ?_⟩⟩
      obtain ⟨d1, S2, hc, a, m, h1, h2, h3, rfl, rfl⟩ := well_ok (G := G) (k := k) hU ns i (by omega) S
      obtain ⟨d2, S3, hc2, rfl, hs⟩ := hR (S ++ [.lst [.int a, .int m, .int 0]]) S.length a m (by rw [List.getElem?_append_right (Nat.le_refl _), Nat.sub_self]; rfl) h1 h2 h3
      simp -implicitDefEqProofs only [evSs, evS, evE, evB, evEs, evT, evTs, evI, evO, bindk_ok, ofO_some, List.map_cons, List.map_nil, List.replicate, List.cons_append, List.nil_append, List.getElem?_cons_zero, List.getElem?_cons_succ, List.set_cons_zero, List.set_cons_succ, Option.map, hc, hc2]
      refine wp_ok.mpr ⟨rfl, ?_, fun i hi => ?_⟩
      · rw [hs.1, List.length_append]; omega
      · rw [hs.2 i (by omega), List.getElem?_append_left hi])
  have key : leave [] (comL (guardOf .non []) (fun d => asgC [1] true [1] d (wipeD [some (.fz (ns.map .int)), none] [1])) (evB (call T G (k + 1)) G .yes) (evE (call T G (k + 1)) G (.call (Str.ofString "_law_right") (.cons (.call (Str.ofString "_law_well") (.cons (.var 0) (.cons (.var 1) .nil))) .nil))) 0 (rng 0 j.toNat) [.lst []]) = .ok (.lv acc') [] := by
    rw [r1]
    unfold leave
    dsimp only
    have ok : OkC [] S' := ⟨Nat.zero_le _, fun i hi => absurd hi (Nat.not_lt_zero _)⟩
    rw [if_pos ok]
    have : rs S' (([] : Store).length) (.lo 0) = some (.lv acc') := by
      unfold rs
      rw [if_neg (by decide), r2]
      have := (bls_true acc' r3).2
      simp [clos_still this]
    rw [this]; rfl
  simp -implicitDefEqProofs only [evSs, evS, evE, evB, evEs, evT, evTs, evI, evO, bindk_ok, ofO_some, List.map_cons, List.map_nil, List.replicate, List.cons_append, List.nil_append, List.getElem?_cons_zero, List.getElem?_cons_succ, List.set_cons_zero, List.set_cons_succ, Option.map] at key
  simp -implicitDefEqProofs only [fLawW, evSs, evS, evE, evB, evEs, evT, evTs, evI, evO, bindk_ok, ofO_some, List.map_cons, List.map_nil, List.replicate, List.cons_append, List.nil_append, List.getElem?_cons_zero, List.getElem?_cons_succ, List.set_cons_zero, List.set_cons_succ, Option.map, bf_lenF, e1, e2, hj, and_self, if_true, List.length_nil, List.nil_append]
  rw [key]
  simp -implicitDefEqProofs only [evSs, evS, evE, evB, evEs, evT, evTs, evI, evO, bindk_ok, ofO_some, List.map_cons, List.map_nil, List.replicate, List.cons_append, List.nil_append, List.getElem?_cons_zero, List.getElem?_cons_succ, List.set_cons_zero, List.set_cons_succ, Option.map, all_rep _ acc' r3]
  show leave ([] : Store) (Res.ok (D.bl true) []) = Res.ok (D.bl true) []
  exact leave_nil rfl
end
end Py

set_option Elab.async false
set_option linter.all false
set_option maxRecDepth 100000
set_option maxHeartbeats 4000000
/-! Forms, changes, reduction. -/
namespace Fm
structure Fo where
  a : Int
  b : Int
  c : Int
structure Ch where
  p : Int
  q : Int
  r : Int
  s : Int
def vl (f : Fo) (x y : Int) : Int := f.a * x * x + f.b * x * y + f.c * y * y
def ld (f : Fo) (m : Ch) : Fo := ⟨vl f m.p m.r, 2 * f.a * m.p * m.q + f.b * (m.p * m.s + m.q * m.r) + 2 * f.c * m.r * m.s, vl f m.q m.s⟩
def af (m n : Ch) : Ch := ⟨m.p * n.p + m.q * n.r, m.p * n.q + m.q * n.s, m.r * n.p + m.s * n.r, m.r * n.q + m.s * n.s⟩
def dt (m : Ch) : Int := m.p * m.s - m.q * m.r
def dc (f : Fo) : Int := f.b * f.b - 4 * f.a * f.c
def bk (m : Ch) : Ch := ⟨m.s, -m.q, -m.r, m.p⟩
def on : Ch := ⟨1, 0, 0, 1⟩
theorem ld_af (f : Fo) (m n : Ch) : ld f (af m n) = ld (ld f m) n := by
  unfold ld af vl
  simp only [Fo.mk.injEq]
  refine ⟨by grind, by grind, by grind⟩
theorem dt_af (m n : Ch) : dt (af m n) = dt m * dt n := by unfold dt af; grind
theorem dc_ld (f : Fo) (m : Ch) : dc (ld f m) = dc f * (dt m * dt m) := by unfold dc ld dt vl; grind
theorem ld_on (f : Fo) : ld f on = f := by
  obtain ⟨a, b, c⟩ := f
  unfold ld on vl
  simp only [Fo.mk.injEq]
  refine ⟨by grind, by grind, by grind⟩
theorem af_bk (m : Ch) (h : dt m = 1) : af m (bk m) = on ∧ af (bk m) m = on := by
  obtain ⟨p, q, r, s⟩ := m
  unfold dt at h
  unfold af bk on
  simp only [Ch.mk.injEq]
  refine ⟨⟨by grind, by grind, by grind, by grind⟩, by grind, by grind, by grind, by grind⟩
theorem dt_bk (m : Ch) : dt (bk m) = dt m := by unfold dt bk; grind
theorem on_af (m : Ch) : af on m = m := by
  obtain ⟨p, q, r, s⟩ := m
  unfold af on
  simp only [Ch.mk.injEq]
  refine ⟨by grind, by grind, by grind, by grind⟩
/-- a change that leads f to what g leads to, and back along g -/
theorem between {f g h : Fo} {m n : Ch} (hn : dt n = 1) (e1 : ld f m = h) (e2 : ld g n = h) : ld f (af m (bk n)) = g := by
  rw [ld_af, e1, ← e2, ← ld_af, (af_bk n hn).1, ld_on]

def tu (f : Fo) : Int := (f.a - f.b) / (2 * f.a)
def fin (f : Fo) : Bool := decide (f.a < f.c) || (decide (f.a = f.c) && decide (0 ≤ f.b))
def redN : Nat → Fo → Ch → Fo × Ch
  | 0, f, m => (f, m)
  | n + 1, f, m => if fin (ld f ⟨1, tu f, 0, 1⟩) then (ld f ⟨1, tu f, 0, 1⟩, af m ⟨1, tu f, 0, 1⟩) else redN n (ld (ld f ⟨1, tu f, 0, 1⟩) ⟨0, -1, 1, 0⟩) (af (af m ⟨1, tu f, 0, 1⟩) ⟨0, -1, 1, 0⟩)
/-- how much is left to do -/
def mu (f : Fo) : Nat := 2 * f.a.toNat + (if f.a = f.c ∧ 0 ≤ f.b ∧ f.b ≤ f.a then 0 else 1)
/-- a form above nought -/
structure Po (f : Fo) : Prop where
  a : 1 ≤ f.a
  d : dc f ≤ -1
theorem Po.c {f : Fo} (h : Po f) : 1 ≤ f.c := by
  have h1 := h.a
  have h2 := h.d
  unfold dc at h2
  apply Classical.byContradiction
  intro hc
  have : 0 ≤ f.b * f.b := by rw [← Int.natAbs_mul_self]; exact Int.natCast_nonneg _
  have : 4 * f.a * f.c ≤ 0 := Int.mul_nonpos_of_nonneg_of_nonpos (by omega) (by omega)
  omega
theorem tr_eq (f : Fo) (t : Int) : ld f ⟨1, t, 0, 1⟩ = ⟨f.a, f.b + 2 * f.a * t, f.a * t * t + f.b * t + f.c⟩ := by
  unfold ld vl
  simp only [Fo.mk.injEq]
  refine ⟨by grind, by grind, by grind⟩
theorem sw_eq (f : Fo) : ld f ⟨0, -1, 1, 0⟩ = ⟨f.c, -f.b, f.a⟩ := by
  unfold ld vl
  simp only [Fo.mk.injEq]
  refine ⟨by grind, by grind, by grind⟩
theorem tr_range {f : Fo} (h : 1 ≤ f.a) : -f.a < f.b + 2 * f.a * tu f ∧ f.b + 2 * f.a * tu f ≤ f.a := by
  unfold tu
  have e := Int.mul_ediv_add_emod (f.a - f.b) (2 * f.a)
  have l := Int.emod_lt_of_pos (f.a - f.b) (show 0 < 2 * f.a by omega)
  have g := Int.emod_nonneg (f.a - f.b) (show 2 * f.a ≠ 0 by omega)
  omega
theorem Po.tr {f : Fo} (h : Po f) (t : Int) : Po (ld f ⟨1, t, 0, 1⟩) := by
  refine ⟨by rw [tr_eq]; exact h.a, ?_⟩
  rw [dc_ld, show dt ⟨1, t, 0, 1⟩ = 1 by unfold dt; grind, Int.mul_one, Int.mul_one]
  exact h.d
theorem Po.sw {f : Fo} (h : Po f) : Po (ld f ⟨0, -1, 1, 0⟩) := by
  refine ⟨by rw [sw_eq]; exact h.c, ?_⟩
  rw [dc_ld, show dt ⟨0, -1, 1, 0⟩ = 1 by unfold dt; grind, Int.mul_one, Int.mul_one]
  exact h.d
/-- a turn makes less -/
theorem mu_lt {f : Fo} (h : Po f) (hf : fin (ld f ⟨1, tu f, 0, 1⟩) = false) : mu (ld (ld f ⟨1, tu f, 0, 1⟩) ⟨0, -1, 1, 0⟩) < mu f := by
  have h1 := h.a
  obtain ⟨r1, r2⟩ := tr_range h1
  have hc := (h.tr (tu f)).c
  rw [sw_eq, tr_eq]
  rw [tr_eq] at hf hc
  unfold fin at hf
  rw [Bool.or_eq_false_iff, Bool.and_eq_false_iff] at hf
  obtain ⟨f1, f2⟩ := hf
  have f1 := of_decide_eq_false f1
  unfold mu
  simp only at f1 f2 hc ⊢
  by_cases he : f.a = f.a * tu f * tu f + f.b * tu f + f.c
  · have f3 : ¬ 0 ≤ f.b + 2 * f.a * tu f := by
      rcases f2 with q | q
      · exact absurd he (of_decide_eq_false q)
      · exact of_decide_eq_false q
    rw [← he, if_pos ⟨rfl, by omega, by omega⟩]
    have : ¬ (f.a = f.c ∧ 0 ≤ f.b ∧ f.b ≤ f.a) := by
      rintro ⟨q1, q2, q3⟩
      have t0 : tu f = 0 := by
        unfold tu
        exact Int.ediv_eq_zero_of_lt (by omega) (by omega)
      rw [t0, Int.mul_zero] at f3
      omega
    rw [if_neg this]
    omega
  · generalize f.a * tu f * tu f + f.b * tu f + f.c = c' at *
    split <;> split <;> omega
theorem mu_pos {f : Fo} (h : Po f) : 0 < mu f := by
  have := h.a
  unfold mu
  omega
/-- enough turns are enough -/
theorem redN_more : ∀ (n : Nat) {k : Nat} {f : Fo} {m : Ch}, Po f → mu f ≤ n → mu f ≤ k → redN n f m = redN k f m
  | 0, _, f, _, h, h1, _ => absurd h1 (by have := mu_pos h; omega)
  | n + 1, 0, f, _, h, _, h2 => absurd h2 (by have := mu_pos h; omega)
  | n + 1, k + 1, f, m, h, h1, h2 => by
    unfold redN
    cases hf : fin (ld f ⟨1, tu f, 0, 1⟩) with
    | true => rw [if_pos rfl, if_pos rfl]
    | false =>
      rw [if_neg (by decide), if_neg (by decide)]
      have := mu_lt h hf
      exact redN_more n (h.tr _).sw (by omega) (by omega)
/-- what the way leads to -/
structure Way (f : Fo) (g : Fo) (m : Ch) : Prop where
  e : ld f m = g
  d : dt m = 1
theorem Way.tr {f g : Fo} {m : Ch} (w : Way f g m) (n : Ch) (hn : dt n = 1) : Way f (ld g n) (af m n) := ⟨by rw [ld_af, w.e], by rw [dt_af, w.d, hn]; rfl⟩
structure Re (f : Fo) : Prop where
  l1 : -f.a < f.b
  l2 : f.b ≤ f.a
  l3 : f.a ≤ f.c
  l4 : f.a < f.c ∨ 0 ≤ f.b
theorem redN_way {f : Fo} : ∀ (n : Nat) {g : Fo} {m : Ch}, Po g → mu g ≤ n → Way f g m → Way f (redN n g m).1 (redN n g m).2 ∧ Re (redN n g m).1 ∧ Po (redN n g m).1
  | 0, g, _, h, h1, _ => absurd h1 (by have := mu_pos h; omega)
  | n + 1, g, m, h, h1, w => by
    unfold redN
    have d1 : ∀ t, dt ⟨1, t, 0, 1⟩ = 1 := fun t => by unfold dt; grind
    cases hf : fin (ld g ⟨1, tu g, 0, 1⟩) with
    | true =>
      rw [if_pos rfl]
      refine ⟨w.tr _ (d1 _), ?_, h.tr _⟩
      obtain ⟨r1, r2⟩ := tr_range h.a
      have e := tr_eq g (tu g)
      unfold fin at hf
      rw [e] at hf ⊢
      simp only [Bool.or_eq_true, Bool.and_eq_true, decide_eq_true_eq] at hf
      refine ⟨r1, r2, ?_, ?_⟩
      · show g.a ≤ g.a * tu g * tu g + g.b * tu g + g.c
        rcases hf with q | q
        · omega
        · omega
      · rcases hf with q | q
        · exact .inl q
        · exact .inr q.2
    | false =>
      rw [if_neg (by decide)]
      have := mu_lt h hf
      exact redN_way n (h.tr _).sw (by omega) ((w.tr _ (d1 _)).tr _ (by unfold dt; grind))
def red (f : Fo) : Fo := (redN (mu f) f on).1
def way (f : Fo) : Ch := (redN (mu f) f on).2
theorem red_ok {f : Fo} (h : Po f) : ld f (way f) = red f ∧ dt (way f) = 1 ∧ Re (red f) ∧ Po (red f) := by
  obtain ⟨w, r, p⟩ := redN_way (f := f) (mu f) h (Nat.le_refl _) ⟨ld_on f, by unfold dt on; grind⟩
  exact ⟨w.e, w.d, r, p⟩
/-- a reduced form stands -/
theorem red_re {f : Fo} (h : Po f) (r : Re f) : red f = f := by
  have ha := h.a
  have t0 : tu f = 0 := by
    unfold tu
    have := r.l1; have := r.l2
    exact Int.ediv_eq_zero_of_lt (by omega) (by omega)
  have e : ld f ⟨1, tu f, 0, 1⟩ = f := by rw [t0]; exact ld_on f
  unfold red
  obtain ⟨n, hn⟩ : ∃ n, mu f = n + 1 := ⟨mu f - 1, by have := mu_pos h; omega⟩
  rw [hn]
  unfold redN
  rw [e]
  have : fin f = true := by
    unfold fin
    have := r.l3
    rcases r.l4 with q | q
    · rw [decide_eq_true q]; rfl
    · by_cases l : f.a < f.c
      · rw [decide_eq_true l]; rfl
      · rw [decide_eq_true (by omega : f.a = f.c), decide_eq_true q, Bool.and_self, Bool.or_true]
  rw [if_pos this]
/-- how great the numbers of a change are -/
theorem ch_bound {f g : Fo} {m : Ch} (hf : Po f) (w : Way f g m) : m.p * m.p ≤ 4 * f.c * g.a ∧ m.r * m.r ≤ 4 * f.a * g.a ∧ m.q * m.q ≤ 4 * f.c * g.c ∧ m.s * m.s ≤ 4 * f.a * g.c := by
  have hd := hf.d
  have key : ∀ x y : Int, x * x ≤ 4 * f.c * vl f x y ∧ y * y ≤ 4 * f.a * vl f x y := fun x y => by
    have s0 : ∀ z : Int, 0 ≤ z * z := fun z => by rw [← Int.natAbs_mul_self]; exact Int.natCast_nonneg _
    have e1 : 4 * f.c * vl f x y = (2 * f.c * y + f.b * x) * (2 * f.c * y + f.b * x) + (-dc f) * (x * x) := by unfold vl dc; grind
    have e2 : 4 * f.a * vl f x y = (2 * f.a * x + f.b * y) * (2 * f.a * x + f.b * y) + (-dc f) * (y * y) := by unfold vl dc; grind
    have q1 : 1 * (x * x) ≤ (-dc f) * (x * x) := Int.mul_le_mul_of_nonneg_right (by omega) (s0 x)
    have q2 : 1 * (y * y) ≤ (-dc f) * (y * y) := Int.mul_le_mul_of_nonneg_right (by omega) (s0 y)
    have := s0 (2 * f.c * y + f.b * x)
    have := s0 (2 * f.a * x + f.b * y)
    omega
  have ea : vl f m.p m.r = g.a := by rw [← w.e]; rfl
  have ec : vl f m.q m.s = g.c := by rw [← w.e]; rfl
  obtain ⟨k1, k2⟩ := key m.p m.r
  obtain ⟨k3, k4⟩ := key m.q m.s
  rw [ea] at k1 k2
  rw [ec] at k3 k4
  exact ⟨k1, k2, k3, k4⟩
/-- numbers along the way -/
theorem tr_bound {f : Fo} (h : Po f) (hD : -400 ≤ dc f) : (ld f ⟨1, tu f, 0, 1⟩).c ≤ f.a + 100 := by
  obtain ⟨r1, r2⟩ := tr_range h.a
  have h1 := h.a
  have e : dc (ld f ⟨1, tu f, 0, 1⟩) = dc f := by rw [dc_ld, show dt ⟨1, tu f, 0, 1⟩ = 1 by unfold dt; grind, Int.mul_one, Int.mul_one]
  rw [tr_eq] at e ⊢
  generalize f.b + 2 * f.a * tu f = b at *
  generalize f.a * tu f * tu f + f.b * tu f + f.c = c at *
  unfold dc at e hD
  simp only at e ⊢
  have b2 : b * b ≤ f.a * f.a := by
    have : b.natAbs ≤ f.a.natAbs := by omega
    have q := Nat.mul_le_mul this this
    rw [← Int.natAbs_mul, ← Int.natAbs_mul] at q
    have p1 : 0 ≤ b * b := by rw [← Int.natAbs_mul_self]; exact Int.natCast_nonneg _
    have p2 : 0 ≤ f.a * f.a := Int.mul_nonneg (by omega) (by omega)
    omega
  apply Classical.byContradiction
  intro hc
  have q1 : f.a * (f.a + 101) ≤ f.a * c := Int.mul_le_mul_of_nonneg_left (by omega) (by omega)
  have q2 : f.a * (f.a + 101) = f.a * f.a + 101 * f.a := by grind
  have q3 : 4 * f.a * c = 4 * (f.a * c) := Int.mul_assoc _ _ _
  have p2 : 0 ≤ f.a * f.a := Int.mul_nonneg (by omega) (by omega)
  omega
end Fm

set_option Elab.async false
set_option linter.all false
set_option maxRecDepth 100000
set_option maxHeartbeats 4000000
/-! Great numbers; forms and changes as values. -/
namespace Py
open PySem PySem.Spec PyProof.Rows L2 Fm
def big (k : Nat) (i : Int) : Prop := i.natAbs < 2 ^ k
theorem big_mono {j k : Nat} {i : Int} (h : big j i) (l : j ≤ k) : big k i := Nat.lt_of_lt_of_le h (Nat.pow_le_pow_right (by decide) l)
theorem big_mul {j k : Nat} {a b : Int} (h : big j a) (g : big k b) : big (j + k) (a * b) := by
  unfold big at *
  rw [Int.natAbs_mul, Nat.pow_add]
  exact Nat.mul_lt_mul'' h g
theorem big_add {j : Nat} {a b : Int} (h : big j a) (g : big j b) : big (j + 1) (a + b) := by
  unfold big at *
  rw [Nat.pow_succ]
  omega
theorem big_neg {j : Nat} {a : Int} (h : big j a) : big j (-a) := by
  unfold big at *
  rw [Int.natAbs_neg]; exact h
theorem big_sub {j : Nat} {a b : Int} (h : big j a) (g : big j b) : big (j + 1) (a - b) := by
  rw [Int.sub_eq_add_neg]; exact big_add h (big_neg g)
theorem big_le {j : Nat} {a b : Int} (h : big j b) (l : a.natAbs ≤ b.natAbs) : big j a := Nat.lt_of_le_of_lt l h
theorem mulOk_big {j k : Nat} {a b : Int} (ha : big j a) (hb : big k b) (h : j + k < 900000) : mulOk a b = true := by
  unfold mulOk
  have lt : ∀ (n m : Nat), n < 2 ^ m → n.log2 ≤ m := fun n m h => by
    by_cases z : n = 0
    · subst z; exact Nat.zero_le _
    · exact Nat.le_of_lt ((Nat.log2_lt z).mpr h)
  have := lt _ _ ha
  have := lt _ _ hb
  exact decide_eq_true (by omega)
/-- a square tells of its root -/
theorem big_root {j : Nat} {a : Int} (h : big (2 * j) (a * a)) : big j a := by
  unfold big at *
  apply Classical.byContradiction
  intro c
  rw [Int.natAbs_mul, Nat.two_mul, Nat.pow_add] at h
  have : 2 ^ j * 2 ^ j ≤ a.natAbs * a.natAbs := Nat.mul_le_mul (by omega) (by omega)
  omega
theorem big_two : big 2 2 := by unfold big; decide
theorem big_four : big 3 4 := by unfold big; decide
theorem big_one : big 1 1 := by unfold big; decide
theorem big_zero : big 1 0 := by unfold big; decide
theorem big_m1 : big 1 (-1) := by unfold big; decide
def tF (f : Fo) : D := .tup [.int f.a, .int f.b, .int f.c]
def tM (m : Ch) : D := .tup [.int m.p, .int m.q, .int m.r, .int m.s]
structure BF' (k : Nat) (f : Fo) : Prop where
  a : big k f.a
  b : big k f.b
  c : big k f.c
structure BC (k : Nat) (m : Ch) : Prop where
  p : big k m.p
  q : big k m.q
  r : big k m.r
  s : big k m.s
theorem BF'.mono {j k : Nat} {f : Fo} (h : BF' j f) (l : j ≤ k) : BF' k f := ⟨big_mono h.a l, big_mono h.b l, big_mono h.c l⟩
theorem BC.mono {j k : Nat} {f : Ch} (h : BC j f) (l : j ≤ k) : BC k f := ⟨big_mono h.p l, big_mono h.q l, big_mono h.r l, big_mono h.s l⟩
theorem big_vl {j k : Nat} {f : Fo} {x y : Int} (h : BF' j f) (hx : big k x) (hy : big k y) : big (j + k + k + 2) (vl f x y) := by
  unfold vl
  exact big_add (big_add (big_mul (big_mul h.a hx) hx) (big_mul (big_mul h.b hx) hy)) (big_mono (big_mul (big_mul h.c hy) hy) (by omega))
theorem BF'.ld {j k : Nat} {f : Fo} {m : Ch} (h : BF' j f) (g : BC k m) : BF' (j + k + k + 4) (ld f m) := by
  refine ⟨big_mono (big_vl h g.p g.r) (by omega), ?_, big_mono (big_vl h g.q g.s) (by omega)⟩
  have e1 : big (j + k + k + 2) (2 * f.a * m.p * m.q) := big_mono (big_mul (big_mul (big_mul big_two h.a) g.p) g.q) (by omega)
  have e2 : big (j + k + k + 2) (f.b * (m.p * m.s + m.q * m.r)) := big_mono (big_mul h.b (big_add (big_mul g.p g.s) (big_mul g.q g.r))) (by omega)
  have e3 : big (j + k + k + 3) (2 * f.c * m.r * m.s) := big_mono (big_mul (big_mul (big_mul big_two h.c) g.r) g.s) (by omega)
  exact big_mono (big_add (big_add e1 e2) e3) (by omega)
theorem BC.af {j k : Nat} {m n : Ch} (h : BC j m) (g : BC k n) : BC (j + k + 1) (af m n) :=
  ⟨big_add (big_mul h.p g.p) (big_mul h.q g.r), big_add (big_mul h.p g.q) (big_mul h.q g.s), big_add (big_mul h.r g.p) (big_mul h.s g.r), big_add (big_mul h.r g.q) (big_mul h.s g.s)⟩
theorem BC.bk {j : Nat} {m : Ch} (h : BC j m) : BC j (bk m) := ⟨h.s, big_neg h.q, big_neg h.r, h.p⟩
theorem BC.one : BC 1 on := ⟨big_one, big_zero, big_zero, big_one⟩
/-- the middle number by the others -/
theorem Po.bigb {k : Nat} {f : Fo} (h : Po f) (ha : big k f.a) (hc : big k f.c) : big (k + 1) f.b := by
  have hd := h.d
  unfold dc at hd
  apply big_root
  have : big (3 + k + k) (4 * f.a * f.c) := big_mul (big_mul big_four ha) hc
  unfold big at this ha hc ⊢
  have h1 := h.a
  have h2 := h.c
  have e : (4 * f.a * f.c).natAbs = 4 * (f.a.natAbs * f.c.natAbs) := by rw [Int.natAbs_mul, Int.natAbs_mul, Nat.mul_assoc]; rfl
  have lt : f.a.natAbs * f.c.natAbs < 2 ^ k * 2 ^ k := Nat.mul_lt_mul'' ha hc
  have e2 : 2 ^ (2 * (k + 1)) = 4 * (2 ^ k * 2 ^ k) := by
    rw [show 2 * (k + 1) = k + k + 2 by omega, Nat.pow_add, Nat.pow_add]; omega
  have p0 : 0 ≤ f.b * f.b := by rw [← Int.natAbs_mul_self]; exact Int.natCast_nonneg _
  have p1 : 0 ≤ 4 * f.a * f.c := Int.mul_nonneg (by omega) (by omega)
  omega
theorem at3 {α : Type} (x y z w : α) (r : List α) : atI (x :: y :: z :: w :: r) 3 = some w := atI_of (by decide) rfl
theorem at0F (f : Fo) : atI [D.int f.a, .int f.b, .int f.c] 0 = some (.int f.a) := at0 _ _
end Py

set_option Elab.async false
set_option linter.all false
set_option maxRecDepth 100000
set_option maxHeartbeats 4000000
namespace K06
open PySem PySem.Spec PyProof.Rows L2 Py Fm
variable {k : Nat}
theorem lval (f : Fo) (x y : Int) (hf : BF' 3000 f) (hx : big 6000 x) (hy : big 6000 y) (S : Store) : call T G (k + 1) (Str.ofString "_law_value") [tF f, .int x, .int y] S = .ok (.int (vl f x y)) S := by
  rw [call_eq T__law_value rfl]
  have m1 : mulOk f.a x = true := mulOk_big hf.a hx (by decide)
  have m2 : mulOk (f.a * x) x = true := mulOk_big (big_mul hf.a hx) hx (by decide)
  have m3 : mulOk f.b x = true := mulOk_big hf.b hx (by decide)
  have m4 : mulOk (f.b * x) y = true := mulOk_big (big_mul hf.b hx) hy (by decide)
  have m5 : mulOk f.c y = true := mulOk_big hf.c hy (by decide)
  have m6 : mulOk (f.c * y) y = true := mulOk_big (big_mul hf.c hy) hy (by decide)
  simp -implicitDefEqProofs only [f__law_value, tF, evSs, evS, evE, evB, evEs, evT, evTs, evI, evO, bindk_ok, ofO_some, List.map_cons, List.map_nil, List.replicate, List.cons_append, List.nil_append, List.getElem?_cons_zero, List.getElem?_cons_succ, List.set_cons_zero, List.set_cons_succ, Option.map, itm_tup, at0, at1, at2, bop_mul m1, bop_mul m2, bop_mul m3, bop_mul m4, bop_mul m5, bop_mul m6, bop_add]
  show leave S (Res.ok (D.int (vl f x y)) S) = _
  exact leave_same rfl
theorem led (f : Fo) (m : Ch) (hf : BF' 3000 f) (hm : BC 6000 m) (S : Store) : call T G (k + 2) (Str.ofString "_law_led") [tF f, tM m] S = .ok (tF (ld f m)) S := by
  rw [call_eq T__law_led rfl]
  have m1 : mulOk 2 f.a = true := mulOk_big big_two hf.a (by decide)
  have m2 : mulOk (2 * f.a) m.p = true := mulOk_big (big_mul big_two hf.a) hm.p (by decide)
  have m3 : mulOk (2 * f.a * m.p) m.q = true := mulOk_big (big_mul (big_mul big_two hf.a) hm.p) hm.q (by decide)
  have m4 : mulOk m.p m.s = true := mulOk_big hm.p hm.s (by decide)
  have m5 : mulOk m.q m.r = true := mulOk_big hm.q hm.r (by decide)
  have m6 : mulOk f.b (m.p * m.s + m.q * m.r) = true := mulOk_big hf.b (big_add (big_mul hm.p hm.s) (big_mul hm.q hm.r)) (by decide)
  have m7 : mulOk 2 f.c = true := mulOk_big big_two hf.c (by decide)
  have m8 : mulOk (2 * f.c) m.r = true := mulOk_big (big_mul big_two hf.c) hm.r (by decide)
  have m9 : mulOk (2 * f.c * m.r) m.s = true := mulOk_big (big_mul (big_mul big_two hf.c) hm.r) hm.s (by decide)
  have lv : (4 = (ITs.cons (IT.name 2) (ITs.cons (IT.name 3) (ITs.cons (IT.name 4) (ITs.cons (IT.name 5) ITs.nil)))).len) = True := eq_true rfl
  have hs3 : (3 : Nat) ≤ sizeLine := by decide
  have v1 := lval (k := k) f m.p m.r hf hm.p hm.r S
  have v2 := lval (k := k) f m.q m.s hf hm.q hm.s S
  unfold tF at v1 v2
  simp -implicitDefEqProofs only [f__law_led, tF, tM, evSs, evS, evE, evB, evEs, evT, evTs, evI, evO, bindk_ok, ofO_some, List.map_cons, List.map_nil, List.replicate, List.cons_append, List.nil_append, List.getElem?_cons_zero, List.getElem?_cons_succ, List.set_cons_zero, List.set_cons_succ, Option.map, List.length_cons, List.length_nil, Nat.zero_add, Nat.reduceAdd, lv, if_true, itm_tup, at0, at1, at2, bop_mul m1, bop_mul m2, bop_mul m3, bop_mul m4, bop_mul m5, bop_mul m6, bop_mul m7, bop_mul m8, bop_mul m9, bop_add, v1, v2, hs3]
  show leave S (Res.ok (tF (ld f m)) S) = _
  exact leave_same rfl
theorem pval (f : Fo) (x y : Int) (hf : BF' 3000 f) (hx : big 6000 x) (hy : big 6000 y) (S : Store) : call T G (k + 1) (Str.ofString "value_by") [tF f, .int x, .int y] S = .ok (.int (vl f x y)) S := by
  rw [call_eq T_value_by rfl]
  have m1 : mulOk f.a x = true := mulOk_big hf.a hx (by decide)
  have m2 : mulOk (f.a * x) x = true := mulOk_big (big_mul hf.a hx) hx (by decide)
  have m3 : mulOk f.b x = true := mulOk_big hf.b hx (by decide)
  have m4 : mulOk (f.b * x) y = true := mulOk_big (big_mul hf.b hx) hy (by decide)
  have m5 : mulOk f.c y = true := mulOk_big hf.c hy (by decide)
  have m6 : mulOk (f.c * y) y = true := mulOk_big (big_mul hf.c hy) hy (by decide)
  simp -implicitDefEqProofs only [f_value_by, tF, evSs, evS, evE, evB, evEs, evT, evTs, evI, evO, bindk_ok, ofO_some, List.map_cons, List.map_nil, List.replicate, List.cons_append, List.nil_append, List.getElem?_cons_zero, List.getElem?_cons_succ, List.set_cons_zero, List.set_cons_succ, Option.map, itm_tup, at0, at1, at2, bop_mul m1, bop_mul m2, bop_mul m3, bop_mul m4, bop_mul m5, bop_mul m6, bop_add]
  show leave S (Res.ok (D.int (vl f x y)) S) = _
  exact leave_same rfl
theorem pled (f : Fo) (m : Ch) (hf : BF' 3000 f) (hm : BC 6000 m) (S : Store) : call T G (k + 2) (Str.ofString "changed_by") [tF f, tM m] S = .ok (tF (ld f m)) S := by
  rw [call_eq T_changed_by rfl]
  have m1 : mulOk 2 f.a = true := mulOk_big big_two hf.a (by decide)
  have m2 : mulOk (2 * f.a) m.p = true := mulOk_big (big_mul big_two hf.a) hm.p (by decide)
  have m3 : mulOk (2 * f.a * m.p) m.q = true := mulOk_big (big_mul (big_mul big_two hf.a) hm.p) hm.q (by decide)
  have m4 : mulOk m.p m.s = true := mulOk_big hm.p hm.s (by decide)
  have m5 : mulOk m.q m.r = true := mulOk_big hm.q hm.r (by decide)
  have m6 : mulOk f.b (m.p * m.s + m.q * m.r) = true := mulOk_big hf.b (big_add (big_mul hm.p hm.s) (big_mul hm.q hm.r)) (by decide)
  have m7 : mulOk 2 f.c = true := mulOk_big big_two hf.c (by decide)
  have m8 : mulOk (2 * f.c) m.r = true := mulOk_big (big_mul big_two hf.c) hm.r (by decide)
  have m9 : mulOk (2 * f.c * m.r) m.s = true := mulOk_big (big_mul (big_mul big_two hf.c) hm.r) hm.s (by decide)
  have lv : (4 = (ITs.cons (IT.name 2) (ITs.cons (IT.name 3) (ITs.cons (IT.name 4) (ITs.cons (IT.name 5) ITs.nil)))).len) = True := eq_true rfl
  have hs3 : (3 : Nat) ≤ sizeLine := by decide
  have v1 := pval (k := k) f m.p m.r hf hm.p hm.r S
  have v2 := pval (k := k) f m.q m.s hf hm.q hm.s S
  unfold tF at v1 v2
  simp -implicitDefEqProofs only [f_changed_by, tF, tM, evSs, evS, evE, evB, evEs, evT, evTs, evI, evO, bindk_ok, ofO_some, List.map_cons, List.map_nil, List.replicate, List.cons_append, List.nil_append, List.getElem?_cons_zero, List.getElem?_cons_succ, List.set_cons_zero, List.set_cons_succ, Option.map, List.length_cons, List.length_nil, Nat.zero_add, Nat.reduceAdd, lv, if_true, itm_tup, at0, at1, at2, bop_mul m1, bop_mul m2, bop_mul m3, bop_mul m4, bop_mul m5, bop_mul m6, bop_mul m7, bop_mul m8, bop_mul m9, bop_add, v1, v2, hs3]
  show leave S (Res.ok (tF (ld f m)) S) = _
  exact leave_same rfl
theorem lboth (m n : Ch) (hm : BC 6000 m) (hn : BC 6000 n) (S : Store) : call T G (k + 1) (Str.ofString "_law_both") [tM m, tM n] S = .ok (tM (af m n)) S := by
  rw [call_eq T__law_both rfl]
  have q1 : mulOk m.p n.p = true := mulOk_big hm.p hn.p (by decide)
  have q2 : mulOk m.q n.r = true := mulOk_big hm.q hn.r (by decide)
  have q3 : mulOk m.p n.q = true := mulOk_big hm.p hn.q (by decide)
  have q4 : mulOk m.q n.s = true := mulOk_big hm.q hn.s (by decide)
  have q5 : mulOk m.r n.p = true := mulOk_big hm.r hn.p (by decide)
  have q6 : mulOk m.s n.r = true := mulOk_big hm.s hn.r (by decide)
  have q7 : mulOk m.r n.q = true := mulOk_big hm.r hn.q (by decide)
  have q8 : mulOk m.s n.s = true := mulOk_big hm.s hn.s (by decide)
  have lv : (4 = (ITs.cons (IT.name 2) (ITs.cons (IT.name 3) (ITs.cons (IT.name 4) (ITs.cons (IT.name 5) ITs.nil)))).len) = True := eq_true rfl
  have hs4 : (4 : Nat) ≤ sizeLine := by decide
  simp -implicitDefEqProofs only [f__law_both, tM, evSs, evS, evE, evB, evEs, evT, evTs, evI, evO, bindk_ok, ofO_some, List.map_cons, List.map_nil, List.replicate, List.cons_append, List.nil_append, List.getElem?_cons_zero, List.getElem?_cons_succ, List.set_cons_zero, List.set_cons_succ, Option.map, List.length_cons, List.length_nil, Nat.zero_add, Nat.reduceAdd, lv, if_true, itm_tup, at0, at1, at2, at3, bop_mul q1, bop_mul q2, bop_mul q3, bop_mul q4, bop_mul q5, bop_mul q6, bop_mul q7, bop_mul q8, bop_add, hs4]
  show leave S (Res.ok (tM (af m n)) S) = _
  exact leave_same rfl
theorem paft (m n : Ch) (hm : BC 6000 m) (hn : BC 6000 n) (S : Store) : call T G (k + 1) (Str.ofString "after") [tM m, tM n] S = .ok (tM (af m n)) S := by
  rw [call_eq T_after rfl]
  have q1 : mulOk m.p n.p = true := mulOk_big hm.p hn.p (by decide)
  have q2 : mulOk m.q n.r = true := mulOk_big hm.q hn.r (by decide)
  have q3 : mulOk m.p n.q = true := mulOk_big hm.p hn.q (by decide)
  have q4 : mulOk m.q n.s = true := mulOk_big hm.q hn.s (by decide)
  have q5 : mulOk m.r n.p = true := mulOk_big hm.r hn.p (by decide)
  have q6 : mulOk m.s n.r = true := mulOk_big hm.s hn.r (by decide)
  have q7 : mulOk m.r n.q = true := mulOk_big hm.r hn.q (by decide)
  have q8 : mulOk m.s n.s = true := mulOk_big hm.s hn.s (by decide)
  have lv : (4 = (ITs.cons (IT.name 2) (ITs.cons (IT.name 3) (ITs.cons (IT.name 4) (ITs.cons (IT.name 5) ITs.nil)))).len) = True := eq_true rfl
  have hs4 : (4 : Nat) ≤ sizeLine := by decide
  simp -implicitDefEqProofs only [f_after, tM, evSs, evS, evE, evB, evEs, evT, evTs, evI, evO, bindk_ok, ofO_some, List.map_cons, List.map_nil, List.replicate, List.cons_append, List.nil_append, List.getElem?_cons_zero, List.getElem?_cons_succ, List.set_cons_zero, List.set_cons_succ, Option.map, List.length_cons, List.length_nil, Nat.zero_add, Nat.reduceAdd, lv, if_true, itm_tup, at0, at1, at2, at3, bop_mul q1, bop_mul q2, bop_mul q3, bop_mul q4, bop_mul q5, bop_mul q6, bop_mul q7, bop_mul q8, bop_add, hs4]
  show leave S (Res.ok (tM (af m n)) S) = _
  exact leave_same rfl
/-- along the way -/
structure Inv (f g : Fo) (m : Ch) : Prop where
  po : Po g
  dd : dc g = dc f
  w : Way f g m
  ba : big 1001 g.a
  bc : big 1001 g.c
  le : g.a ≤ 2 ^ 1000
  lc : g.c ≤ 2 ^ 1000 + 100
theorem p1000 : (2 : Int) ^ 1000 + 100 < 2 ^ 1001 := by decide +kernel
theorem big_of {i : Int} (h0 : 0 ≤ i) (h : i ≤ 2 ^ 1000 + 100) : big 1001 i := by
  unfold big
  have := p1000
  have e : ((2 ^ 1001 : Nat) : Int) = (2 : Int) ^ 1001 := by rw [Int.natCast_pow]; rfl
  omega
theorem Inv.bm {f g : Fo} {m : Ch} (I : Inv f g m) (hf : Po f) (bf : BF' 1000 f) : BC 1004 m := by
  obtain ⟨h1, h2, h3, h4⟩ := ch_bound hf I.w
  have s0 : ∀ z : Int, 0 ≤ z * z := fun z => by rw [← Int.natAbs_mul_self]; exact Int.natCast_nonneg _
  have key : ∀ (x y z : Int), big 1000 y → big 1001 z → x * x ≤ 4 * y * z → big 1004 x := fun x y z hy hz h => by
    apply big_root
    refine big_mono (big_le (big_mul (big_mul big_four hy) hz) ?_) (by decide)
    have := s0 x
    omega
  exact ⟨key _ _ _ bf.c I.ba h1, key _ _ _ bf.c I.bc h3, key _ _ _ bf.a I.ba h2, key _ _ _ bf.a I.bc h4⟩
theorem Inv.bg {f g : Fo} {m : Ch} (I : Inv f g m) : BF' 1002 g := ⟨big_mono I.ba (by decide), Py.Po.bigb I.po I.ba I.bc, big_mono I.bc (by decide)⟩
theorem d1 (t : Int) : dt ⟨1, t, 0, 1⟩ = 1 := by unfold dt; grind
theorem d2 : dt ⟨0, -1, 1, 0⟩ = 1 := by unfold dt; grind
theorem Inv.tr {f g : Fo} {m : Ch} (I : Inv f g m) (hD : -400 ≤ dc f) : Inv f (ld g ⟨1, tu g, 0, 1⟩) (af m ⟨1, tu g, 0, 1⟩) := by
  have po := I.po.tr (tu g)
  have lc := tr_bound I.po (by rw [I.dd]; exact hD)
  have ea : (ld g ⟨1, tu g, 0, 1⟩).a = g.a := by rw [tr_eq]
  have le := I.le
  have c1 := po.c
  refine ⟨po, by rw [dc_ld, d1, I.dd]; omega, I.w.tr _ (d1 _), by rw [ea]; exact I.ba, big_of (by omega) (by omega), by rw [ea]; exact le, by omega⟩
theorem Inv.sw {f g : Fo} {m : Ch} (I : Inv f g m) (h : g.c ≤ g.a) : Inv f (ld g ⟨0, -1, 1, 0⟩) (af m ⟨0, -1, 1, 0⟩) := by
  have le := I.le
  refine ⟨I.po.sw, by rw [dc_ld, d2, I.dd]; omega, I.w.tr _ d2, by rw [sw_eq]; exact I.bc, by rw [sw_eq]; exact I.ba, by rw [sw_eq]; exact Int.le_trans h le, by rw [sw_eq]; show g.a ≤ _; omega⟩
theorem Inv.tu {f g : Fo} {m : Ch} (I : Inv f g m) : big 1003 (tu g) := by
  refine big_le (big_sub I.bg.a I.bg.b) ?_
  unfold Fm.tu
  exact Int.natAbs_ediv_le_natAbs _ _
theorem Inv.first {f : Fo} (h : Po f) (b : BF' 1000 f) : Inv f f on := by
  have le : ∀ i : Int, big 1000 i → i ≤ 2 ^ 1000 := fun i hi => by
    unfold big at hi
    have e : ((2 ^ 1000 : Nat) : Int) = (2 : Int) ^ 1000 := by rw [Int.natCast_pow]; rfl
    omega
  exact ⟨h, rfl, ⟨ld_on f, by unfold dt on; grind⟩, big_mono b.a (by decide), big_mono b.c (by decide), le _ b.a, by have := le _ b.c; omega⟩
theorem fin_no {g : Fo} (h : fin g = false) : g.c ≤ g.a := by
  unfold fin at h
  rw [Bool.or_eq_false_iff] at h
  have := of_decide_eq_false h.1
  omega
theorem btr {t : Int} (h : big 1003 t) : BC 6000 ⟨1, t, 0, 1⟩ := ⟨big_mono big_one (by decide), big_mono h (by decide), big_mono big_zero (by decide), big_mono big_one (by decide)⟩
theorem bsw : BC 6000 ⟨0, -1, 1, 0⟩ := ⟨big_mono big_zero (by decide), big_mono big_m1 (by decide), big_mono big_one (by decide), big_mono big_zero (by decide)⟩
theorem G_same : cons.lookup (Str.ofString "SAME") = some (.tup [.int 1, .int 0, .int 0, .int 1]) := by rfl
theorem reduction (f : Fo) (hp : Po f) (hD : -400 ≤ dc f) (hb : BF' 1000 f) (S : Store) : call T G (k + 3) (Str.ofString "reduction") [tF f] S = .ok (.tup [tF (red f), tM (Fm.way f)]) S := by
  rw [call_eq T_reduction rfl]
  have main : WP (evSs (call T G (k + 2)) G f_reduction.body ([tF f].map some ++ List.replicate (f_reduction.ns - f_reduction.np) none) S) fun f' S' => f' = .rt (.tup [tF (red f), tM (Fm.way f)]) ∧ S' = S := by
    have hs4 : (4 : Nat) ≤ sizeLine := by decide
    have hs2 : (2 : Nat) ≤ sizeLine := by decide
    simp -implicitDefEqProofs only [f_reduction, evSs, evS, evE, evB, evEs, evT, evTs, evI, evO, bindk_ok, ofO_some, List.map_cons, List.map_nil, List.replicate, List.cons_append, List.nil_append, List.getElem?_cons_zero, List.getElem?_cons_succ, List.set_cons_zero, List.set_cons_succ, Option.map, G_same, List.length_cons, List.length_nil, Nat.zero_add, Nat.reduceAdd, hs4, if_true]
    rw [wp_bind]
    refine wp_whl (fun j η S2 => S2 = S ∧ ∃ (g : Fo) (m : Ch) (x : Option D), j = mu g ∧ Inv f g m ∧ redN (mu f) f on = redN (mu g) g m ∧ η = [some (tF g), some (tM m), x]) ?_ (n := mu f) ⟨rfl, f, on, none, rfl, Inv.first hp hb, rfl, rfl⟩
    rintro j η S2 ⟨rfl, g, m, x, rfl, I, e, rfl⟩
    have bg := I.bg
    have bm := I.bm hp hb
    have bt := I.tu
    have I1 := I.tr hD
    have bg1 := I1.bg
    have bm1 := I1.bm hp hb
    have ga := I.po.a
    have k1 : mulOk 2 g.a = true := mulOk_big big_two bg.a (by decide)
    have k2 : divOk (2 * g.a) = true := divOk_of (by omega) (Nat.lt_of_lt_of_le (big_mul big_two bg.a) (Nat.pow_le_pow_right (by decide) (by decide)))
    have et : (g.a - g.b) / (2 * g.a) = tu g := rfl
    have c1 : call T G (k + 2) (Str.ofString "after") [D.tup [.int m.p, .int m.q, .int m.r, .int m.s], D.tup [.int 1, .int (tu g), .int 0, .int 1]] S2 = .ok (D.tup [.int (af m ⟨1, tu g, 0, 1⟩).p, .int (af m ⟨1, tu g, 0, 1⟩).q, .int (af m ⟨1, tu g, 0, 1⟩).r, .int (af m ⟨1, tu g, 0, 1⟩).s]) S2 := paft (k := k + 1) m ⟨1, tu g, 0, 1⟩ (bm.mono (by decide)) (btr bt) S2
    have c2 : call T G (k + 2) (Str.ofString "changed_by") [D.tup [.int g.a, .int g.b, .int g.c], D.tup [.int 1, .int (tu g), .int 0, .int 1]] S2 = .ok (D.tup [.int (ld g ⟨1, tu g, 0, 1⟩).a, .int (ld g ⟨1, tu g, 0, 1⟩).b, .int (ld g ⟨1, tu g, 0, 1⟩).c]) S2 := pled (k := k) g ⟨1, tu g, 0, 1⟩ (bg.mono (by decide)) (btr bt) S2
    have more : ∀ n, mu g = n + 1 → redN (mu g) g m = if fin (ld g ⟨1, tu g, 0, 1⟩) then (ld g ⟨1, tu g, 0, 1⟩, af m ⟨1, tu g, 0, 1⟩) else redN n (ld (ld g ⟨1, tu g, 0, 1⟩) ⟨0, -1, 1, 0⟩) (af (af m ⟨1, tu g, 0, 1⟩) ⟨0, -1, 1, 0⟩) := fun n hn => by rw [hn]; rfl
    obtain ⟨n, hn⟩ : ∃ n, mu g = n + 1 := ⟨mu g - 1, by have := mu_pos I.po; omega⟩
    have more := more n hn
    cases hf : fin (ld g ⟨1, tu g, 0, 1⟩) with
    | true =>
      rw [hf, if_pos rfl] at more
      rw [more] at e
      have e1 : red f = ld g ⟨1, tu g, 0, 1⟩ := by unfold red; rw [e]
      have e2 : Fm.way f = af m ⟨1, tu g, 0, 1⟩ := by unfold Fm.way; rw [e]
      try rw [e1]
      rw [e2]
      generalize hg1 : ld g ⟨1, tu g, 0, 1⟩ = g1 at *
      generalize hm1 : af m ⟨1, tu g, 0, 1⟩ = m1 at *
      unfold fin at hf
      by_cases z1 : g1.a < g1.c
      · have z1' := decide_eq_true z1
        simp -implicitDefEqProofs only [wp_ok, evSs, evS, evE, evB, evEs, evT, evTs, evI, evO, bindk_ok, ofO_some, List.map_cons, List.map_nil, List.replicate, List.cons_append, List.nil_append, List.getElem?_cons_zero, List.getElem?_cons_succ, List.set_cons_zero, List.set_cons_succ, Option.map, tF, tM, tr_bl, if_true, itm_tup, at0, at1, at2, bop_sub, bop_mul k1, bop_fdiv k2, et, List.length_cons, List.length_nil, Nat.zero_add, Nat.reduceAdd, hs4, hs2, c1, c2, cop_lt, z1']
        unfold FQ
        exact wp_ok.mpr ⟨rfl, rfl⟩
      · have z1' := decide_eq_false z1
        rw [z1', Bool.false_or, Bool.and_eq_true] at hf
        simp -implicitDefEqProofs only [wp_ok, evSs, evS, evE, evB, evEs, evT, evTs, evI, evO, bindk_ok, ofO_some, List.map_cons, List.map_nil, List.replicate, List.cons_append, List.nil_append, List.getElem?_cons_zero, List.getElem?_cons_succ, List.set_cons_zero, List.set_cons_succ, Option.map, tF, tM, tr_bl, if_true, itm_tup, at0, at1, at2, bop_sub, bop_mul k1, bop_fdiv k2, et, List.length_cons, List.length_nil, Nat.zero_add, Nat.reduceAdd, hs4, hs2, c1, c2, cop_lt, z1', Bool.false_eq_true, if_false, cop_eq, hf.1, cop_ge, hf.2]
        unfold FQ
        exact wp_ok.mpr ⟨rfl, rfl⟩
    | false =>
      rw [hf, if_neg (by decide)] at more
      rw [more] at e
      have lt := mu_lt I.po hf
      have I2 := I1.sw (fin_no hf)
      have c3 : call T G (k + 2) (Str.ofString "after") [D.tup [.int (af m ⟨1, tu g, 0, 1⟩).p, .int (af m ⟨1, tu g, 0, 1⟩).q, .int (af m ⟨1, tu g, 0, 1⟩).r, .int (af m ⟨1, tu g, 0, 1⟩).s], D.tup [.int 0, .int (-1), .int 1, .int 0]] S2 = .ok (D.tup [.int (af (af m ⟨1, tu g, 0, 1⟩) ⟨0, -1, 1, 0⟩).p, .int (af (af m ⟨1, tu g, 0, 1⟩) ⟨0, -1, 1, 0⟩).q, .int (af (af m ⟨1, tu g, 0, 1⟩) ⟨0, -1, 1, 0⟩).r, .int (af (af m ⟨1, tu g, 0, 1⟩) ⟨0, -1, 1, 0⟩).s]) S2 := paft (k := k + 1) (af m ⟨1, tu g, 0, 1⟩) ⟨0, -1, 1, 0⟩ (bm1.mono (by decide)) bsw S2
      have c4 : call T G (k + 2) (Str.ofString "changed_by") [D.tup [.int (ld g ⟨1, tu g, 0, 1⟩).a, .int (ld g ⟨1, tu g, 0, 1⟩).b, .int (ld g ⟨1, tu g, 0, 1⟩).c], D.tup [.int 0, .int (-1), .int 1, .int 0]] S2 = .ok (D.tup [.int (ld (ld g ⟨1, tu g, 0, 1⟩) ⟨0, -1, 1, 0⟩).a, .int (ld (ld g ⟨1, tu g, 0, 1⟩) ⟨0, -1, 1, 0⟩).b, .int (ld (ld g ⟨1, tu g, 0, 1⟩) ⟨0, -1, 1, 0⟩).c]) S2 := pled (k := k) (ld g ⟨1, tu g, 0, 1⟩) ⟨0, -1, 1, 0⟩ (bg1.mono (by decide)) bsw S2
      have fin2 : redN n (ld (ld g ⟨1, tu g, 0, 1⟩) ⟨0, -1, 1, 0⟩) (af (af m ⟨1, tu g, 0, 1⟩) ⟨0, -1, 1, 0⟩) = redN (mu (ld (ld g ⟨1, tu g, 0, 1⟩) ⟨0, -1, 1, 0⟩)) (ld (ld g ⟨1, tu g, 0, 1⟩) ⟨0, -1, 1, 0⟩) (af (af m ⟨1, tu g, 0, 1⟩) ⟨0, -1, 1, 0⟩) := redN_more n I2.po (by omega) (Nat.le_refl _)
      rw [fin2] at e
      generalize hg1 : ld g ⟨1, tu g, 0, 1⟩ = g1 at *
      generalize hm1 : af m ⟨1, tu g, 0, 1⟩ = m1 at *
      generalize hg2 : ld g1 ⟨0, -1, 1, 0⟩ = g2 at *
      generalize hm2 : af m1 ⟨0, -1, 1, 0⟩ = m2 at *
      unfold fin at hf
      rw [Bool.or_eq_false_iff] at hf
      cases z2 : decide (g1.a = g1.c) with
      | true =>
        rw [z2, Bool.true_and] at hf
        simp -implicitDefEqProofs only [wp_ok, evSs, evS, evE, evB, evEs, evT, evTs, evI, evO, bindk_ok, ofO_some, List.map_cons, List.map_nil, List.replicate, List.cons_append, List.nil_append, List.getElem?_cons_zero, List.getElem?_cons_succ, List.set_cons_zero, List.set_cons_succ, Option.map, tF, tM, tr_bl, if_true, itm_tup, at0, at1, at2, bop_sub, bop_mul k1, bop_fdiv k2, et, List.length_cons, List.length_nil, Nat.zero_add, Nat.reduceAdd, hs4, hs2, c1, c2, cop_lt, hf.1, Bool.false_eq_true, if_false, cop_eq, z2, cop_ge, hf.2, Int.reduceNeg, c3, c4]
        unfold FQ
        exact ⟨_, lt, rfl, g2, m2, _, rfl, I2, e, rfl⟩
      | false =>
        simp -implicitDefEqProofs only [wp_ok, evSs, evS, evE, evB, evEs, evT, evTs, evI, evO, bindk_ok, ofO_some, List.map_cons, List.map_nil, List.replicate, List.cons_append, List.nil_append, List.getElem?_cons_zero, List.getElem?_cons_succ, List.set_cons_zero, List.set_cons_succ, Option.map, tF, tM, tr_bl, if_true, itm_tup, at0, at1, at2, bop_sub, bop_mul k1, bop_fdiv k2, et, List.length_cons, List.length_nil, Nat.zero_add, Nat.reduceAdd, hs4, hs2, c1, c2, cop_lt, hf.1, Bool.false_eq_true, if_false, cop_eq, z2, Int.reduceNeg, c3, c4]
        unfold FQ
        exact ⟨_, lt, rfl, g2, m2, _, rfl, I2, e, rfl⟩
  obtain ⟨f', S', h1, rfl, rfl⟩ := main
  rw [h1]
  show leave S' (Res.ok (.tup [tF (red f), tM (Fm.way f)]) S') = _
  exact leave_same rfl
end K06

set_option Elab.async false
set_option linter.all false
set_option maxRecDepth 100000
set_option maxHeartbeats 4000000
namespace K06
open PySem PySem.Spec PyProof.Rows L2 Py Fm
variable {k : Nat}
theorem lgcd (x y : Int) (hx : x.natAbs < 2 ^ 62) (hy : y.natAbs < 2 ^ 62) (S : Store) : call T G (k + 1) (Str.ofString "_law_gcd") [.int x, .int y] S = .ok (.int ((Nat.gcd x.natAbs y.natAbs : Nat) : Int)) S := by
  rw [call_eq T__law_gcd rfl]
  have ax : ∀ x : Int, (if x < 0 then -x else x) = (x.natAbs : Int) := fun x => by split <;> omega
  have main : WP (evSs (call T G k) G f__law_gcd.body ([D.int x, D.int y].map some ++ List.replicate (f__law_gcd.ns - f__law_gcd.np) none) S) fun f S' => f = .rt (.int ((Nat.gcd x.natAbs y.natAbs : Nat) : Int)) ∧ S' = S := by
    simp -implicitDefEqProofs only [f__law_gcd, evSs, evS, evE, evB, evEs, evT, evTs, evI, evO, bindk_ok, ofO_some, List.map_cons, List.map_nil, List.replicate, List.cons_append, List.nil_append, List.getElem?_cons_zero, List.getElem?_cons_succ, List.set_cons_zero, List.set_cons_succ, Option.map, bf_abs, ax]
    rw [wp_bind]
    refine wp_whl (fun j η S2 => S2 = S ∧ ∃ a b : Nat, j = b ∧ η = [some (.int (a : Int)), some (.int (b : Int))] ∧ Nat.gcd a b = Nat.gcd x.natAbs y.natAbs) ?_ (n := y.natAbs) ⟨rfl, x.natAbs, y.natAbs, rfl, rfl, rfl⟩
    rintro j η S2 ⟨rfl, a, b, rfl, rfl, hg⟩
    by_cases c : (0 : Int) < (j : Int)
    · have z' := decide_eq_true c
      simp -implicitDefEqProofs only [wp_ok, evSs, evS, evE, evB, evEs, evT, evTs, evI, evO, bindk_ok, ofO_some, List.map_cons, List.map_nil, List.replicate, List.cons_append, List.nil_append, List.getElem?_cons_zero, List.getElem?_cons_succ, List.set_cons_zero, List.set_cons_succ, Option.map, cop_gt, z', tr_bl, if_true, bf_int, bop_mod c]
      unfold FQ
      refine ⟨a % j, Nat.mod_lt _ (by omega), rfl, j, a % j, rfl, by rw [Int.natCast_emod], ?_⟩
      rw [← hg, Nat.gcd_comm j, ← Nat.gcd_rec, Nat.gcd_comm]
    · have z' := decide_eq_false c
      have b0 : j = 0 := by omega
      subst b0
      rw [Nat.gcd_zero_right] at hg
      simp -implicitDefEqProofs only [wp_ok, evSs, evS, evE, evB, evEs, evT, evTs, evI, evO, bindk_ok, ofO_some, List.map_cons, List.map_nil, List.replicate, List.cons_append, List.nil_append, List.getElem?_cons_zero, List.getElem?_cons_succ, List.set_cons_zero, List.set_cons_succ, Option.map, cop_gt, z', tr_bl, Bool.false_eq_true, if_false]
      exact ⟨by rw [hg], trivial⟩
  obtain ⟨f, S', h1, rfl, rfl⟩ := main
  rw [h1]
  show leave S' (Res.ok (D.int ((Nat.gcd x.natAbs y.natAbs : Nat) : Int)) S') = _
  exact leave_same rfl
/-- the root, from below -/
theorem lroot (n : Nat) (hn : n < 1000000000) (S : Store) : ∃ r : Nat, r * r ≤ n ∧ n < (r + 1) * (r + 1) ∧ call T G (k + 1) (Str.ofString "_law_root") [.int (n : Int)] S = .ok (.int (r : Int)) S := by
  have main : WP (evSs (call T G k) G f__law_root.body ([D.int (n : Int)].map some ++ List.replicate (f__law_root.ns - f__law_root.np) none) S) fun f S' => (∃ r : Nat, r * r ≤ n ∧ n < (r + 1) * (r + 1) ∧ f = .rt (.int (r : Int))) ∧ S' = S := by
    have lv : (2 = (ITs.cons (IT.name 1) (ITs.cons (IT.name 2) ITs.nil)).len) = True := eq_true rfl
    have hs2 : (2 : Nat) ≤ sizeLine := by decide
    simp -implicitDefEqProofs only [f__law_root, evSs, evS, evE, evB, evEs, evT, evTs, evI, evO, bindk_ok, ofO_some, List.map_cons, List.map_nil, List.replicate, List.cons_append, List.nil_append, List.getElem?_cons_zero, List.getElem?_cons_succ, List.set_cons_zero, List.set_cons_succ, Option.map, List.length_cons, List.length_nil, Nat.zero_add, Nat.reduceAdd, hs2, lv, if_true]
    rw [wp_bind]
    refine wp_whl (fun j η S2 => S2 = S ∧ ∃ h : Nat, 1 ≤ h ∧ h ≤ 70000 ∧ j = 70001 - h ∧ η = [some (.int (n : Int)), some (.int 0), some (.int (h : Int)), none]) ?_ (n := 70000) ⟨rfl, 1, by decide, by decide, rfl, rfl⟩
    rintro j η S2 ⟨rfl, h, h1, h2, rfl, rfl⟩
    have m1 : mulOk (h : Int) (h : Int) = true := mulOk_of (sml (by omega) (by omega)) (sml (by omega) (by omega))
    have e : (h : Int) * (h : Int) = ((h * h : Nat) : Int) := by push_cast; rfl
    by_cases c : (h : Int) * (h : Int) ≤ n
    · have z := decide_eq_true c
      have lt : h < 31623 := by
        apply Classical.byContradiction; intro q
        have : 31623 * 31623 ≤ h * h := Nat.mul_le_mul (by omega) (by omega)
        omega
      have m2 : mulOk 2 (h : Int) = true := mulOk_of (sml (by omega) (by omega)) (sml (by omega) (by omega))
      simp -implicitDefEqProofs only [wp_ok, evSs, evS, evE, evB, evEs, evT, evTs, evI, evO, bindk_ok, ofO_some, List.map_cons, List.map_nil, List.replicate, List.cons_append, List.nil_append, List.getElem?_cons_zero, List.getElem?_cons_succ, List.set_cons_zero, List.set_cons_succ, Option.map, bop_mul m1, cop_le, z, tr_bl, if_true, bop_mul m2]
      unfold FQ
      exact ⟨70001 - 2 * h, by omega, rfl, 2 * h, by omega, by omega, rfl, by push_cast; rfl⟩
    · have z := decide_eq_false c
      have hi : n < h * h := by omega
      simp -implicitDefEqProofs only [wp_ok, evSs, evS, evE, evB, evEs, evT, evTs, evI, evO, bindk_ok, ofO_some, List.map_cons, List.map_nil, List.replicate, List.cons_append, List.nil_append, List.getElem?_cons_zero, List.getElem?_cons_succ, List.set_cons_zero, List.set_cons_succ, Option.map, bop_mul m1, cop_le, z, tr_bl, Bool.false_eq_true, if_false]
      rw [wp_bind]
      refine wp_whl (fun j η S3 => S3 = S2 ∧ ∃ (l h : Nat) (x : Option D), l < h ∧ h ≤ 70000 ∧ l * l ≤ n ∧ n < h * h ∧ j = h - l ∧ η = [some (.int (n : Int)), some (.int (l : Int)), some (.int (h : Int)), x]) ?_ (n := h - 0) ⟨rfl, 0, h, none, by omega, h2, by omega, hi, rfl, rfl⟩
      rintro j η S3 ⟨rfl, l, h, x, q1, q2, q3, q4, rfl, rfl⟩
      by_cases c2 : (1 : Int) < (h : Int) - l
      · have z2 := decide_eq_true c2
        have d1 : divOk 2 = true := by decide +kernel
        have e2 : ((l : Int) + h) / 2 = (((l + h) / 2 : Nat) : Int) := by push_cast; rfl
        generalize hm : (l + h) / 2 = m at e2
        have m3 : mulOk (m : Int) (m : Int) = true := mulOk_of (sml (by omega) (by omega)) (sml (by omega) (by omega))
        have e3 : (m : Int) * (m : Int) = ((m * m : Nat) : Int) := by push_cast; rfl
        by_cases c3 : (m : Int) * (m : Int) ≤ n
        · have z3 := decide_eq_true c3
          simp -implicitDefEqProofs only [wp_ok, evSs, evS, evE, evB, evEs, evT, evTs, evI, evO, bindk_ok, ofO_some, List.map_cons, List.map_nil, List.replicate, List.cons_append, List.nil_append, List.getElem?_cons_zero, List.getElem?_cons_succ, List.set_cons_zero, List.set_cons_succ, Option.map, bop_sub, cop_gt, z2, tr_bl, if_true, bop_add, bop_fdiv d1, e2, bop_mul m3, cop_le, z3]
          unfold FQ
          exact ⟨h - m, by omega, rfl, m, h, _, by omega, q2, by omega, q4, rfl, rfl⟩
        · have z3 := decide_eq_false c3
          simp -implicitDefEqProofs only [wp_ok, evSs, evS, evE, evB, evEs, evT, evTs, evI, evO, bindk_ok, ofO_some, List.map_cons, List.map_nil, List.replicate, List.cons_append, List.nil_append, List.getElem?_cons_zero, List.getElem?_cons_succ, List.set_cons_zero, List.set_cons_succ, Option.map, bop_sub, cop_gt, z2, tr_bl, if_true, bop_add, bop_fdiv d1, e2, bop_mul m3, cop_le, z3, Bool.false_eq_true, if_false]
          unfold FQ
          exact ⟨m - l, by omega, rfl, l, m, _, by omega, by omega, q3, by omega, rfl, rfl⟩
      · have z2 := decide_eq_false c2
        simp -implicitDefEqProofs only [wp_ok, evSs, evS, evE, evB, evEs, evT, evTs, evI, evO, bindk_ok, ofO_some, List.map_cons, List.map_nil, List.replicate, List.cons_append, List.nil_append, List.getElem?_cons_zero, List.getElem?_cons_succ, List.set_cons_zero, List.set_cons_succ, Option.map, bop_sub, cop_gt, z2, tr_bl, Bool.false_eq_true, if_false]
        refine ⟨⟨l, q3, ?_, rfl⟩, trivial⟩
        have : h = l + 1 := by omega
        rw [this] at q4; exact q4
  obtain ⟨f, S', h1, ⟨r, q1, q2, rfl⟩, rfl⟩ := main
  refine ⟨r, q1, q2, ?_⟩
  rw [call_eq T__law_root rfl, h1]
  show leave S' (Res.ok (D.int (r : Int)) S') = _
  exact leave_same rfl
def gc (f : Fo) : Nat := Nat.gcd f.a.natAbs (Nat.gcd f.b.natAbs f.c.natAbs)
theorem gc_ld (f : Fo) (m : Ch) : (gc f : Int) ∣ (ld f m).a ∧ (gc f : Int) ∣ (ld f m).b ∧ (gc f : Int) ∣ (ld f m).c := by
  have ha : (gc f : Int) ∣ f.a := Int.ofNat_dvd_left.mpr (Nat.gcd_dvd_left _ _)
  have hb : (gc f : Int) ∣ f.b := Int.ofNat_dvd_left.mpr (Nat.dvd_trans (Nat.gcd_dvd_right _ _) (Nat.gcd_dvd_left _ _))
  have hc : (gc f : Int) ∣ f.c := Int.ofNat_dvd_left.mpr (Nat.dvd_trans (Nat.gcd_dvd_right _ _) (Nat.gcd_dvd_right _ _))
  have v : ∀ x y : Int, (gc f : Int) ∣ vl f x y := fun x y => by
    unfold vl
    exact Int.dvd_add (Int.dvd_add (Int.dvd_mul_of_dvd_left (Int.dvd_mul_of_dvd_left ha)) (Int.dvd_mul_of_dvd_left (Int.dvd_mul_of_dvd_left hb))) (Int.dvd_mul_of_dvd_left (Int.dvd_mul_of_dvd_left hc))
  refine ⟨v _ _, ?_, v _ _⟩
  show (gc f : Int) ∣ 2 * f.a * m.p * m.q + f.b * (m.p * m.s + m.q * m.r) + 2 * f.c * m.r * m.s
  exact Int.dvd_add (Int.dvd_add (Int.dvd_mul_of_dvd_left (Int.dvd_mul_of_dvd_left (Int.dvd_mul_of_dvd_right ha))) (Int.dvd_mul_of_dvd_left hb)) (Int.dvd_mul_of_dvd_left (Int.dvd_mul_of_dvd_left (Int.dvd_mul_of_dvd_right hc)))
theorem gc_one {f : Fo} {m : Ch} (hd : dt m = 1) (h : gc f = 1) : gc (ld f m) = 1 := by
  have e : ld (ld f m) (bk m) = f := by rw [← ld_af, (af_bk m hd).1, ld_on]
  obtain ⟨h1, h2, h3⟩ := gc_ld (ld f m) (bk m)
  rw [e] at h1 h2 h3
  have : gc (ld f m) ∣ gc f := Nat.dvd_gcd (Int.ofNat_dvd_left.mp h1) (Nat.dvd_gcd (Int.ofNat_dvd_left.mp h2) (Int.ofNat_dvd_left.mp h3))
  rw [h] at this
  exact Nat.dvd_one.mp this
/-- a form, in this law's bounds -/
structure Gf (f : Fo) : Prop where
  po : Po f
  lo : -400 ≤ dc f
  hi : dc f ≤ -3
  m4 : dc f % 4 < 2
  g1 : gc f = 1
/-- a reduced form of a discriminant -/
structure Gd (n : Int) (f : Fo) : Prop where
  g : Gf f
  r : Re f
  d : dc f = n
theorem Gf.ld {f : Fo} (h : Gf f) {m : Ch} (hm : dt m = 1) (ha : 1 ≤ (ld f m).a) : Gf (ld f m) := by
  have e : dc (Fm.ld f m) = dc f := by rw [dc_ld, hm, Int.mul_one, Int.mul_one]
  exact ⟨⟨ha, by rw [e]; have := h.hi; omega⟩, by rw [e]; exact h.lo, by rw [e]; exact h.hi, by rw [e]; exact h.m4, gc_one hm h.g1⟩
theorem Re.sm {f : Fo} (r : Re f) (h : Po f) (hD : -400 ≤ dc f) : f.a ≤ 11 ∧ f.c ≤ 130 ∧ 3 * (f.a * f.a) ≤ -dc f ∧ -f.a ≤ f.b ∧ f.b ≤ f.a ∧ 1 ≤ f.a ∧ 1 ≤ f.c := by
  have h1 := h.a
  have l1 := r.l1; have l2 := r.l2; have l3 := r.l3
  have b2 : f.b * f.b ≤ f.a * f.a := by
    have : f.b.natAbs ≤ f.a.natAbs := by omega
    have q := Nat.mul_le_mul this this
    rw [← Int.natAbs_mul, ← Int.natAbs_mul] at q
    have p1 : 0 ≤ f.b * f.b := by rw [← Int.natAbs_mul_self]; exact Int.natCast_nonneg _
    have p2 : 0 ≤ f.a * f.a := Int.mul_nonneg (by omega) (by omega)
    omega
  have ac : f.a * f.a ≤ f.a * f.c := Int.mul_le_mul_of_nonneg_left l3 (by omega)
  have e : 4 * f.a * f.c = 4 * (f.a * f.c) := Int.mul_assoc _ _ _
  unfold dc at hD ⊢
  have a11 : f.a ≤ 11 := by
    apply Classical.byContradiction; intro q
    have : (12 : Int) * 12 ≤ f.a * f.a := Int.mul_le_mul (by omega) (by omega) (by decide) (by omega)
    omega
  have a121 : f.a * f.a ≤ 11 * 11 := Int.mul_le_mul (by omega) (by omega) (by omega) (by omega)
  have c1 : 1 * f.c ≤ f.a * f.c := Int.mul_le_mul_of_nonneg_right h1 (by omega)
  exact ⟨a11, by omega, by omega, by omega, l2, h1, by omega⟩
end K06

set_option Elab.async false
set_option linter.all false
set_option maxRecDepth 100000
set_option maxHeartbeats 4000000
namespace K06
open PySem PySem.Spec PyProof.Rows L2 Py Fm
variable {k : Nat}
theorem lwhole (n : Int) (S : Store) : call T G (k + 1) (Str.ofString "_law_is_whole") [.int n] S = .ok (.bl true) S := by
  rw [call_eq T__law_is_whole rfl]
  have i1 : isiD "int" (.int n) = some true := by rfl
  have i2 : isiD "bool" (.int n) = some false := by rfl
  simp -implicitDefEqProofs only [f__law_is_whole, evSs, evS, evE, evB, evEs, evT, evTs, evI, evO, bindk_ok, ofO_some, List.map_cons, List.map_nil, List.replicate, List.cons_append, List.nil_append, List.getElem?_cons_zero, List.getElem?_cons_succ, List.set_cons_zero, List.set_cons_succ, Option.map, i1, i2, tr_bl, if_true, Bool.not_false]
  show leave S (Res.ok (D.bl true) S) = _
  exact leave_same rfl
theorem whole (n : Int) (S : Store) : call T G (k + 1) (Str.ofString "is_whole") [.int n] S = .ok (.bl true) S := by
  rw [call_eq T_is_whole rfl]
  have i1 : isiD "int" (.int n) = some true := by rfl
  have i2 : isiD "bool" (.int n) = some false := by rfl
  simp -implicitDefEqProofs only [f_is_whole, evSs, evS, evE, evB, evEs, evT, evTs, evI, evO, bindk_ok, ofO_some, List.map_cons, List.map_nil, List.replicate, List.cons_append, List.nil_append, List.getElem?_cons_zero, List.getElem?_cons_succ, List.set_cons_zero, List.set_cons_succ, Option.map, i1, i2, tr_bl, if_true, Bool.not_false]
  show leave S (Res.ok (D.bl true) S) = _
  exact leave_same rfl
theorem lv1 {S : Store} {ds : List D} {bs : List Bool} (h : blsOf ds = some bs) : bf S .all [.lv ds] = some (.bl (bs.all id)) := by
  show (blsOf ds).map _ = _
  rw [h]; rfl
theorem lisDisc (n : Int) (h1 : -400 ≤ n) (h2 : n ≤ -3) (h3 : n % 4 < 2) (S : Store) : call T G (k + 2) (Str.ofString "_law_is_discriminant") [.int n] S = .ok (.bl true) S := by
  rw [call_eq T__law_is_discriminant rfl]
  have z1 := decide_eq_true h1
  have z2 := decide_eq_true h2
  have z3 := decide_eq_true h3
  have p4 : (0 : Int) < 4 := by decide
  simp -implicitDefEqProofs only [f__law_is_discriminant, evSs, evS, evE, evB, evEs, evT, evTs, evI, evO, bindk_ok, ofO_some, List.map_cons, List.map_nil, List.replicate, List.cons_append, List.nil_append, List.getElem?_cons_zero, List.getElem?_cons_succ, List.set_cons_zero, List.set_cons_succ, Option.map, lwhole n S, tr_bl, if_true, cop_le, Int.reduceNeg, z1, z2, bf_int, bop_mod p4, cop_lt, z3]
  show leave S (Res.ok (D.bl true) S) = _
  exact leave_same rfl
theorem ldiscOf (f : Fo) (hf : BF' 3000 f) (S : Store) : call T G (k + 1) (Str.ofString "_law_disc_of") [tF f] S = .ok (.int (dc f)) S := by
  rw [call_eq T__law_disc_of rfl]
  have m1 : mulOk f.b f.b = true := mulOk_big hf.b hf.b (by decide)
  have m2 : mulOk 4 f.a = true := mulOk_big big_four hf.a (by decide)
  have m3 : mulOk (4 * f.a) f.c = true := mulOk_big (big_mul big_four hf.a) hf.c (by decide)
  simp -implicitDefEqProofs only [f__law_disc_of, tF, evSs, evS, evE, evB, evEs, evT, evTs, evI, evO, bindk_ok, ofO_some, List.map_cons, List.map_nil, List.replicate, List.cons_append, List.nil_append, List.getElem?_cons_zero, List.getElem?_cons_succ, List.set_cons_zero, List.set_cons_succ, Option.map, itm_tup, at0, at1, at2, bop_mul m1, bop_mul m2, bop_mul m3, bop_sub]
  show leave S (Res.ok (D.int (dc f)) S) = _
  exact leave_same rfl
theorem pdiscOf (f : Fo) (hf : BF' 3000 f) (S : Store) : call T G (k + 1) (Str.ofString "discriminant_by") [tF f] S = .ok (.int (dc f)) S := by
  rw [call_eq T_discriminant_by rfl]
  have m1 : mulOk f.b f.b = true := mulOk_big hf.b hf.b (by decide)
  have m2 : mulOk 4 f.a = true := mulOk_big big_four hf.a (by decide)
  have m3 : mulOk (4 * f.a) f.c = true := mulOk_big (big_mul big_four hf.a) hf.c (by decide)
  simp -implicitDefEqProofs only [f_discriminant_by, tF, evSs, evS, evE, evB, evEs, evT, evTs, evI, evO, bindk_ok, ofO_some, List.map_cons, List.map_nil, List.replicate, List.cons_append, List.nil_append, List.getElem?_cons_zero, List.getElem?_cons_succ, List.set_cons_zero, List.set_cons_succ, Option.map, itm_tup, at0, at1, at2, bop_mul m1, bop_mul m2, bop_mul m3, bop_sub]
  show leave S (Res.ok (D.int (dc f)) S) = _
  exact leave_same rfl
/-- the law's look at a form: small numbers, a discriminant that is one -/
theorem lisForm (f : Fo) (ha : 1 ≤ f.a) (b1 : f.a ≤ 1000) (b2 : f.b.natAbs ≤ 1000) (b3 : f.c.natAbs ≤ 1000) (h1 : -400 ≤ dc f) (h2 : dc f ≤ -3) (h3 : dc f % 4 < 2) (S : Store) : call T G (k + 3) (Str.ofString "_law_is_form") [tF f] S = .ok (.bl (decide (gc f = 1))) S := by
  have bb : BF' 3000 f := by
    have p : (1000 : Nat) < 2 ^ 3000 := Nat.lt_of_lt_of_le (by decide : (1000 : Nat) < 2 ^ 10) (Nat.pow_le_pow_right (by decide) (by decide))
    exact ⟨by unfold big; omega, by unfold big; omega, by unfold big; omega⟩
  have dcf := ldiscOf (k := k + 1) f bb S
  have isd := lisDisc (k := k) (dc f) h1 h2 h3 S
  have i1 : isiD "tuple" (tF f) = some true := by rfl
  have g1 := lgcd (k := k + 1) f.b f.c (by omega) (by omega) S
  have g2 := lgcd (k := k + 1) f.a ((Nat.gcd f.b.natAbs f.c.natAbs : Nat) : Int) (by omega) (by
    rw [Int.natAbs_natCast]
    by_cases z : f.b.natAbs = 0
    · rw [z, Nat.gcd_zero_left]; omega
    · have := Nat.gcd_le_left f.c.natAbs (show 0 < f.b.natAbs by omega)
      omega) S
  rw [Int.natAbs_natCast] at g2
  have eg : Nat.gcd f.a.natAbs (Nat.gcd f.b.natAbs f.c.natAbs) = gc f := rfl
  rw [eg] at g2
  have key := comp_map (g := guardOf (tF f) S) (asg := fun d => asgC [1] true [1] d (wipeD [some (tF f), none] [1])) (t := evB (call T G (k + 2)) G .yes) (e := evE (call T G (k + 2)) G (.call (Str.ofString "_law_is_whole") (.cons (.var 1) .nil))) (S := S)
    (fun _ => rfl) (fun d => .bl true) [.int f.a, .int f.b, .int f.c] (by show 3 ≤ sizeLine; decide) (fun _ _ => rfl) (by
      intro d hd
      have : ∃ n, d = .int n := by
        simp only [List.mem_cons, List.not_mem_nil, or_false] at hd
        rcases hd with h | h | h <;> exact ⟨_, h⟩
      obtain ⟨n, rfl⟩ := this
      refine ⟨[some (tF f), some (.int n)], rfl, fun acc => ⟨rfl, ?_⟩⟩
      simp -implicitDefEqProofs only [evSs, evS, evE, evB, evEs, evT, evTs, evI, evO, bindk_ok, ofO_some, List.map_cons, List.map_nil, List.replicate, List.cons_append, List.nil_append, List.getElem?_cons_zero, List.getElem?_cons_succ, List.set_cons_zero, List.set_cons_succ, Option.map, lwhole n])
  have l3 : bf S .len [tF f] = some (.int 3) := rfl
  have al : bf S .all [.lv [.bl true, .bl true, .bl true]] = some (.bl true) := lv1 (bs := [true, true, true]) rfl
  have z3 := decide_eq_true (rfl : (3 : Int) = 3)
  have ze : decide (((gc f : Nat) : Int) = 1) = decide (gc f = 1) := decide_eq_decide.mpr (by omega)
  have za := decide_eq_false (show ¬ f.a < 1 by omega)
  have it : items S (tF f) = some [.int f.a, .int f.b, .int f.c] := rfl
  rw [call_eq T__law_is_form rfl]
  simp -implicitDefEqProofs only [evSs, evS, evE, evB, evEs, evT, evTs, evI, evO, bindk_ok, ofO_some, List.map_cons, List.map_nil, List.replicate, List.cons_append, List.nil_append, List.getElem?_cons_zero, List.getElem?_cons_succ, List.set_cons_zero, List.set_cons_succ, Option.map] at key
  by_cases c : gc f = 1
  · have zc := decide_eq_true c
    rw [zc] at ze
    rw [zc]
    simp -implicitDefEqProofs only [f__law_is_form, evSs, evS, evE, evB, evEs, evT, evTs, evI, evO, bindk_ok, ofO_some, List.map_cons, List.map_nil, List.replicate, List.cons_append, List.nil_append, List.getElem?_cons_zero, List.getElem?_cons_succ, List.set_cons_zero, List.set_cons_succ, Option.map, i1, tr_bl, Bool.not_true, Bool.false_eq_true, if_false, if_true, l3, cop_ne, z3, decide_true, it, key, al, at0, at1, at2, g1, g2, ze, cop_lt, za, dcf, isd]
    show leave S (Res.ok (D.bl true) S) = _
    exact leave_same rfl
  · have zc := decide_eq_false c
    rw [zc] at ze
    rw [zc]
    simp -implicitDefEqProofs only [f__law_is_form, evSs, evS, evE, evB, evEs, evT, evTs, evI, evO, bindk_ok, ofO_some, List.map_cons, List.map_nil, List.replicate, List.cons_append, List.nil_append, List.getElem?_cons_zero, List.getElem?_cons_succ, List.set_cons_zero, List.set_cons_succ, Option.map, i1, tr_bl, Bool.not_true, Bool.not_false, Bool.false_eq_true, if_false, if_true, l3, cop_ne, z3, decide_true, it, key, al, at0, at1, at2, g1, g2, ze, cop_lt, za, dcf, isd]
    show leave S (Res.ok (D.bl false) S) = _
    exact leave_same rfl
open Classical in
noncomputable def reB (f : Fo) : Bool := decide (Re f)
theorem reB_true {f : Fo} : reB f = true ↔ Re f := @decide_eq_true_iff _ (Classical.propDecidable _)
theorem lisRed (f : Fo) (ha : 1 ≤ f.a) (S : Store) : call T G (k + 1) (Str.ofString "_law_is_reduced") [tF f] S = .ok (.bl (reB f)) S := by
  have lv : (3 = (ITs.cons (IT.name 1) (ITs.cons (IT.name 2) (ITs.cons (IT.name 3) ITs.nil))).len) = True := eq_true rfl
  rw [call_eq T__law_is_reduced rfl]
  have fin : ∀ b : Bool, reB f = b → leave S (Res.ok (D.bl b) S) = .ok (.bl (reB f)) S := fun b e => by rw [e]; exact leave_same rfl
  have no : ¬ Re f → reB f = false := fun h => by
    cases q : reB f with
    | false => rfl
    | true => exact absurd (reB_true.mp q) h
  by_cases c1 : 0 - f.a ≤ f.b
  · have z1 := decide_eq_true c1
    by_cases c2 : f.b ≤ f.a
    · have z2 := decide_eq_true c2
      by_cases c3 : f.a ≤ f.c
      · have z3 := decide_eq_true c3
        by_cases c4 : 0 ≤ f.b
        · have z4 := decide_eq_true c4
          simp -implicitDefEqProofs only [f__law_is_reduced, tF, evL, evSs, evS, evE, evB, evEs, evT, evTs, evI, evO, bindk_ok, ofO_some, List.map_cons, List.map_nil, List.replicate, List.cons_append, List.nil_append, List.getElem?_cons_zero, List.getElem?_cons_succ, List.set_cons_zero, List.set_cons_succ, Option.map, List.length_cons, List.length_nil, Nat.zero_add, Nat.reduceAdd, lv, if_true, bop_sub, cop_le, z1, z2, z3, cop_ge, z4]
          exact fin true (reB_true.mpr ⟨by omega, c2, c3, .inr c4⟩)
        · have z4 := decide_eq_false c4
          by_cases c5 : 0 - f.b = f.a
          · have z5 := decide_eq_true c5
            simp -implicitDefEqProofs only [f__law_is_reduced, tF, evL, evSs, evS, evE, evB, evEs, evT, evTs, evI, evO, bindk_ok, ofO_some, List.map_cons, List.map_nil, List.replicate, List.cons_append, List.nil_append, List.getElem?_cons_zero, List.getElem?_cons_succ, List.set_cons_zero, List.set_cons_succ, Option.map, List.length_cons, List.length_nil, Nat.zero_add, Nat.reduceAdd, lv, if_true, bop_sub, cop_le, z1, z2, z3, cop_ge, z4, cop_ne, z5, Bool.not_true, Bool.false_eq_true, if_false]
            exact fin false (no fun h => by have := h.l1; omega)
          · have z5 := decide_eq_false c5
            by_cases c6 : f.a = f.c
            · have z6 := decide_eq_true c6
              simp -implicitDefEqProofs only [f__law_is_reduced, tF, evL, evSs, evS, evE, evB, evEs, evT, evTs, evI, evO, bindk_ok, ofO_some, List.map_cons, List.map_nil, List.replicate, List.cons_append, List.nil_append, List.getElem?_cons_zero, List.getElem?_cons_succ, List.set_cons_zero, List.set_cons_succ, Option.map, List.length_cons, List.length_nil, Nat.zero_add, Nat.reduceAdd, lv, if_true, bop_sub, cop_le, z1, z2, z3, cop_ge, z4, cop_ne, z5, z6, Bool.not_true, Bool.not_false, Bool.false_eq_true, if_false]
              exact fin false (no fun h => by have := h.l4; omega)
            · have z6 := decide_eq_false c6
              simp -implicitDefEqProofs only [f__law_is_reduced, tF, evL, evSs, evS, evE, evB, evEs, evT, evTs, evI, evO, bindk_ok, ofO_some, List.map_cons, List.map_nil, List.replicate, List.cons_append, List.nil_append, List.getElem?_cons_zero, List.getElem?_cons_succ, List.set_cons_zero, List.set_cons_succ, Option.map, List.length_cons, List.length_nil, Nat.zero_add, Nat.reduceAdd, lv, if_true, bop_sub, cop_le, z1, z2, z3, cop_ge, z4, cop_ne, z5, z6, Bool.not_true, Bool.not_false, Bool.false_eq_true, if_false]
              exact fin true (reB_true.mpr ⟨by omega, c2, c3, .inl (by omega)⟩)
      · have z3 := decide_eq_false c3
        simp -implicitDefEqProofs only [f__law_is_reduced, tF, evL, evSs, evS, evE, evB, evEs, evT, evTs, evI, evO, bindk_ok, ofO_some, List.map_cons, List.map_nil, List.replicate, List.cons_append, List.nil_append, List.getElem?_cons_zero, List.getElem?_cons_succ, List.set_cons_zero, List.set_cons_succ, Option.map, List.length_cons, List.length_nil, Nat.zero_add, Nat.reduceAdd, lv, if_true, bop_sub, cop_le, z1, z2, z3, Bool.false_eq_true, if_false]
        exact fin false (no fun h => by have := h.l3; omega)
    · have z2 := decide_eq_false c2
      simp -implicitDefEqProofs only [f__law_is_reduced, tF, evL, evSs, evS, evE, evB, evEs, evT, evTs, evI, evO, bindk_ok, ofO_some, List.map_cons, List.map_nil, List.replicate, List.cons_append, List.nil_append, List.getElem?_cons_zero, List.getElem?_cons_succ, List.set_cons_zero, List.set_cons_succ, Option.map, List.length_cons, List.length_nil, Nat.zero_add, Nat.reduceAdd, lv, if_true, bop_sub, cop_le, z1, z2, Bool.false_eq_true, if_false]
      exact fin false (no fun h => by have := h.l2; omega)
  · have z1 := decide_eq_false c1
    simp -implicitDefEqProofs only [f__law_is_reduced, tF, evL, evSs, evS, evE, evB, evEs, evT, evTs, evI, evO, bindk_ok, ofO_some, List.map_cons, List.map_nil, List.replicate, List.cons_append, List.nil_append, List.getElem?_cons_zero, List.getElem?_cons_succ, List.set_cons_zero, List.set_cons_succ, Option.map, List.length_cons, List.length_nil, Nat.zero_add, Nat.reduceAdd, lv, if_true, bop_sub, cop_le, z1, Bool.false_eq_true, if_false]
    exact fin false (no fun h => by have := h.l1; omega)
end K06

set_option Elab.async false
set_option linter.all false
set_option maxRecDepth 100000
set_option maxHeartbeats 4000000
namespace K06
open PySem PySem.Spec PyProof.Rows L2 Py Fm
variable {k : Nat}
theorem rng_one (lo : Int) (n : Nat) : rng lo (n + 1) = .int lo :: rng (lo + 1) n := rfl
theorem lastC (S : Store) (c : Cell) : (S ++ [c])[S.length]? = some c := by rw [List.getElem?_append_right (Nat.le_refl _), Nat.sub_self]; rfl
theorem setC (S : Store) (c e : Cell) : (S ++ [c]).set S.length e = S ++ [e] := by rw [List.set_append_right _ _ (Nat.le_refl _), Nat.sub_self]; rfl
theorem isLC (S : Store) (l : List D) : isLst (S ++ [.lst l]) S.length = true := by unfold isLst; rw [lastC]
theorem tF_inj {f g : Fo} (h : tF f = tF g) : f = g := by
  obtain ⟨a, b, c⟩ := f
  obtain ⟨a', b', c'⟩ := g
  unfold tF at h
  simp only [D.tup.injEq, List.cons.injEq, D.int.injEq, and_true] at h
  obtain ⟨rfl, rfl, rfl⟩ := h
  rfl
theorem sq_le {b A : Int} (h1 : -A ≤ b) (h2 : b ≤ A) : 0 ≤ b * b ∧ b * b ≤ A * A := by
  have q := Nat.mul_le_mul (show b.natAbs ≤ A.natAbs by omega) (show b.natAbs ≤ A.natAbs by omega)
  rw [← Int.natAbs_mul, ← Int.natAbs_mul] at q
  have p1 : 0 ≤ b * b := by rw [← Int.natAbs_mul_self]; exact Int.natCast_nonneg _
  have p2 : 0 ≤ A * A := by rw [← Int.natAbs_mul_self]; exact Int.natCast_nonneg _
  omega
/-- the last number is given by the others -/
theorem c_of {n : Int} {f : Fo} (h : dc f = n) (ha : 1 ≤ f.a) : (f.b * f.b - n) % (4 * f.a) = 0 ∧ (f.b * f.b - n) / (4 * f.a) = f.c := by
  unfold dc at h
  have e : f.b * f.b - n = 4 * f.a * f.c := by omega
  rw [e]
  exact ⟨Int.mul_emod_right _ _, Int.mul_ediv_cancel_left _ (by omega)⟩
theorem gd_sm {n : Int} {f : Fo} (h : Gd n f) : f.a ≤ 11 ∧ f.c ≤ 130 ∧ 3 * (f.a * f.a) ≤ -n ∧ -f.a ≤ f.b ∧ f.b ≤ f.a ∧ 1 ≤ f.a ∧ 1 ≤ f.c := by
  have := Re.sm h.r h.g.po h.g.lo
  rw [h.d] at this
  exact this
/-- ahead: by the first number, then by the second -/
def lo2 (f g : Fo) : Prop := f.a < g.a ∨ f.a = g.a ∧ f.b < g.b
theorem lo2_irr {f : Fo} (h : lo2 f f) : False := by unfold lo2 at h; omega
theorem lo2_asym {f g : Fo} (h : lo2 f g) (q : lo2 g f) : False := by unfold lo2 at h q; omega
theorem lo2_uniq : ∀ {l m : List Fo}, l.Pairwise lo2 → m.Pairwise lo2 → (∀ f, f ∈ l ↔ f ∈ m) → l = m
  | [], [], _, _, _ => rfl
  | [], y :: m, _, _, h => by have := (h y).mpr (List.mem_cons_self ..); cases this
  | x :: l, [], _, _, h => by have := (h x).mp (List.mem_cons_self ..); cases this
  | x :: l, y :: m, hl, hm, h => by
    obtain ⟨l1, l2⟩ := List.pairwise_cons.mp hl
    obtain ⟨m1, m2⟩ := List.pairwise_cons.mp hm
    have e : x = y := by
      rcases List.mem_cons.mp ((h x).mp (List.mem_cons_self ..)) with q | q
      · exact q
      · rcases List.mem_cons.mp ((h y).mpr (List.mem_cons_self ..)) with w | w
        · exact w.symm
        · exact (lo2_asym (m1 x q) (l1 y w)).elim
    subst e
    rw [lo2_uniq l2 m2 fun f => ⟨fun q => ?_, fun q => ?_⟩]
    · rcases List.mem_cons.mp ((h f).mp (List.mem_cons_of_mem _ q)) with w | w
      · subst w; exact (lo2_irr (l1 _ q)).elim
      · exact w
    · rcases List.mem_cons.mp ((h f).mpr (List.mem_cons_of_mem _ q)) with w | w
      · subst w; exact (lo2_irr (m1 _ q)).elim
      · exact w
theorem lo2_snoc {l : List Fo} {x : Fo} (h : l.Pairwise lo2) (hx : ∀ f ∈ l, lo2 f x) : (l ++ [x]).Pairwise lo2 := by
  rw [List.pairwise_append]
  exact ⟨h, List.pairwise_singleton _ _, fun f hf y hy => by rw [List.mem_singleton.mp hy]; exact hx f hf⟩
theorem lclasses (n : Int) (h1 : -400 ≤ n) (h2 : n ≤ -3) (h3 : n % 4 < 2) (S : Store) : ∃ L : List Fo, ((∀ f, f ∈ L ↔ Gd n f) ∧ L.Pairwise lo2) ∧ L.length ≤ 400 ∧ call T G (k + 4) (Str.ofString "_law_classes") [.int n] S = .ok (.lv (L.map tF)) S := by
  obtain ⟨m, hm⟩ := Int.eq_ofNat_of_zero_le (show 0 ≤ (0 - n) / 3 by omega)
  obtain ⟨r, r1, r2, er⟩ := lroot (k := k + 2) m (by omega) S
  have r12 : r ≤ 11 := by
    apply Classical.byContradiction; intro q
    have : 12 * 12 ≤ r * r := Nat.mul_le_mul (by omega) (by omega)
    omega
  have st : ∀ L : List Fo, stills (L.map tF) = true := fun L => stills_all fun d hd => by
    obtain ⟨f, _, rfl⟩ := List.mem_map.mp hd
    rfl
  have main : WP (evSs (call T G (k + 3)) G f__law_classes.body ([D.int n].map some ++ List.replicate (f__law_classes.ns - f__law_classes.np) none) S) fun f' S' => ∃ L : List Fo, ((∀ f, f ∈ L ↔ Gd n f) ∧ L.Pairwise lo2) ∧ L.length ≤ 400 ∧ f' = .rt (.lo S.length) ∧ S' = S ++ [.lst (L.map tF)] := by
    have hs0 : (0 : Nat) ≤ sizeLine := by decide
    have hs3 : (3 : Nat) ≤ sizeLine := by decide
    have hz : (1000 : Nat) ≤ sizeLine := by decide
    have er' := er
    have hr : -2 ^ 62 ≤ (1 : Int) ∧ (1 : Int) < 2 ^ 62 ∧ -2 ^ 62 ≤ (r : Int) + 1 ∧ (r : Int) + 1 < 2 ^ 62 := by omega
    have d3 : divOk 3 = true := by decide +kernel
    have er2 : call T G (k + 3) (Str.ofString "_law_root") [.int (m : Int)] (S ++ [.lst []]) = .ok (.int (r : Int)) (S ++ [.lst []]) := by
      obtain ⟨r', q1, q2, e⟩ := lroot (k := k + 2) m (by omega) (S ++ [.lst []])
      have : r' = r := by
        apply Classical.byContradiction; intro ne
        rcases Nat.lt_or_gt_of_ne ne with l | g
        · have : (r' + 1) * (r' + 1) ≤ r * r := Nat.mul_le_mul (by omega) (by omega)
          omega
        · have : (r + 1) * (r + 1) ≤ r' * r' := Nat.mul_le_mul (by omega) (by omega)
          omega
      rw [← this]; exact e
    simp -implicitDefEqProofs only [f__law_classes, evSs, evS, evE, evB, evEs, evT, evTs, evI, evO, bindk_ok, ofO_some, List.map_cons, List.map_nil, List.replicate, List.cons_append, List.nil_append, List.getElem?_cons_zero, List.getElem?_cons_succ, List.set_cons_zero, List.set_cons_succ, Option.map, List.length_nil, hs0, if_true, bop_sub, bop_fdiv d3, hm, er2, bop_add]
    rw [if_pos hr, bindk_ok, wp_bind]
    have e0 : ((r : Int) + 1 - 1).toNat = r := by omega
    rw [e0]
    refine wp_forL (fun rest η S1 => ∃ (a : Nat) (L : List Fo) (x2 x3 x4 : Option D), 1 ≤ a ∧ a ≤ r + 1 ∧ rest = rng (a : Int) (r + 1 - a) ∧ ((∀ f ∈ L, Gd n f) ∧ L.Pairwise lo2 ∧ ∀ f ∈ L, f.a < a) ∧ (∀ f, Gd n f → f.a < a → f ∈ L) ∧ L.length ≤ 30 * (a - 1) ∧ S1 = S ++ [.lst (L.map tF)] ∧ η = [some (.int n), some (.lo S.length), x2, x3, x4]) ⟨1, [], none, none, none, by decide, by omega, rfl, ⟨fun _ h => (nomatch h), List.Pairwise.nil, fun _ h => (nomatch h)⟩, fun f h lt => by have := (gd_sm h).2.2.2.2.2.1; omega, by decide, rfl, rfl⟩ (fun _ _ _ _ => rfl) ?_ ?_
    · rintro d ds η S1 ⟨a, L, x2, x3, x4, a1, a2, hq, g1, g2, g3, rfl, rfl⟩
      have har : a ≤ r := by
        apply Classical.byContradiction; intro q
        have : r + 1 - a = 0 := by omega
        rw [this] at hq; cases hq
      obtain ⟨n', hn'⟩ : ∃ n', r + 1 - a = n' + 1 := ⟨r - a, by omega⟩
      rw [hn', rng_one] at hq
      cases hq
      have hr2 : -2 ^ 62 ≤ 0 - (a : Int) ∧ 0 - (a : Int) < 2 ^ 62 ∧ -2 ^ 62 ≤ (a : Int) + 1 ∧ (a : Int) + 1 < 2 ^ 62 := by omega
      simp -implicitDefEqProofs only [wp_ok, evSs, evS, evE, evB, evEs, evT, evTs, evI, evO, bindk_ok, ofO_some, List.map_cons, List.map_nil, List.replicate, List.cons_append, List.nil_append, List.getElem?_cons_zero, List.getElem?_cons_succ, List.set_cons_zero, List.set_cons_succ, Option.map, bop_sub, bop_add]
      rw [if_pos hr2, bindk_ok, wp_bind]
      have e1 : ((a : Int) + 1 - (0 - (a : Int))).toNat = 2 * a + 1 := by omega
      rw [e1]
      refine wp_forL (fun rest η S2 => ∃ (j : Nat) (L : List Fo) (x3 x4 : Option D), j ≤ 2 * a + 1 ∧ rest = rng (0 - (a : Int) + j) (2 * a + 1 - j) ∧ ((∀ f ∈ L, Gd n f) ∧ L.Pairwise lo2 ∧ ∀ f ∈ L, f.a < a ∨ f.a = a ∧ f.b < 0 - (a : Int) + j) ∧ (∀ f, Gd n f → (f.a < a ∨ f.a = a ∧ f.b < 0 - (a : Int) + j) → f ∈ L) ∧ L.length ≤ 30 * (a - 1) + j ∧ S2 = S ++ [.lst (L.map tF)] ∧ η = [some (.int n), some (.lo S.length), some (.int (a : Int)), x3, x4]) ⟨0, L, x3, x4, by omega, by rw [show (0 : Int) - (a : Int) + ((0 : Nat) : Int) = 0 - (a : Int) by omega]; rfl, ⟨g1.1, g1.2.1, fun f hf => .inl (g1.2.2 f hf)⟩, fun f h lt => ?_, by omega, rfl, rfl⟩ (fun _ _ _ _ => rfl) ?_ ?_
      · rcases lt with l | ⟨l1, l2⟩
        · exact g2 f h l
        · have := (gd_sm h).2.2.2.1
          omega
      · rintro d ds η S2 ⟨j, L, x3, x4, hj, hq, g1, g2, g3, rfl, rfl⟩
        have hja : j < 2 * a + 1 := by
          apply Classical.byContradiction; intro q
          have : 2 * a + 1 - j = 0 := by omega
          rw [this] at hq; cases hq
        obtain ⟨n2, hn2⟩ : ∃ n2, 2 * a + 1 - j = n2 + 1 := ⟨2 * a - j, by omega⟩
        rw [hn2, rng_one] at hq
        cases hq
        generalize hb : (0 : Int) - (a : Int) + (j : Int) = b at *
        have b1 : -(a : Int) ≤ b := by omega
        have b2 : b ≤ (a : Int) := by omega
        obtain ⟨s0, s1⟩ := sq_le b1 b2
        have s2 : (a : Int) * a ≤ 11 * 11 := Int.mul_le_mul (by omega) (by omega) (by omega) (by omega)
        have m1 : mulOk b b = true := mulOk_of (sml (by omega) (by omega)) (sml (by omega) (by omega))
        have m2 : mulOk 4 (a : Int) = true := mulOk_of (sml (by omega) (by omega)) (sml (by omega) (by omega))
        have p4 : (0 : Int) < 4 * (a : Int) := by omega
        have d4 : divOk (4 * (a : Int)) = true := divOk_of p4 (sml (by omega) (by omega))
        have next : 2 * a + 1 - (j + 1) = n2 := by omega
        have hb1 : (0 : Int) - (a : Int) + ((j + 1 : Nat) : Int) = b + 1 := by omega
        have one : ∀ f, Gd n f → f.a = a → f.b = b → (b * b - n) % (4 * (a : Int)) = 0 ∧ f = ⟨a, b, (b * b - n) / (4 * (a : Int))⟩ := fun f h q1 q2 => by
          obtain ⟨w1, w2⟩ := c_of h.d (gd_sm h).2.2.2.2.2.1
          rw [q1, q2] at w1 w2
          obtain ⟨fa, fb, fc⟩ := f
          simp only at q1 q2 w2
          exact ⟨w1, by rw [w2, q1, q2]⟩
        obtain ⟨g1, go, gl⟩ := g1
        have keep : (∀ f ∈ L, Gd n f) ∧ L.Pairwise lo2 ∧ ∀ f ∈ L, f.a < a ∨ f.a = a ∧ f.b < 0 - (a : Int) + ((j + 1 : Nat) : Int) := ⟨g1, go, fun f hf => by
          rw [hb1]
          have := gl f hf
          omega⟩
        by_cases c1 : (b * b - n) % (4 * (a : Int)) = 0
        · have z1 := decide_eq_true c1
          have dm := Int.mul_ediv_add_emod (b * b - n) (4 * (a : Int))
          have q0 : 0 ≤ (b * b - n) / (4 * (a : Int)) := Int.ediv_nonneg (by omega) (by omega)
          have ql : (b * b - n) / (4 * (a : Int)) ≤ b * b - n := Int.ediv_le_self _ (by omega)
          generalize hc : (b * b - n) / (4 * (a : Int)) = c at *
          have hd : dc ⟨a, b, c⟩ = n := by
            show b * b - 4 * (a : Int) * c = n
            omega
          have isf := lisForm (k := k) ⟨a, b, c⟩ (by show (1 : Int) ≤ (a : Int); omega) (by show (a : Int) ≤ 1000; omega) (by show b.natAbs ≤ 1000; omega) (by show c.natAbs ≤ 1000; omega) (by rw [hd]; exact h1) (by rw [hd]; exact h2) (by rw [hd]; exact h3) (S ++ [.lst (L.map tF)])
          have isr := lisRed (k := k + 2) ⟨a, b, c⟩ (by show (1 : Int) ≤ (a : Int); omega) (S ++ [.lst (L.map tF)])
          have isf : call T G (k + 3) (Str.ofString "_law_is_form") [.tup [.int (a : Int), .int b, .int c]] (S ++ [.lst (L.map tF)]) = .ok (.bl (decide (gc ⟨a, b, c⟩ = 1))) (S ++ [.lst (L.map tF)]) := isf
          have isr : call T G (k + 3) (Str.ofString "_law_is_reduced") [.tup [.int (a : Int), .int b, .int c]] (S ++ [.lst (L.map tF)]) = .ok (.bl (reB ⟨a, b, c⟩)) (S ++ [.lst (L.map tF)]) := isr
          have rest : ∀ L2 : List Fo, (∀ f ∈ L2, Gd n f) → (∀ f ∈ L, f ∈ L2) → (Gd n ⟨a, b, c⟩ → (⟨a, b, c⟩ : Fo) ∈ L2) → ∀ f, Gd n f → (f.a < a ∨ f.a = a ∧ f.b < 0 - (a : Int) + ((j + 1 : Nat) : Int)) → f ∈ L2 := fun L2 _ u1 u2 f h lt => by
            rw [hb1] at lt
            by_cases e : f.a = a ∧ f.b = b
            · obtain ⟨_, w⟩ := one f h e.1 e.2
              rw [w] at h ⊢
              exact u2 h
            · refine u1 f (g2 f h ?_)
              omega
          by_cases c2 : gc ⟨a, b, c⟩ = 1
          · have z2 := decide_eq_true c2
            rw [z2] at isf
            cases z3 : reB ⟨a, b, c⟩ with
            | true =>
              rw [z3] at isr
              have good : Gd n ⟨a, b, c⟩ := ⟨⟨⟨by show (1 : Int) ≤ (a : Int); omega, by rw [hd]; omega⟩, by rw [hd]; exact h1, by rw [hd]; exact h2, by rw [hd]; exact h3, c2⟩, reB_true.mp z3, hd⟩
              have ap : L.map tF ++ [D.tup [.int (a : Int), .int b, .int c]] = (L ++ [(⟨a, b, c⟩ : Fo)]).map tF := by rw [List.map_append]; rfl
              have lt : (L.map tF).length < sizeLine := by rw [List.length_map]; omega
              simp -implicitDefEqProofs only [wp_ok, evSs, evS, evE, evB, evEs, evT, evTs, evI, evO, bindk_ok, ofO_some, List.map_cons, List.map_nil, List.replicate, List.cons_append, List.nil_append, List.getElem?_cons_zero, List.getElem?_cons_succ, List.set_cons_zero, List.set_cons_succ, Option.map, bop_mul m1, bop_sub, bf_int, bop_mul m2, bop_mod p4, cop_eq, z1, tr_bl, if_true, bop_fdiv d4, hc, List.length_cons, List.length_nil, Nat.zero_add, Nat.reduceAdd, hs3, isf, isr, isLC, lastC, lt, setC, ap]
              unfold FQ
              refine ⟨j + 1, L ++ [(⟨a, b, c⟩ : Fo)], _, _, by omega, by rw [hb1, next], ⟨?_, lo2_snoc go fun f hf => ?_, fun f hf => ?_⟩, rest (L ++ [(⟨a, b, c⟩ : Fo)]) ?_ (fun f hf => List.mem_append_left _ hf) (fun _ => List.mem_append_right _ (List.mem_singleton.mpr rfl)), by rw [List.length_append, List.length_singleton]; omega, rfl, rfl⟩
              · intro f hf
                rcases List.mem_append.mp hf with q | q
                · exact g1 f q
                · rw [List.mem_singleton.mp q]; exact good
              · exact gl f hf
              · rcases List.mem_append.mp hf with q | q
                · exact keep.2.2 f q
                · rw [List.mem_singleton.mp q, hb1]
                  right
                  exact ⟨rfl, by show b < b + 1; omega⟩
              · intro f hf
                rcases List.mem_append.mp hf with q | q
                · exact g1 f q
                · rw [List.mem_singleton.mp q]; exact good
            | false =>
              rw [z3] at isr
              simp -implicitDefEqProofs only [wp_ok, evSs, evS, evE, evB, evEs, evT, evTs, evI, evO, bindk_ok, ofO_some, List.map_cons, List.map_nil, List.replicate, List.cons_append, List.nil_append, List.getElem?_cons_zero, List.getElem?_cons_succ, List.set_cons_zero, List.set_cons_succ, Option.map, bop_mul m1, bop_sub, bf_int, bop_mul m2, bop_mod p4, cop_eq, z1, tr_bl, if_true, bop_fdiv d4, hc, List.length_cons, List.length_nil, Nat.zero_add, Nat.reduceAdd, hs3, isf, isr, Bool.false_eq_true, if_false]
              unfold FQ
              refine ⟨j + 1, L, _, _, by omega, by rw [hb1, next], keep, rest _ g1 (fun f hf => hf) (fun h => ?_), by omega, rfl, rfl⟩
              rw [reB_true.mpr h.r] at z3; cases z3
          · have z2 := decide_eq_false c2
            rw [z2] at isf
            simp -implicitDefEqProofs only [wp_ok, evSs, evS, evE, evB, evEs, evT, evTs, evI, evO, bindk_ok, ofO_some, List.map_cons, List.map_nil, List.replicate, List.cons_append, List.nil_append, List.getElem?_cons_zero, List.getElem?_cons_succ, List.set_cons_zero, List.set_cons_succ, Option.map, bop_mul m1, bop_sub, bf_int, bop_mul m2, bop_mod p4, cop_eq, z1, tr_bl, if_true, bop_fdiv d4, hc, List.length_cons, List.length_nil, Nat.zero_add, Nat.reduceAdd, hs3, isf, Bool.false_eq_true, if_false]
            unfold FQ
            exact ⟨j + 1, L, _, _, by omega, by rw [hb1, next], keep, rest _ g1 (fun f hf => hf) (fun h => absurd h.g.g1 c2), by omega, rfl, rfl⟩
        · have z1 := decide_eq_false c1
          simp -implicitDefEqProofs only [wp_ok, evSs, evS, evE, evB, evEs, evT, evTs, evI, evO, bindk_ok, ofO_some, List.map_cons, List.map_nil, List.replicate, List.cons_append, List.nil_append, List.getElem?_cons_zero, List.getElem?_cons_succ, List.set_cons_zero, List.set_cons_succ, Option.map, bop_mul m1, bop_sub, bf_int, bop_mul m2, bop_mod p4, cop_eq, z1, tr_bl, Bool.false_eq_true, if_false]
          unfold FQ
          refine ⟨j + 1, L, _, _, by omega, by rw [hb1, next], keep, fun f h lt => ?_, by omega, rfl, rfl⟩
          rw [hb1] at lt
          by_cases e : f.a = a ∧ f.b = b
          · exact absurd (one f h e.1 e.2).1 c1
          · exact g2 f h (by omega)
      · rintro η S2 ⟨j, L, x3, x4, hj, hq, g1, g2, g3, rfl, rfl⟩
        have hja : j = 2 * a + 1 := by
          apply Classical.byContradiction; intro q
          obtain ⟨n2, hn2⟩ : ∃ n2, 2 * a + 1 - j = n2 + 1 := ⟨2 * a - j, by omega⟩
          rw [hn2, rng_one] at hq; cases hq
        simp -implicitDefEqProofs only [wp_ok, evSs, evS, evE, evB, evEs, evT, evTs, evI, evO, bindk_ok, ofO_some, List.map_cons, List.map_nil, List.replicate, List.cons_append, List.nil_append, List.getElem?_cons_zero, List.getElem?_cons_succ, List.set_cons_zero, List.set_cons_succ, Option.map]
        unfold FQ
        refine ⟨a + 1, L, _, _, _, by omega, by omega, by rw [show r + 1 - (a + 1) = n' by omega]; push_cast; rfl, ⟨g1.1, g1.2.1, fun f hf => ?_⟩, fun f h lt => g2 f h ?_, by omega, rfl, rfl⟩
        · have := g1.2.2 f hf
          omega
        · have := (gd_sm h).2.2.2.2.1
          omega
    · rintro η S1 ⟨a, L, x2, x3, x4, a1, a2, hq, g1, g2, g3, rfl, rfl⟩
      have har : a = r + 1 := by
        apply Classical.byContradiction; intro q
        obtain ⟨n', hn'⟩ : ∃ n', r + 1 - a = n' + 1 := ⟨r - a, by omega⟩
        rw [hn', rng_one] at hq; cases hq
      simp -implicitDefEqProofs only [wp_ok, evSs, evS, evE, evB, evEs, evT, evTs, evI, evO, bindk_ok, ofO_some, List.map_cons, List.map_nil, List.replicate, List.cons_append, List.nil_append, List.getElem?_cons_zero, List.getElem?_cons_succ, List.set_cons_zero, List.set_cons_succ, Option.map]
      refine ⟨L, ⟨fun f => ⟨g1.1 f, fun h => g2 f h ?_⟩, g1.2.1⟩, by omega, by first | rfl | trivial, by first | rfl | trivial⟩
      have q1 := (gd_sm h).2.2.1
      have q2 := (gd_sm h).2.2.2.2.2.1
      apply Classical.byContradiction; intro q
      have : (a : Int) * a ≤ f.a * f.a := Int.mul_le_mul (by omega) (by omega) (by omega) (by omega)
      have e : ((r : Int) + 1) * ((r : Int) + 1) = (((r + 1) * (r + 1) : Nat) : Int) := by push_cast; rfl
      rw [har] at this
      push_cast at this
      omega
  obtain ⟨f', S', e, L, g1, g2, rfl, rfl⟩ := main
  refine ⟨L, g1, g2, ?_⟩
  rw [call_eq T__law_classes rfl, e]
  show leave S (Res.ok (D.lo S.length) (S ++ [.lst (L.map tF)])) = _
  exact leave_new (X := []) (st L)
end K06

set_option Elab.async false
set_option linter.all false
set_option maxRecDepth 100000
set_option maxHeartbeats 4000000
namespace K06
open PySem PySem.Spec PyProof.Rows L2 Py Fm
variable {k : Nat}
def okD : D → Bool
  | .int i => decide (-400 ≤ i) && decide (i ≤ -3) && decide (i % 4 < 2)
  | _ => false
theorem okD_int {d : D} (h : okD d = true) : ∃ i : Int, d = .int i ∧ -400 ≤ i ∧ i ≤ -3 ∧ i % 4 < 2 := by
  cases d with
  | int i =>
    unfold okD at h
    simp only [Bool.and_eq_true, decide_eq_true_eq] at h
    exact ⟨i, rfl, h.1.1, h.1.2, h.2⟩
  | _ => cases h
def dSome : List D := [.int (-23), .int (-20), .int (-56), .int (-3), .int (-4), .int (-7), .int (-8), .int (-11), .int (-12), .int (-15), .int (-16), .int (-24), .int (-27), .int (-28), .int (-31), .int (-32), .int (-35), .int (-36), .int (-39), .int (-40), .int (-43), .int (-44)]
def dMore : List D := [.int (-47), .int (-48), .int (-55), .int (-63), .int (-68), .int (-71), .int (-75), .int (-80), .int (-84), .int (-87), .int (-95), .int (-96), .int (-99), .int (-104), .int (-108), .int (-119), .int (-120), .int (-128), .int (-144), .int (-163)]
def dGreat : List D := [.int (-168), .int (-180), .int (-195), .int (-200), .int (-231), .int (-239), .int (-240), .int (-260), .int (-264), .int (-311), .int (-312), .int (-340), .int (-372), .int (-384), .int (-399), .int (-400)]
theorem dAll : dSome.all okD = true ∧ dMore.all okD = true ∧ dGreat.all okD = true := by decide +kernel
theorem dDraw (S : Store) : True := trivial
def dNeg : D → D
  | .int i => .int (0 - i)
  | d => d
def dIn : D → Bool
  | .int i => decide (i % 4 = 0 ∨ i % 4 = 3)
  | _ => false
theorem inD_03 (S : Store) (r : Int) : cop S .inn (.int r) (.tup [.int 0, .int 3]) = some (decide (r = 0 ∨ r = 3)) := by
  show inD S (.int r) (.tup [.int 0, .int 3]) = _
  unfold inD
  simp [items, flatD, eqF]
  have e : ∀ a : Int, (a == r) = decide (r = a) := fun a => by
    by_cases h : a = r
    · rw [decide_eq_true h.symm, beq_iff_eq]; exact h
    · rw [decide_eq_false fun q => h q.symm]; exact beq_false_of_ne h
  rw [e, e]
theorem lDisc {n : Nat} {t : Int} (S : Store) (u : WellAt n S t) (ht : t < 10000000) : ∃ (i : Int) (S' : Store), -400 ≤ i ∧ i ≤ -3 ∧ i % 4 < 2 ∧ call T G (k + 3) (Str.ofString "_law_disc") [.lo n] S = .ok (.int i) S' ∧ Same n S S' ∧ WellAt n S' (t + 5) := by
  have hD : T (Str.ofString "_law_draw") = some fDraw := T__law_draw
  have hO : T (Str.ofString "_law_one") = some fOneW := T__law_one
  obtain ⟨f1, S1, a1, b1, e1, s1, u1⟩ := draw' (G := G) (k := k + 1) (b := 4) hD u (by omega) (by decide) (by decide)
  have fin : ∀ (i : Int) (S' : Store), Same n S S' → WellAt n S' (t + 5) → leave S (Res.ok (D.int i) S') = .ok (.int i) S' := fun i S' s w => by
    have := leave_well (S := S) (S' := S') (d := .int i) u.lt (by rw [s.1]; exact Nat.le_refl _) (fun i _ ne => s.2 i ne) w rfl
    rw [← s.1, List.take_length] at this
    exact this
  by_cases c : f1 = 0
  · have z := decide_eq_true c
    have hz : (1000 : Nat) ≤ sizeLine := by decide
    have hr : -2 ^ 62 ≤ (3 : Int) ∧ (3 : Int) < 2 ^ 62 ∧ -2 ^ 62 ≤ (401 : Int) ∧ (401 : Int) < 2 ^ 62 := by decide
    have p4 : (0 : Int) < 4 := by decide
    have key := comp_flt (g := guardOf .non S1) (asg := fun d => asgC [4] true [4] d (wipeD [some (.lo n), none, none, none, none] [4])) (t := evB (call T G (k + 2)) G (.val (.cmp .inn (.op .mod (.blt .int (.cons (.var 4) .nil)) (.int 4)) (.tup (.cons (.int 0) (.cons (.int 3) .nil))))))
      (e := evE (call T G (k + 2)) G (.op .sub (.int 0) (.var 4))) (S := S1) (fun _ => rfl) dIn dNeg (rng 3 398) (by rw [rng_length]; omega) (fun d hd => by
        obtain ⟨j, _, rfl⟩ := rng_ints _ _ d hd; rfl) (by
        intro d hd
        obtain ⟨j, hj, rfl⟩ := rng_ints _ _ d hd
        have hs2 : (2 : Nat) ≤ sizeLine := by decide
        refine ⟨[some (.lo n), none, none, none, some (.int (3 + (j : Int)))], rfl, fun acc => ⟨?_, fun _ => ?_⟩⟩
        · simp -implicitDefEqProofs only [evSs, evS, evE, evB, evEs, evT, evTs, evI, evO, bindk_ok, ofO_some, List.map_cons, List.map_nil, List.replicate, List.cons_append, List.nil_append, List.getElem?_cons_zero, List.getElem?_cons_succ, List.set_cons_zero, List.set_cons_succ, Option.map, bf_int, bop_mod p4, List.length_cons, List.length_nil, Nat.zero_add, Nat.reduceAdd, hs2, if_true, inD_03, tr_bl]
          rfl
        · simp -implicitDefEqProofs only [evSs, evS, evE, evB, evEs, evT, evTs, evI, evO, bindk_ok, ofO_some, List.map_cons, List.map_nil, List.replicate, List.cons_append, List.nil_append, List.getElem?_cons_zero, List.getElem?_cons_succ, List.set_cons_zero, List.set_cons_succ, Option.map, bop_sub]
          rfl)
    have len : 0 < (((rng 3 398).filter dIn).map dNeg).length := by
      have : rng 3 398 = .int 3 :: rng 4 397 := rfl
      rw [this, List.filter_cons_of_pos (by decide), List.map_cons, List.length_cons]
      omega
    have len2 : (((rng 3 398).filter dIn).map dNeg).length < 1073741824 := by
      rw [List.length_map]
      exact Nat.lt_of_le_of_lt (List.length_filter_le ..) (by rw [rng_length]; decide)
    have mem : ∀ d ∈ ((rng 3 398).filter dIn).map dNeg, ∃ i : Int, d = .int i ∧ -400 ≤ i ∧ i ≤ -3 ∧ i % 4 < 2 := fun d hd => by
      obtain ⟨e, he, rfl⟩ := List.mem_map.mp hd
      obtain ⟨h1, h2⟩ := List.mem_filter.mp he
      obtain ⟨j, hj, rfl⟩ := rng_ints _ _ e h1
      have h2 := of_decide_eq_true h2
      exact ⟨0 - (3 + (j : Int)), rfl, by omega, by omega, by omega⟩
    generalize hL : ((rng 3 398).filter dIn).map dNeg = L at *
    obtain ⟨d, S2, hd, e2, s2, u2⟩ := oneW_lv (G := G) (k := k) (ds := L) hD hO u1 (by omega) len len2 (stills_all fun d hd => by obtain ⟨i, rfl, _⟩ := mem d hd; rfl)
    obtain ⟨i, rfl, i1, i2, i3⟩ := mem d hd
    refine ⟨i, S2, i1, i2, i3, ?_, s1.trans s2, u2.mono (by omega)⟩
    rw [call_eq T__law_disc rfl]
    simp -implicitDefEqProofs only [evSs, evS, evE, evB, evEs, evT, evTs, evI, evO, bindk_ok, ofO_some, List.map_cons, List.map_nil, List.replicate, List.cons_append, List.nil_append, List.getElem?_cons_zero, List.getElem?_cons_succ, List.set_cons_zero, List.set_cons_succ, Option.map] at key
    simp -implicitDefEqProofs only [f__law_disc, evSs, evS, evE, evB, evEs, evT, evTs, evI, evO, bindk_ok, ofO_some, List.map_cons, List.map_nil, List.replicate, List.cons_append, List.nil_append, List.getElem?_cons_zero, List.getElem?_cons_succ, List.set_cons_zero, List.set_cons_succ, Option.map, e1, cop_eq, z, tr_bl, if_true]
    rw [if_pos hr, bindk_ok, show ((401 : Int) - 3).toNat = 398 from rfl, key]
    simp -implicitDefEqProofs only [evSs, evS, evE, evB, evEs, evT, evTs, evI, evO, bindk_ok, ofO_some, List.map_cons, List.map_nil, List.replicate, List.cons_append, List.nil_append, List.getElem?_cons_zero, List.getElem?_cons_succ, List.set_cons_zero, List.set_cons_succ, Option.map, e2]
    exact fin i S2 (s1.trans s2) (u2.mono (by omega))
  · have z := decide_eq_false c
    obtain ⟨f2, S2, a2, b2, e2, s2, u2⟩ := draw' (G := G) (k := k + 1) (b := 4) hD u1 (by omega) (by decide) (by decide)
    have pick : ∃ L : List D, atI [D.tup dSome, .tup dSome, .tup dMore, .tup dGreat] f2 = some (.tup L) ∧ L.all okD = true ∧ 0 < L.length ∧ L.length < 1073741824 := by
      obtain ⟨q1, q2, q3⟩ := dAll
      have : f2 = 0 ∨ f2 = 1 ∨ f2 = 2 ∨ f2 = 3 := by omega
      rcases this with rfl | rfl | rfl | rfl
      · exact ⟨dSome, rfl, q1, by decide, by decide⟩
      · exact ⟨dSome, rfl, q1, by decide, by decide⟩
      · exact ⟨dMore, rfl, q2, by decide, by decide⟩
      · exact ⟨dGreat, rfl, q3, by decide, by decide⟩
    obtain ⟨L, eL, aL, l1, l2⟩ := pick
    have mem : ∀ d ∈ L, ∃ i : Int, d = .int i ∧ -400 ≤ i ∧ i ≤ -3 ∧ i % 4 < 2 := fun d hd => okD_int (List.all_eq_true.mp aL d hd)
    obtain ⟨d, S3, hd, e3, s3, u3⟩ := oneW' (G := G) (k := k) (ds := L) hD hO u2 (by omega) l1 l2 (stills_all fun d hd => by obtain ⟨i, rfl, _⟩ := mem d hd; rfl)
    obtain ⟨i, rfl, i1, i2, i3⟩ := mem d hd
    refine ⟨i, S3, i1, i2, i3, ?_, (s1.trans s2).trans s3, u3.mono (by omega)⟩
    rw [call_eq T__law_disc rfl]
    have q22 : (22 : Nat) ≤ sizeLine := by decide
    have q20 : (20 : Nat) ≤ sizeLine := by decide
    have q16 : (16 : Nat) ≤ sizeLine := by decide
    have q4 : (4 : Nat) ≤ sizeLine := by decide
    have eL : atI [D.tup [.int (-23), .int (-20), .int (-56), .int (-3), .int (-4), .int (-7), .int (-8), .int (-11), .int (-12), .int (-15), .int (-16), .int (-24), .int (-27), .int (-28), .int (-31), .int (-32), .int (-35), .int (-36), .int (-39), .int (-40), .int (-43), .int (-44)], .tup [.int (-23), .int (-20), .int (-56), .int (-3), .int (-4), .int (-7), .int (-8), .int (-11), .int (-12), .int (-15), .int (-16), .int (-24), .int (-27), .int (-28), .int (-31), .int (-32), .int (-35), .int (-36), .int (-39), .int (-40), .int (-43), .int (-44)], .tup [.int (-47), .int (-48), .int (-55), .int (-63), .int (-68), .int (-71), .int (-75), .int (-80), .int (-84), .int (-87), .int (-95), .int (-96), .int (-99), .int (-104), .int (-108), .int (-119), .int (-120), .int (-128), .int (-144), .int (-163)], .tup [.int (-168), .int (-180), .int (-195), .int (-200), .int (-231), .int (-239), .int (-240), .int (-260), .int (-264), .int (-311), .int (-312), .int (-340), .int (-372), .int (-384), .int (-399), .int (-400)]] f2 = some (.tup L) := eL
    simp -implicitDefEqProofs only [f__law_disc, evSs, evS, evE, evB, evEs, evT, evTs, evI, evO, bindk_ok, ofO_some, List.map_cons, List.map_nil, List.replicate, List.cons_append, List.nil_append, List.getElem?_cons_zero, List.getElem?_cons_succ, List.set_cons_zero, List.set_cons_succ, Option.map, e1, cop_eq, z, tr_bl, Bool.false_eq_true, if_false, List.length_cons, List.length_nil, Nat.zero_add, Nat.reduceAdd, q22, q20, q16, q4, if_true, itm_tup, e2, Int.reduceNeg, eL, e3]
    exact fin i S3 ((s1.trans s2).trans s3) (u3.mono (by omega))
theorem sq_pos {x : Int} (h : x ≠ 0) : 0 < x * x := by
  rw [← Int.natAbs_mul_self]
  have : 0 < x.natAbs * x.natAbs := Nat.mul_pos (by omega) (by omega)
  omega
/-- a value of a form is above nought -/
theorem vl_pos {f : Fo} (h : Po f) {x y : Int} (hxy : x ≠ 0 ∨ y ≠ 0) : 1 ≤ vl f x y := by
  have h1 := h.a
  have hd := h.d
  have s0 : ∀ z : Int, 0 ≤ z * z := fun z => by rw [← Int.natAbs_mul_self]; exact Int.natCast_nonneg _
  have e : 4 * f.a * vl f x y = (2 * f.a * x + f.b * y) * (2 * f.a * x + f.b * y) + (-dc f) * (y * y) := by unfold vl dc; grind
  have q : 1 * (y * y) ≤ (-dc f) * (y * y) := Int.mul_le_mul_of_nonneg_right (by omega) (s0 y)
  have w := s0 (2 * f.a * x + f.b * y)
  have pos : 0 < 4 * f.a * vl f x y := by
    by_cases hy : y = 0
    · have hx : x ≠ 0 := by rcases hxy with h | h; exact h; exact absurd hy h
      subst hy
      rw [e, Int.mul_zero, Int.add_zero, Int.mul_zero, Int.mul_zero, Int.add_zero]
      have : 2 * f.a * x ≠ 0 := Int.mul_ne_zero (by omega) hx
      have := sq_pos this
      omega
    · have := sq_pos hy
      omega
  apply Classical.byContradiction
  intro c
  have : 4 * f.a * vl f x y ≤ 0 := Int.mul_nonpos_of_nonneg_of_nonpos (by omega) (by omega)
  omega
theorem ld_a {f : Fo} (h : Po f) {m : Ch} (hm : dt m = 1) : 1 ≤ (ld f m).a := by
  refine vl_pos h ?_
  apply Classical.byContradiction
  intro c
  have c1 : m.p = 0 := Classical.byContradiction fun q => c (.inl q)
  have c2 : m.r = 0 := Classical.byContradiction fun q => c (.inr q)
  unfold dt at hm
  rw [c1, c2] at hm
  simp at hm
theorem Gf.led {f : Fo} (h : Gf f) {m : Ch} (hm : dt m = 1) : Gf (Fm.ld f m) := h.ld hm (ld_a h.po hm)
theorem dc_led {f : Fo} {m : Ch} (hm : dt m = 1) : dc (ld f m) = dc f := by rw [dc_ld, hm, Int.mul_one, Int.mul_one]
end K06

set_option Elab.async false
set_option linter.all false
set_option maxRecDepth 100000
set_option maxHeartbeats 4000000
namespace K06
open PySem PySem.Spec PyProof.Rows L2 Py Fm
variable {k : Nat}
theorem bop_pow6 {S : Store} : bop S .pow (.int 10) (.int 6) = some (.int 1000000) := rfl
theorem bop_pow9 {S : Store} : bop S .pow (.int 10) (.int 9) = some (.int 1000000000) := rfl
theorem bop_pow10 {S : Store} : bop S .pow (.int 10) (.int 10) = some (.int 10000000000) := rfl
theorem big36 {i : Int} (h : i.natAbs ≤ 10000000007) : big 36 i := Nat.lt_of_le_of_lt h (by decide)
/-- a step of a drawn change -/
theorem step_of {s : Int} (hs : s.natAbs ≤ 10000000007) {d : D} (h : d ∈ [D.tup [.int 0, .int (-1), .int 1, .int 0], .tup [.int 1, .int s, .int 0, .int 1], .tup [.int 1, .int 0, .int s, .int 1]]) : ∃ m : Ch, d = tM m ∧ BC 36 m ∧ dt m = 1 := by
  have b0 := big_mono big_zero (show 1 ≤ 36 by decide)
  have b1 := big_mono big_one (show 1 ≤ 36 by decide)
  have bm := big_mono big_m1 (show 1 ≤ 36 by decide)
  simp only [List.mem_cons, List.not_mem_nil, or_false] at h
  rcases h with h | h | h
  · exact ⟨⟨0, -1, 1, 0⟩, h, ⟨b0, bm, b1, b0⟩, by decide⟩
  · exact ⟨⟨1, s, 0, 1⟩, h, ⟨b1, big36 hs, b0, b1⟩, by unfold dt; grind⟩
  · exact ⟨⟨1, 0, s, 1⟩, h, ⟨b1, b0, big36 hs, b1⟩, by unfold dt; grind⟩
theorem lChange {n : Nat} {t : Int} (most : Int) (h0 : 0 ≤ most) (h5 : most ≤ 5) (great : Bool) (S : Store) (u : WellAt n S t) (ht : t < 10000000) :
    ∃ (m : Ch) (S' : Store), BC 200 m ∧ dt m = 1 ∧ call T G (k + 3) (Str.ofString "_law_change") [.lo n, .int most, .bl great] S = .ok (tM m) S' ∧ Same n S S' ∧ WellAt n S' (t + 30) := by
  have hD : T (Str.ofString "_law_draw") = some fDraw := T__law_draw
  have hO : T (Str.ofString "_law_one") = some fOneW := T__law_one
  have main : WP (evSs (call T G (k + 2)) G f__law_change.body ([D.lo n, .int most, .bl great].map some ++ List.replicate (f__law_change.ns - f__law_change.np) none) S) fun f S' => ∃ m : Ch, BC 200 m ∧ dt m = 1 ∧ f = .rt (tM m) ∧ Same n S S' ∧ WellAt n S' (t + 30) := by
    have hs4 : (4 : Nat) ≤ sizeLine := by decide
    have hs3 : (3 : Nat) ≤ sizeLine := by decide
    obtain ⟨E, hE⟩ : ∃ E : IE, E = (.ifx (.val (.var 2)) (.call (Str.ofString "_law_draw") (.cons (.var 0) (.cons (.int 12) .nil))) (.int 12)) := ⟨_, rfl⟩
    obtain ⟨spot, S1, eE, s1, u1⟩ : ∃ (spot : Int) (S1 : Store), evE (call T G (k + 2)) G E [some (.lo n), some (.int most), some (.bl great), none, none, none, none] S = .ok (.int spot) S1 ∧ Same n S S1 ∧ WellAt n S1 (t + 1) := by
      subst hE
      cases great with
      | true =>
        obtain ⟨f1, S1, a1, b1, e1, s1, u1⟩ := draw' (G := G) (k := k + 1) (b := 12) hD u (by omega) (by decide) (by decide)
        refine ⟨f1, S1, ?_, s1, u1⟩
        simp -implicitDefEqProofs only [evSs, evS, evE, evB, evEs, evT, evTs, evI, evO, bindk_ok, ofO_some, List.map_cons, List.map_nil, List.replicate, List.cons_append, List.nil_append, List.getElem?_cons_zero, List.getElem?_cons_succ, List.set_cons_zero, List.set_cons_succ, Option.map, tr_bl, if_true, e1]
      | false =>
        refine ⟨12, S, ?_, Same.refl, u.mono (by omega)⟩
        simp -implicitDefEqProofs only [evSs, evS, evE, evB, evEs, evT, evTs, evI, evO, bindk_ok, ofO_some, List.map_cons, List.map_nil, List.replicate, List.cons_append, List.nil_append, List.getElem?_cons_zero, List.getElem?_cons_succ, List.set_cons_zero, List.set_cons_succ, Option.map, tr_bl, Bool.false_eq_true, if_false]
    obtain ⟨f2, S2, a2, b2, e2, s2, u2⟩ := draw' (G := G) (k := k + 1) (b := most + 1) hD u1 (by omega) (by omega) (by omega)
    have hr : -(2 ^ 62) ≤ f2 ∧ f2 < 2 ^ 62 := by omega
    unfold f__law_change
    rw [← hE]
    simp -implicitDefEqProofs only [evSs, evS, evE, evB, evEs, evT, evTs, evI, evO, bindk_ok, ofO_some, List.map_cons, List.map_nil, List.replicate, List.cons_append, List.nil_append, List.getElem?_cons_zero, List.getElem?_cons_succ, List.set_cons_zero, List.set_cons_succ, Option.map, List.length_cons, List.length_nil, Nat.zero_add, Nat.reduceAdd, hs4, if_true, eE, bop_add, e2, hr, and_self]
    rw [wp_bind]
    refine wp_forL (fun rest η S3 => ∃ (j : Nat) (m : Ch) (x5 x6 : Option D), j ≤ 5 ∧ rest.length + j = f2.toNat ∧ (∀ d ∈ rest, ∃ i, d = .int i) ∧ BC (1 + 37 * j) m ∧ dt m = 1 ∧ Same n S S3 ∧ WellAt n S3 (t + 2 + 3 * (j : Int)) ∧ η = [some (.lo n), some (.int most), some (.bl great), some (tM m), some (.int spot), x5, x6]) ⟨0, on, none, none, by decide, by rw [rng_length]; omega, fun d hd => ?_, BC.one, by unfold dt on; grind, s1.trans s2, u2.mono (by omega), rfl⟩ (fun _ _ _ _ => rfl) ?_ ?_
    · obtain ⟨i, _, rfl⟩ := rng_ints _ _ d hd
      exact ⟨_, rfl⟩
    · rintro d ds η S3 ⟨j, m, x5, x6, hj, hl, hi, bm, dm, s, u3, rfl⟩
      obtain ⟨i, rfl⟩ := hi d (List.mem_cons_self ..)
      rw [List.length_cons] at hl
      obtain ⟨f3, S4, a3, b3, e3, s3, u4⟩ := draw' (G := G) (k := k + 1) (b := 7) hD u3 (by omega) (by decide) (by decide)
      have hi' : ∀ d ∈ ds, ∃ i, d = .int i := fun d hd => hi d (List.mem_cons_of_mem _ hd)
      by_cases c : i = spot
      · have z := decide_eq_true c
        obtain ⟨d5, S5, m5, e5, s5, u5⟩ := oneW' (G := G) (k := k) (ds := [.int 1000000, .int (-1000000000), .int (10000000000 + 7)]) hD hO u4 (by omega) (by show 0 < 3; decide) (by show 3 < 1073741824; decide) rfl
        obtain ⟨st, rfl, hst⟩ : ∃ st : Int, d5 = .int st ∧ st.natAbs ≤ 10000000007 := by
          simp only [List.mem_cons, List.not_mem_nil, or_false] at m5
          rcases m5 with h | h | h
          · exact ⟨_, h, by decide⟩
          · exact ⟨_, h, by decide⟩
          · exact ⟨_, h, by decide⟩
        obtain ⟨d6, S6, m6, e6, s6, u6⟩ := oneW' (G := G) (k := k) (ds := [.tup [.int 0, .int (-1), .int 1, .int 0], .tup [.int 1, .int st, .int 0, .int 1], .tup [.int 1, .int 0, .int st, .int 1]]) hD hO u5 (by omega) (by show 0 < 3; decide) (by show 3 < 1073741824; decide) rfl
        obtain ⟨w, rfl, bw, dw⟩ := step_of hst m6
        have e7 := lboth (k := k + 1) m w (bm.mono (by omega)) (bw.mono (by decide)) S6
        simp -implicitDefEqProofs only [wp_ok, evSs, evS, evE, evB, evEs, evT, evTs, evI, evO, bindk_ok, ofO_some, List.map_cons, List.map_nil, List.replicate, List.cons_append, List.nil_append, List.getElem?_cons_zero, List.getElem?_cons_succ, List.set_cons_zero, List.set_cons_succ, Option.map, e3, bop_sub, cop_eq, z, tr_bl, if_true, bop_pow6, bop_pow9, bop_pow10, bop_add, List.length_cons, List.length_nil, Nat.zero_add, Nat.reduceAdd, hs3, hs4, Int.reduceNeg, e5, e6, e7]
        unfold FQ
        exact ⟨j + 1, af m w, _, _, by omega, by omega, hi', (bm.af bw).mono (by omega), by rw [dt_af, dm, dw]; rfl, ((s.trans s3).trans s5).trans s6, u6.mono (by push_cast; omega), rfl⟩
      · have z := decide_eq_false c
        obtain ⟨d6, S6, m6, e6, s6, u6⟩ := oneW' (G := G) (k := k) (ds := [.tup [.int 0, .int (-1), .int 1, .int 0], .tup [.int 1, .int (f3 - 3), .int 0, .int 1], .tup [.int 1, .int 0, .int (f3 - 3), .int 1]]) hD hO u4 (by omega) (by show 0 < 3; decide) (by show 3 < 1073741824; decide) rfl
        obtain ⟨w, rfl, bw, dw⟩ := step_of (show (f3 - 3).natAbs ≤ 10000000007 by omega) m6
        have e7 := lboth (k := k + 1) m w (bm.mono (by omega)) (bw.mono (by decide)) S6
        simp -implicitDefEqProofs only [wp_ok, evSs, evS, evE, evB, evEs, evT, evTs, evI, evO, bindk_ok, ofO_some, List.map_cons, List.map_nil, List.replicate, List.cons_append, List.nil_append, List.getElem?_cons_zero, List.getElem?_cons_succ, List.set_cons_zero, List.set_cons_succ, Option.map, e3, bop_sub, cop_eq, z, tr_bl, Bool.false_eq_true, if_false, if_true, List.length_cons, List.length_nil, Nat.zero_add, Nat.reduceAdd, hs3, hs4, Int.reduceNeg, e6, e7]
        unfold FQ
        exact ⟨j + 1, af m w, _, _, by omega, by omega, hi', (bm.af bw).mono (by omega), by rw [dt_af, dm, dw]; rfl, (s.trans s3).trans s6, u6.mono (by push_cast; omega), rfl⟩
    · rintro η S3 ⟨j, m, x5, x6, hj, hl, hi, bm, dm, s, u3, rfl⟩
      simp -implicitDefEqProofs only [wp_ok, evSs, evS, evE, evB, evEs, evT, evTs, evI, evO, bindk_ok, ofO_some, List.map_cons, List.map_nil, List.replicate, List.cons_append, List.nil_append, List.getElem?_cons_zero, List.getElem?_cons_succ, List.set_cons_zero, List.set_cons_succ, Option.map]
      exact ⟨m, bm.mono (by omega), dm, rfl, s, u3.mono (by omega)⟩
  obtain ⟨f, S', e, m, bm, dm, rfl, s, u'⟩ := main
  refine ⟨m, S', bm, dm, ?_, s, u'⟩
  rw [call_eq T__law_change rfl, e]
  have := leave_well (S := S) (S' := S') (d := tM m) u.lt (by rw [s.1]; exact Nat.le_refl _) (fun i _ ne => s.2 i ne) u' rfl
  rw [← s.1, List.take_length] at this
  exact this
theorem gd_big {n : Int} {f : Fo} (h : Gd n f) : BF' 8 f := by
  obtain ⟨h1, h2, h3, h4, h5, h6, h7⟩ := gd_sm h
  exact ⟨by unfold big; omega, by unfold big; omega, by unfold big; omega⟩
def fst (i : Int) : Fo := if i % 4 = 0 then ⟨1, 0, (0 - i) / 4⟩ else ⟨1, 1, (1 - i) / 4⟩
theorem gd_first (i : Int) (i1 : -400 ≤ i) (i2 : i ≤ -3) (i3 : i % 4 < 2) : Gd i (fst i) := by
  have o : ∀ b c : Int, gc ⟨1, b, c⟩ = 1 := fun b c => by show Nat.gcd 1 _ = 1; exact Nat.gcd_one_left _
  unfold fst
  by_cases c : i % 4 = 0
  · rw [if_pos c]
    have d : dc ⟨1, 0, (0 - i) / 4⟩ = i := by show (0 : Int) * 0 - 4 * 1 * ((0 - i) / 4) = i; omega
    exact ⟨⟨⟨by show (1 : Int) ≤ 1; decide, by rw [d]; omega⟩, by rw [d]; exact i1, by rw [d]; exact i2, by rw [d]; exact i3, o _ _⟩, ⟨by show -(1 : Int) < 0; decide, by show (0 : Int) ≤ 1; decide, by show (1 : Int) ≤ (0 - i) / 4; omega, .inr (by show (0 : Int) ≤ 0; decide)⟩, d⟩
  · rw [if_neg c]
    have d : dc ⟨1, 1, (1 - i) / 4⟩ = i := by show (1 : Int) * 1 - 4 * 1 * ((1 - i) / 4) = i; omega
    exact ⟨⟨⟨by show (1 : Int) ≤ 1; decide, by rw [d]; omega⟩, by rw [d]; exact i1, by rw [d]; exact i2, by rw [d]; exact i3, o _ _⟩, ⟨by show -(1 : Int) < 1; decide, by show (1 : Int) ≤ 1; decide, by show (1 : Int) ≤ (1 - i) / 4; omega, .inr (by show (0 : Int) ≤ 1; decide)⟩, d⟩
end K06

set_option Elab.async false
set_option linter.all false
set_option maxRecDepth 100000
set_option maxHeartbeats 4000000
namespace K06
open PySem PySem.Spec PyProof.Rows L2 Py Fm
variable {k : Nat}
def eqF' (f g : Fo) : Bool := decide (f.a = g.a) && (decide (f.b = g.b) && decide (f.c = g.c))
theorem eqF'_true {f g : Fo} : eqF' f g = true ↔ f = g := by
  obtain ⟨a, b, c⟩ := f
  obtain ⟨a', b', c'⟩ := g
  unfold eqF'
  simp only [Bool.and_eq_true, decide_eq_true_eq, Fo.mk.injEq]
theorem eqT (S : Store) (f g : Fo) : cop S .eq (tF f) (tF g) = some (eqF' f g) := by
  show eqP S (tF f) (tF g) = _
  have e : ∀ a b : Int, (a == b) = decide (a = b) := fun a b => by
    by_cases h : a = b
    · rw [decide_eq_true h, beq_iff_eq]; exact h
    · rw [decide_eq_false h]; exact beq_false_of_ne h
  unfold eqP deref tF toP toPs toP toPs toP toPs toP toPs
  unfold eqF'
  simp [e, SeqAt.shaped, PyData.eqv, PyData.eqvAll, PyData.canLay0, PyData.canLayAll0, PyData.depth, PyData.depthAll]
theorem neT (S : Store) (f g : Fo) : cop S .ne (tF f) (tF g) = some (!eqF' f g) := by
  have := eqT S f g
  show (eqP S (tF f) (tF g)).map (!·) = _
  rw [show eqP S (tF f) (tF g) = some (eqF' f g) from this]; rfl
def pF (f : Fo) : PyData := .tuple [.int f.a, .int f.b, .int f.c]
theorem toPs_map : ∀ L : List Fo, toPs (L.map tF) = some (L.map pF)
  | [] => rfl
  | f :: L => by
    rw [List.map_cons, List.map_cons]
    unfold toPs
    rw [toPs_map L]; rfl
theorem lay_map : ∀ L : List Fo, PyData.canLayAll0 (L.map pF) = true ∧ PyData.depthAll (L.map pF) ≤ 1
  | [] => by simp [PyData.canLayAll0, PyData.depthAll]
  | f :: L => by
    obtain ⟨h1, h2⟩ := lay_map L
    rw [List.map_cons]
    constructor
    · simp [PyData.canLayAll0, PyData.canLay0, pF, h1]
    · simp only [PyData.depthAll]
      have : (pF f).depth = 1 := by simp [pF, PyData.depth, PyData.depthAll]
      omega
theorem notin (S : Store) (f : Fo) (L : List Fo) (h : f ∈ L) : cop S .notin (tF f) (.lv (L.map tF)) = some false := by
  show (inD S (tF f) (.lv (L.map tF))).map (!·) = some false
  unfold inD
  have it : items S (.lv (L.map tF)) = some (L.map tF) := rfl
  have fl : flatD (tF f) = false := rfl
  have tp : toP (tF f) = some (pF f) := rfl
  rw [it, tp]
  dsimp only
  rw [toPs_map]
  simp only [fl, Bool.false_and, Bool.false_eq_true, if_false]
  obtain ⟨q1, q2⟩ := lay_map L
  have s1 : SeqAt.shaped (pF f) = true := by simp [SeqAt.shaped, pF, PyData.canLay0, PyData.canLayAll0, PyData.depth, PyData.depthAll]
  have s2 : SeqAt.shaped (.list (L.map pF)) = true := by
    unfold SeqAt.shaped
    simp only [PyData.canLay0, PyData.depth]
    rw [q1]
    simp
    omega
  have an : (L.map pF).any (fun z => PyData.eqv z (pF f)) = true := by
    rw [List.any_eq_true]
    exact ⟨pF f, List.mem_map.mpr ⟨f, h, rfl⟩, by simp [pF, PyData.eqv, PyData.eqvAll]⟩
  rw [s1, s2, an]; rfl
structure Gb (f : Fo) : Prop where
  g : Gf f
  b : BF' 1000 f
theorem red_gd {f : Fo} (h : Gf f) : Gd (dc f) (red f) := by
  obtain ⟨e, d, r, p⟩ := red_ok h.po
  refine ⟨?_, r, ?_⟩
  · rw [← e]; exact h.led d
  · rw [← e]; exact dc_led d
theorem way_b {f : Fo} (h : Gb f) : BC 506 (Fm.way f) := by
  obtain ⟨e, d, r, p⟩ := red_ok h.g.po
  obtain ⟨h1, h2, h3, h4⟩ := ch_bound h.g.po ⟨e, d⟩
  have gb := gd_big (red_gd h.g)
  have s0 : ∀ z : Int, 0 ≤ z * z := fun z => by rw [← Int.natAbs_mul_self]; exact Int.natCast_nonneg _
  have key : ∀ (x y z : Int), big 1000 y → big 8 z → x * x ≤ 4 * y * z → big 506 x := fun x y z hy hz h => by
    apply big_root
    refine big_mono (big_le (big_mul (big_mul big_four hy) hz) ?_) (by decide)
    have := s0 x
    omega
  exact ⟨key _ _ _ h.b.c gb.a h1, key _ _ _ h.b.c gb.c h3, key _ _ _ h.b.a gb.a h2, key _ _ _ h.b.a gb.c h4⟩
theorem within (n lo hi : Int) (S : Store) (h : lo ≤ n ∧ n ≤ hi) : call T G (k + 2) (Str.ofString "is_within") [.int n, .int lo, .int hi] S = .ok (.bl true) S := by
  rw [call_eq T_is_within rfl]
  have z1 := decide_eq_true h.1
  have z2 := decide_eq_true h.2
  simp -implicitDefEqProofs only [f_is_within, evSs, evS, evE, evB, evEs, evT, evTs, evI, evO, bindk_ok, ofO_some, List.map_cons, List.map_nil, List.replicate, List.cons_append, List.nil_append, List.getElem?_cons_zero, List.getElem?_cons_succ, List.set_cons_zero, List.set_cons_succ, Option.map, whole n S, tr_bl, if_true, cop_le, z1, z2]
  show leave S (Res.ok (D.bl true) S) = _
  exact leave_same rfl
theorem G_low : cons.lookup (Str.ofString "LOWEST") = some (.int (-400)) := by rfl
theorem G_high : cons.lookup (Str.ofString "HIGHEST") = some (.int (-3)) := by rfl
theorem inD_01 (S : Store) (r : Int) (h : r = 0 ∨ r = 1) : cop S .inn (.int r) (.tup [.int 0, .int 1]) = some true := by
  rcases h with rfl | rfl <;> rfl
theorem pisDisc (n : Int) (h1 : -400 ≤ n) (h2 : n ≤ -3) (h3 : n % 4 < 2) (S : Store) : call T G (k + 3) (Str.ofString "is_discriminant_by") [.int n] S = .ok (.bl true) S := by
  rw [call_eq T_is_discriminant_by rfl]
  have p4 : (0 : Int) < 4 := by decide
  have hs2 : (2 : Nat) ≤ sizeLine := by decide
  simp -implicitDefEqProofs only [f_is_discriminant_by, evSs, evS, evE, evB, evEs, evT, evTs, evI, evO, bindk_ok, ofO_some, List.map_cons, List.map_nil, List.replicate, List.cons_append, List.nil_append, List.getElem?_cons_zero, List.getElem?_cons_succ, List.set_cons_zero, List.set_cons_succ, Option.map, G_low, G_high, within (k := k) n (-400) (-3) S ⟨h1, h2⟩, if_true, bop_mod p4, List.length_cons, List.length_nil, Nat.zero_add, Nat.reduceAdd, hs2, inD_01 S (n % 4) (by omega)]
  show leave S (Res.ok (D.bl true) S) = _
  exact leave_same rfl
theorem awholes (f : Fo) (S : Store) : call T G (k + 2) (Str.ofString "are_wholes") [tF f, .int 3] S = .ok (.bl true) S := by
  rw [call_eq T_are_wholes rfl]
  have i1 : isiD "tuple" (tF f) = some true := by rfl
  have z := decide_eq_true (rfl : (3 : Int) = 3)
  have key := comp_map (g := guardOf (tF f) S) (asg := fun d => asgC [2] true [2] d (wipeD [some (tF f), some (.int 3), none] [2])) (t := evB (call T G (k + 1)) G .yes) (e := evE (call T G (k + 1)) G (.call (Str.ofString "is_whole") (.cons (.var 2) .nil))) (S := S)
    (fun _ => rfl) (fun d => .bl true) [.int f.a, .int f.b, .int f.c] (by show 3 ≤ sizeLine; decide) (fun _ _ => rfl) (by
      intro d hd
      have : ∃ n, d = .int n := by
        simp only [List.mem_cons, List.not_mem_nil, or_false] at hd
        rcases hd with h | h | h <;> exact ⟨_, h⟩
      obtain ⟨n, rfl⟩ := this
      refine ⟨[some (tF f), some (.int 3), some (.int n)], rfl, fun acc => ⟨rfl, ?_⟩⟩
      simp -implicitDefEqProofs only [evSs, evS, evE, evB, evEs, evT, evTs, evI, evO, bindk_ok, ofO_some, List.map_cons, List.map_nil, List.replicate, List.cons_append, List.nil_append, List.getElem?_cons_zero, List.getElem?_cons_succ, List.set_cons_zero, List.set_cons_succ, Option.map, whole n])
  have l2 : bf S .len [tF f] = some (.int 3) := rfl
  have it : items S (tF f) = some [.int f.a, .int f.b, .int f.c] := rfl
  simp -implicitDefEqProofs only [evSs, evS, evE, evB, evEs, evT, evTs, evI, evO, bindk_ok, ofO_some, List.map_cons, List.map_nil, List.replicate, List.cons_append, List.nil_append, List.getElem?_cons_zero, List.getElem?_cons_succ, List.set_cons_zero, List.set_cons_succ, Option.map] at key
  simp -implicitDefEqProofs only [f_are_wholes, evSs, evS, evE, evB, evEs, evT, evTs, evI, evO, bindk_ok, ofO_some, List.map_cons, List.map_nil, List.replicate, List.cons_append, List.nil_append, List.getElem?_cons_zero, List.getElem?_cons_succ, List.set_cons_zero, List.set_cons_succ, Option.map, i1, if_true, l2, cop_eq, z, decide_true, it]
  rw [key]
  have e : bf S .all [.lv [.bl true, .bl true, .bl true]] = some (.bl true) := lv1 (bs := [true, true, true]) rfl
  simp -implicitDefEqProofs only [evSs, evS, evE, evB, evEs, evT, evTs, evI, evO, bindk_ok, ofO_some, List.map_cons, List.map_nil, List.replicate, List.cons_append, List.nil_append, List.getElem?_cons_zero, List.getElem?_cons_succ, List.set_cons_zero, List.set_cons_succ, Option.map, e]
  show leave S (Res.ok (D.bl true) S) = _
  exact leave_same rfl
theorem bf_gcd {S : Store} {i j : Int} : bf S .gcd [.int i, .int j] = some (.int ((Nat.gcd i.natAbs j.natAbs : Nat) : Int)) := congrArg (fun x => x) rfl
theorem isFormed (f : Fo) (h : Gb f) (S : Store) : call T G (k + 4) (Str.ofString "is_formed") [tF f] S = .ok (.bl true) S := by
  have aw := awholes (k := k + 1) f S
  have ds := pdiscOf (k := k + 2) f (h.b.mono (by decide)) S
  have isd := pisDisc (k := k) (dc f) h.g.lo h.g.hi h.g.m4 S
  have it : items S (tF f) = some [.int f.a, .int f.b, .int f.c] := rfl
  have za := decide_eq_false (show ¬ f.a < 1 by have := h.g.po.a; omega)
  have eg : Nat.gcd (((Nat.gcd f.a.natAbs f.b.natAbs : Nat) : Int)).natAbs f.c.natAbs = 1 := by
    rw [Int.natAbs_natCast, Nat.gcd_assoc]; exact h.g.g1
  have z1 : ((1 : Nat) : Int) = 1 := rfl
  have z2 := decide_eq_true (rfl : (1 : Int) = 1)
  rw [call_eq T_is_formed rfl]
  simp -implicitDefEqProofs only [f_is_formed, evSs, evS, evE, evB, evEs, evT, evTs, evI, evO, bindk_ok, ofO_some, List.map_cons, List.map_nil, List.replicate, List.cons_append, List.nil_append, List.getElem?_cons_zero, List.getElem?_cons_succ, List.set_cons_zero, List.set_cons_succ, Option.map, aw, tr_bl, Bool.not_true, Bool.false_eq_true, if_false, it, at0, at1, at2, cop_lt, za, bf_gcd, eg, z1, cop_ne, z2, decide_true, ds, isd]
  show leave S (Res.ok (D.bl true) S) = _
  exact leave_same rfl
theorem checkForm (f : Fo) (h : Gb f) (S : Store) : call T G (k + 5) (Str.ofString "check_form") [tF f] S = .ok .non S := by
  rw [call_eq T_check_form rfl]
  simp -implicitDefEqProofs only [f_check_form, evSs, evS, evE, evB, evEs, evT, evTs, evI, evO, bindk_ok, ofO_some, List.map_cons, List.map_nil, List.replicate, List.cons_append, List.nil_append, List.getElem?_cons_zero, List.getElem?_cons_succ, List.set_cons_zero, List.set_cons_succ, Option.map, isFormed (k := k) f h S, tr_bl, Bool.not_true, Bool.false_eq_true, if_false]
  show leave S (Res.ok D.non S) = _
  exact leave_same rfl
end K06

set_option Elab.async false
set_option linter.all false
set_option maxRecDepth 100000
set_option maxHeartbeats 4000000
/-! Which numbers a form takes; a prime for each reduced form. -/
namespace Fm
def Pr (p : Nat) : Prop := 2 ≤ p ∧ ∀ d, 2 ≤ d → d * d ≤ p → p % d ≠ 0
def pl : List Nat → Nat
  | [] => 1
  | x :: l => x * pl l
def tk (f : Fo) (n : Int) : Prop := ∃ x y, vl f x y = n
def op (f : Fo) : Fo := ⟨f.a, -f.b, f.c⟩
theorem vl_ld (f : Fo) (m : Ch) (x y : Int) : vl (ld f m) x y = vl f (m.p * x + m.q * y) (m.r * x + m.s * y) := by
  unfold vl ld vl; grind
theorem tk_of_ld {f : Fo} {m : Ch} {n : Int} (h : tk (ld f m) n) : tk f n := by
  obtain ⟨x, y, e⟩ := h
  exact ⟨_, _, by rw [← vl_ld]; exact e⟩
theorem tk_ld {f : Fo} {m : Ch} {n : Int} (hm : dt m = 1) : tk (ld f m) n ↔ tk f n := by
  refine ⟨tk_of_ld, fun h => ?_⟩
  have e : ld (ld f m) (bk m) = f := by rw [← ld_af, (af_bk m hm).1, ld_on]
  rw [← e] at h
  exact tk_of_ld h
theorem tk_red {f : Fo} {n : Int} (h : Po f) : tk (red f) n ↔ tk f n := by
  obtain ⟨e, d, _, _⟩ := red_ok h
  rw [← e]
  exact tk_ld d
theorem tk_op {f : Fo} {n : Int} : tk (op f) n ↔ tk f n := by
  constructor
  · rintro ⟨x, y, e⟩
    refine ⟨x, -y, ?_⟩
    rw [← e]; unfold vl op; grind
  · rintro ⟨x, y, e⟩
    refine ⟨x, -y, ?_⟩
    rw [← e]; unfold vl op; grind
theorem vl_sq (f : Fo) (x y : Int) : (2 * f.a * x + f.b * y) * (2 * f.a * x + f.b * y) = 4 * f.a * vl f x y + dc f * (y * y) := by
  unfold vl dc; grind
theorem least_ex {P : Nat → Prop} (h : ∃ n, P n) : ∃ n, P n ∧ ∀ m, m < n → ¬ P m := by
  obtain ⟨n, hn⟩ := h
  induction n using Nat.strongRecOn with
  | _ n ih =>
    by_cases q : ∃ m, m < n ∧ P m
    · obtain ⟨m, hm, pm⟩ := q
      exact ih m hm pm
    · exact ⟨n, hn, fun m hm pm => q ⟨m, hm, pm⟩⟩
def tr (v : Nat) : Nat → Bool
  | 0 => true
  | k + 1 => (Nat.blt v ((k + 2) * (k + 2)) || !(Nat.beq (v % (k + 2)) 0)) && tr v k
def okv (n v : Nat) : Bool := Nat.ble v 600 && (Nat.ble 2 v && (!(Nat.beq (n % v) 0) && tr v 23))
def fx (n a b c y : Nat) : Nat → Nat → Bool
  | 0, _ => false
  | k + 1, x => okv n (a * x * x + c * y * y + b * x * y) || (okv n (a * x * x + c * y * y - b * x * y) || fx n a b c y k (x + 1))
def fy (n a b c : Nat) : Nat → Nat → Bool
  | 0, _ => false
  | k + 1, y => fx n a b c y 27 0 || fy n a b c k (y + 1)
def chk (n a b : Nat) : Bool := Nat.blt n 3 || (Nat.blt a b || (!(Nat.beq ((b * b + n) % (4 * a)) 0) || (Nat.blt ((b * b + n) / (4 * a)) a || (!(Nat.beq (Nat.gcd a (Nat.gcd b ((b * b + n) / (4 * a)))) 1) || fy n a b ((b * b + n) / (4 * a)) 8 0))))
def chkR (lo k : Nat) : Bool := (List.range k).all fun i => (List.range 12).all fun a => (List.range 12).all fun b => chk (lo + i) a b
theorem chk0 : chkR 0 29 = true := by decide +kernel
theorem chk1 : chkR 29 29 = true := by decide +kernel
theorem chk2 : chkR 58 29 = true := by decide +kernel
theorem chk3 : chkR 87 29 = true := by decide +kernel
theorem chk4 : chkR 116 29 = true := by decide +kernel
theorem chk5 : chkR 145 29 = true := by decide +kernel
theorem chk6 : chkR 174 29 = true := by decide +kernel
theorem chk7 : chkR 203 29 = true := by decide +kernel
theorem chk8 : chkR 232 29 = true := by decide +kernel
theorem chk9 : chkR 261 29 = true := by decide +kernel
theorem chk10 : chkR 290 29 = true := by decide +kernel
theorem chk11 : chkR 319 29 = true := by decide +kernel
theorem chk12 : chkR 348 29 = true := by decide +kernel
theorem chk13 : chkR 377 29 = true := by decide +kernel
theorem chkR_at {lo k : Nat} (h : chkR lo k = true) {n a b : Nat} (h1 : lo ≤ n) (h2 : n < lo + k) (ha : a ≤ 11) (hb : b ≤ 11) : chk n a b = true := by
  unfold chkR at h
  rw [List.all_eq_true] at h
  have h1' := h (n - lo) (List.mem_range.mpr (by omega))
  rw [List.all_eq_true] at h1'
  have h2' := h1' a (List.mem_range.mpr (by omega))
  rw [List.all_eq_true] at h2'
  have := h2' b (List.mem_range.mpr (by omega))
  rwa [show lo + (n - lo) = n by omega] at this
theorem tr_ok {v : Nat} : ∀ {k : Nat}, tr v k = true → ∀ d, 2 ≤ d → d ≤ k + 1 → d * d ≤ v → v % d ≠ 0
  | 0, _, d, h1, h2, _ => by omega
  | k + 1, h, d, h1, h2, h3 => by
    unfold tr at h
    rw [Bool.and_eq_true, Bool.or_eq_true] at h
    by_cases e : d = k + 2
    · subst e
      rcases h.1 with q | q
      · have := Nat.blt_eq.mp q
        omega
      · intro z
        rw [z] at q
        cases q
    · exact tr_ok h.2 d h1 (by omega) h3
theorem okv_ok {n v : Nat} (h : okv n v = true) : Pr v ∧ v ≤ 600 ∧ n % v ≠ 0 := by
  unfold okv at h
  simp only [Bool.and_eq_true, Bool.not_eq_true'] at h
  obtain ⟨h1, h2, h3, h4⟩ := h
  have b1 := Nat.le_of_ble_eq_true h1
  refine ⟨⟨Nat.le_of_ble_eq_true h2, fun d d2 dd => tr_ok h4 d d2 ?_ dd⟩, b1, fun z => ?_⟩
  · apply Classical.byContradiction; intro q
    have : 25 * 25 ≤ d * d := Nat.mul_le_mul (by omega) (by omega)
    omega
  · rw [z] at h3
    cases h3
def some' (n a b c : Nat) : Prop := ∃ p : Nat, Pr p ∧ p ≤ 600 ∧ n % p ≠ 0 ∧ ∃ x y : Nat, (p = a * x * x + c * y * y + b * x * y ∨ p + b * x * y = a * x * x + c * y * y)
theorem fx_ok {n a b c y : Nat} : ∀ {k x : Nat}, fx n a b c y k x = true → some' n a b c
  | 0, _, h => by cases h
  | k + 1, x, h => by
    unfold fx at h
    rw [Bool.or_eq_true, Bool.or_eq_true] at h
    rcases h with h | h | h
    · obtain ⟨h1, h2, h3⟩ := okv_ok h
      exact ⟨_, h1, h2, h3, x, y, .inl rfl⟩
    · obtain ⟨h1, h2, h3⟩ := okv_ok h
      have := h1.1
      exact ⟨_, h1, h2, h3, x, y, .inr (by omega)⟩
    · exact fx_ok h
theorem fy_ok {n a b c : Nat} : ∀ {k y : Nat}, fy n a b c k y = true → some' n a b c
  | 0, _, h => by cases h
  | k + 1, y, h => by
    unfold fy at h
    rw [Bool.or_eq_true] at h
    rcases h with h | h
    · exact fx_ok h
    · exact fy_ok h
theorem chk_at {n a b : Nat} (hn : n ≤ 400) (ha : a ≤ 11) (hb : b ≤ 11) : chk n a b = true := by
  by_cases c0 : n < 29
  · exact chkR_at chk0 (by omega) (by omega) ha hb
  by_cases c1 : n < 58
  · exact chkR_at chk1 (by omega) (by omega) ha hb
  by_cases c2 : n < 87
  · exact chkR_at chk2 (by omega) (by omega) ha hb
  by_cases c3 : n < 116
  · exact chkR_at chk3 (by omega) (by omega) ha hb
  by_cases c4 : n < 145
  · exact chkR_at chk4 (by omega) (by omega) ha hb
  by_cases c5 : n < 174
  · exact chkR_at chk5 (by omega) (by omega) ha hb
  by_cases c6 : n < 203
  · exact chkR_at chk6 (by omega) (by omega) ha hb
  by_cases c7 : n < 232
  · exact chkR_at chk7 (by omega) (by omega) ha hb
  by_cases c8 : n < 261
  · exact chkR_at chk8 (by omega) (by omega) ha hb
  by_cases c9 : n < 290
  · exact chkR_at chk9 (by omega) (by omega) ha hb
  by_cases c10 : n < 319
  · exact chkR_at chk10 (by omega) (by omega) ha hb
  by_cases c11 : n < 348
  · exact chkR_at chk11 (by omega) (by omega) ha hb
  by_cases c12 : n < 377
  · exact chkR_at chk12 (by omega) (by omega) ha hb
  exact chkR_at chk13 (by omega) (by omega) ha hb
/-- each reduced form takes a prime that does not divide its discriminant -/
theorem some_prime {f : Fo} (h1 : 1 ≤ f.a) (h2 : -f.a ≤ f.b) (h3 : f.b ≤ f.a) (h4 : f.a ≤ f.c) (h5 : f.a ≤ 11) (d1 : -400 ≤ dc f) (d2 : dc f ≤ -3) (hg : Nat.gcd f.a.natAbs (Nat.gcd f.b.natAbs f.c.natAbs) = 1) :
    ∃ p : Nat, Pr p ∧ p ≤ 600 ∧ dc f % (p : Int) ≠ 0 ∧ tk f (p : Int) := by
  have ea : ((f.a.natAbs : Nat) : Int) = f.a := by omega
  have ec : ((f.c.natAbs : Nat) : Int) = f.c := by omega
  have eb : ((f.b.natAbs : Nat) : Int) * f.b.natAbs = f.b * f.b := Int.natAbs_mul_self' f.b
  have en : (((dc f).natAbs : Nat) : Int) = -dc f := by omega
  have key : f.b.natAbs * f.b.natAbs + (dc f).natAbs = 4 * f.a.natAbs * f.c.natAbs := by
    have : ((f.b.natAbs * f.b.natAbs + (dc f).natAbs : Nat) : Int) = ((4 * f.a.natAbs * f.c.natAbs : Nat) : Int) := by
      push_cast
      rw [eb, en, ea, ec]
      unfold dc; grind
    exact_mod_cast this
  have ck := chk_at (n := (dc f).natAbs) (a := f.a.natAbs) (b := f.b.natAbs) (by omega) (by omega) (by omega)
  have a4 : 0 < 4 * f.a.natAbs := by omega
  have eq : (4 * f.a.natAbs * f.c.natAbs) / (4 * f.a.natAbs) = f.c.natAbs := Nat.mul_div_cancel_left _ a4
  have er : (4 * f.a.natAbs * f.c.natAbs) % (4 * f.a.natAbs) = 0 := Nat.mul_mod_right _ _
  unfold chk at ck
  rw [key, eq, er, hg] at ck
  simp only [Bool.or_eq_true, Nat.blt_eq, Bool.not_eq_true'] at ck
  have so : some' (dc f).natAbs f.a.natAbs f.b.natAbs f.c.natAbs := by
    rcases ck with q | q | q | q | q | q
    · omega
    · omega
    · cases q
    · omega
    · cases q
    · exact fy_ok q
  obtain ⟨p, p1, p2, p3, x, y, q⟩ := so
  refine ⟨p, p1, p2, ?_, ?_⟩
  · intro z
    apply p3
    have : (p : Int) ∣ dc f := Int.dvd_of_emod_eq_zero z
    have : p ∣ (dc f).natAbs := Int.ofNat_dvd_left.mp this
    exact Nat.mod_eq_zero_of_dvd this
  · have q' : (p : Int) = f.a * x * x + f.c * y * y + f.b.natAbs * x * y ∨ (p : Int) + f.b.natAbs * x * y = f.a * x * x + f.c * y * y := by
      rcases q with q | q
      · left; rw [q]; push_cast; rw [ea, ec]
      · right
        have : ((p + f.b.natAbs * x * y : Nat) : Int) = ((f.a.natAbs * x * x + f.c.natAbs * y * y : Nat) : Int) := by rw [q]
        push_cast at this
        rw [ea, ec] at this
        exact this
    rcases Int.natAbs_eq f.b with e | e
    · rcases q' with q | q
      · exact ⟨x, y, by unfold vl; rw [e]; grind⟩
      · exact ⟨x, -y, by unfold vl; rw [e]; grind⟩
    · rcases q' with q | q
      · exact ⟨x, -y, by unfold vl; rw [e]; grind⟩
      · exact ⟨x, y, by unfold vl; rw [e]; grind⟩
end Fm

set_option Elab.async false
set_option linter.all false
set_option maxRecDepth 100000
set_option maxHeartbeats 4000000
namespace K06
open PySem PySem.Spec PyProof.Rows L2 Py Fm
variable {k : Nat}
theorem mem_rng {d : D} : ∀ {n : Nat} {lo : Int}, d ∈ rng lo n → ∃ j : Nat, j < n ∧ d = .int (lo + j)
  | 0, _, h => by cases h
  | n + 1, lo, h => by
    rcases List.mem_cons.mp h with rfl | h
    · exact ⟨0, by omega, by rw [show lo + ((0 : Nat) : Int) = lo by omega]⟩
    · obtain ⟨j, hj, rfl⟩ := mem_rng h
      exact ⟨j + 1, by omega, by rw [show lo + 1 + (j : Int) = lo + ((j + 1 : Nat) : Int) by omega]⟩
theorem rng_mem : ∀ {n : Nat} {lo : Int} {j : Nat}, j < n → D.int (lo + j) ∈ rng lo n
  | 0, _, j, h => by omega
  | n + 1, lo, 0, _ => by rw [show lo + ((0 : Nat) : Int) = lo by omega]; exact List.mem_cons_self ..
  | n + 1, lo, j + 1, h => by
    rw [show lo + ((j + 1 : Nat) : Int) = lo + 1 + (j : Int) by omega]
    exact List.mem_cons_of_mem _ (rng_mem (by omega))
theorem rng_len : ∀ (n : Nat) (lo : Int), (rng lo n).length = n
  | 0, _ => rfl
  | n + 1, lo => congrArg (· + 1) (rng_len n (lo + 1))
theorem blsOf_map (f : D → Bool) : ∀ ds : List D, blsOf (ds.map fun d => .bl (f d)) = some (ds.map f)
  | [] => rfl
  | d :: ds => by
    show (blsOf (ds.map fun d => .bl (f d))).map (f d :: ·) = _
    rw [blsOf_map f ds]; rfl
theorem bf_sortL {S : Store} {d : D} {ds : List D} (h : lsOf S d = some ds) : bf S .sort [d] = (srtD ds).map .lv := by
  simp only [bf, h]
/-- forms that are not too great -/
structure Sf (n : Int) (f : Fo) : Prop where
  g : Gf f
  d : dc f = n
  sm : f.a ≤ 22000 ∧ -44000 ≤ f.b ∧ f.b ≤ 44000 ∧ f.c ≤ 22000 ∧ 1 ≤ f.a
theorem Sf.bf {n : Int} {f : Fo} (h : Sf n f) : BF' 16 f := by
  obtain ⟨s1, s2, s3, s4, s6⟩ := h.sm
  have := h.g.po.c
  exact ⟨show f.a.natAbs < 2 ^ 16 by omega, show f.b.natAbs < 2 ^ 16 by omega, show f.c.natAbs < 2 ^ 16 by omega⟩
theorem Sf.of {n : Int} {f : Fo} (h : Gd n f) : Sf n f := by
  obtain ⟨s1, s2, s3, s4, s5, s6, s7⟩ := gd_sm h
  exact ⟨h.g, h.d, by omega⟩
theorem nub_nd : ∀ l : List Int, (nub l).Nodup
  | [] => List.nodup_nil
  | x :: l => by
    unfold nub
    split
    · exact nub_nd l
    · rename_i h
      refine List.nodup_cons.mpr ⟨fun q => h ?_, nub_nd l⟩
      exact q
theorem snoc_nd {α : Type} {l : List α} {x : α} (h : l.Nodup) (hx : x ∉ l) : (l ++ [x]).Nodup := by
  rw [List.nodup_append]
  exact ⟨h, by simp, fun a ha b hb e => hx (by rw [← List.mem_singleton.mp hb, ← e]; exact ha)⟩
theorem sq_nn (x : Int) : 0 ≤ x * x := by rw [← Int.natAbs_mul_self]; exact Int.natCast_nonneg _
theorem sq_in {w r : Int} (r0 : 0 ≤ r) (h1 : -r ≤ w) (h2 : w ≤ r) : w * w ≤ r * r := by
  rcases Int.le_total 0 w with q | q
  · exact Int.mul_le_mul h2 h2 q r0
  · have h : -w ≤ r := by omega
    have := Int.mul_le_mul h h (by omega) r0
    rw [Int.neg_mul_neg] at this; exact this
theorem sq_out {w r : Int} (r0 : 0 ≤ r) (h : w ≤ -r ∨ r ≤ w) : r * r ≤ w * w := by
  rcases h with q | q
  · have h : r ≤ -w := by omega
    have := Int.mul_le_mul h h r0 (by omega)
    rw [Int.neg_mul_neg] at this; exact this
  · exact Int.mul_le_mul q q r0 (by omega)
theorem sq_lt {x y : Int} (hy : 0 ≤ y) (h : x * x ≤ y * y) : -y ≤ x ∧ x ≤ y := by
  constructor
  · apply Classical.byContradiction; intro q
    have h1 : (y + 1) * (y + 1) ≤ (-x) * (-x) := Int.mul_le_mul (by omega) (by omega) (by omega) (by omega)
    rw [Int.neg_mul_neg] at h1
    have e : (y + 1) * (y + 1) = y * y + 2 * y + 1 := by grind
    omega
  · apply Classical.byContradiction; intro q
    have h1 : (y + 1) * (y + 1) ≤ x * x := Int.mul_le_mul (by omega) (by omega) (by omega) (by omega)
    have e : (y + 1) * (y + 1) = y * y + 2 * y + 1 := by grind
    omega
/-- at which x a form has a value, y being given -/
theorem sols {f : Fo} (ha : 1 ≤ f.a) {N x y r : Int} (r0 : 0 ≤ r) (h1 : r * r ≤ 4 * f.a * N + dc f * (y * y)) (h2 : 4 * f.a * N + dc f * (y * y) < (r + 1) * (r + 1)) :
    vl f x y = N ↔ r * r = 4 * f.a * N + dc f * (y * y) ∧ (2 * f.a * x = -(f.b * y) - r ∨ 2 * f.a * x = r - f.b * y) := by
  have e := vl_sq f x y
  constructor
  · intro h
    rw [h] at e
    have b1 := sq_lt (x := 2 * f.a * x + f.b * y) (y := r) r0 (by
      rw [e]
      apply Classical.byContradiction; intro q
      have g1 : (r + 1) * (r + 1) ≤ (2 * f.a * x + f.b * y) * (2 * f.a * x + f.b * y) := by
        have c1 : -r > 2 * f.a * x + f.b * y ∨ 2 * f.a * x + f.b * y > r := by
          apply Classical.byContradiction; intro z
          have z1 : -r ≤ 2 * f.a * x + f.b * y ∧ 2 * f.a * x + f.b * y ≤ r := by omega
          have := sq_in r0 z1.1 z1.2
          rw [e] at this
          exact q this
        exact sq_out (by omega) (by omega)
      rw [e] at g1
      omega)
    have b2 := sq_lt (x := r) (y := (2 * f.a * x + f.b * y).natAbs) (by omega) (by
      rw [Int.natAbs_mul_self' (2 * f.a * x + f.b * y), e]; exact h1)
    have w : 2 * f.a * x + f.b * y = r ∨ 2 * f.a * x + f.b * y = -r := by omega
    refine ⟨?_, by omega⟩
    rw [← e]
    rcases w with w | w
    · rw [w]
    · rw [w, Int.neg_mul_neg]
  · rintro ⟨h, w⟩
    have : (2 * f.a * x + f.b * y) * (2 * f.a * x + f.b * y) = r * r := by
      rcases w with w | w
      · rw [show 2 * f.a * x + f.b * y = -r by omega, Int.neg_mul_neg]
      · rw [show 2 * f.a * x + f.b * y = r by omega]
    rw [this, h] at e
    have e2 : 4 * f.a * vl f x y = 4 * f.a * N := by omega
    exact Int.eq_of_mul_eq_mul_left (by omega) e2
theorem big_i {j : Nat} {i : Int} (h : i.natAbs < 2 ^ j) : big j i := h
theorem toI {f : Fo} {n : Int} (h : Sf n f) : big 15 f.a ∧ big 16 f.b ∧ big 9 n ∧ big 9 (dc f) ∧ -400 ≤ n ∧ n ≤ -3 := by
  obtain ⟨s1, s2, s3, s4, s6⟩ := h.sm
  have := h.g.lo
  have := h.g.hi
  have := h.d
  refine ⟨big_i (by omega), big_i (by omega), big_i (by omega), big_i (by omega), by omega, by omega⟩
/-- the bound of y -/
theorem ybound {f : Fo} {n N y : Int} (h : Sf n f) (hN : 0 ≤ N) {m : Int} (m0 : 0 ≤ m) (m1 : m * m ≤ 4 * f.a * N / (-n)) (m2 : 4 * f.a * N / (-n) < (m + 1) * (m + 1)) :
    (-m ≤ y ∧ y ≤ m → 0 ≤ 4 * f.a * N + dc f * (y * y)) ∧ (∀ x, vl f x y = N → -m ≤ y ∧ y ≤ m) := by
  obtain ⟨_, _, _, _, n1, n2⟩ := toI h
  have s : 0 < -n := by omega
  have d := h.d
  constructor
  · intro hy
    have g1 : y * y ≤ m * m := sq_in m0 hy.1 hy.2
    have g2 : y * y * -n ≤ 4 * f.a * N := (Int.le_ediv_iff_mul_le s).mp (by omega)
    rw [d]
    have : n * (y * y) = -(y * y * -n) := by grind
    omega
  · intro x hx
    have e := vl_sq f x y
    rw [hx, d] at e
    have p := sq_nn (2 * f.a * x + f.b * y)
    have g2 : y * y * -n ≤ 4 * f.a * N := by
      have : n * (y * y) = -(y * y * -n) := by grind
      omega
    have g3 : y * y ≤ 4 * f.a * N / (-n) := (Int.le_ediv_iff_mul_le s).mpr g2
    have g4 : y * y < (m + 1) * (m + 1) := by omega
    constructor
    · apply Classical.byContradiction; intro q
      have := sq_out (w := y) (r := m + 1) (by omega) (by omega)
      omega
    · apply Classical.byContradiction; intro q
      have := sq_out (w := y) (r := m + 1) (by omega) (by omega)
      omega
/-- pairs found so far -/
structure Prs (f : Fo) (N lo : Int) (j : Nat) (L : List (List Int)) : Prop where
  mem : ∀ l, l ∈ L ↔ ∃ x y, l = [x, y] ∧ vl f x y = N ∧ lo ≤ y ∧ y < lo + j
  len : L.length ≤ 2 * j
  nd : L.Nodup
theorem Prs.first (f : Fo) (N lo : Int) : Prs f N lo 0 [] := ⟨fun l => ⟨fun h => (nomatch h), fun ⟨x, y, _, _, h1, h2⟩ => by omega⟩, by simp, List.nodup_nil⟩
theorem Prs.none {f : Fo} {N lo : Int} {j : Nat} {L : List (List Int)} (h : Prs f N lo j L) (q : ∀ x, vl f x (lo + j) ≠ N) : Prs f N lo (j + 1) L := by
  refine ⟨fun l => ?_, by have := h.len; omega, h.nd⟩
  rw [h.mem l]
  constructor
  · rintro ⟨x, y, e, v, h1, h2⟩
    exact ⟨x, y, e, v, h1, by omega⟩
  · rintro ⟨x, y, e, v, h1, h2⟩
    by_cases c : y = lo + j
    · subst c; exact absurd v (q x)
    · exact ⟨x, y, e, v, h1, by omega⟩
theorem Prs.more {f : Fo} {N lo : Int} {j : Nat} {L M : List (List Int)} (h : Prs f N lo j L) (q : ∀ l, l ∈ M ↔ l ∈ L ∨ ∃ x, l = [x, lo + j] ∧ vl f x (lo + j) = N) (hl : M.length ≤ L.length + 2) (hd : M.Nodup) : Prs f N lo (j + 1) M := by
  refine ⟨fun l => ?_, by have := h.len; omega, hd⟩
  rw [q l, h.mem l]
  constructor
  · rintro (⟨x, y, e, v, h1, h2⟩ | ⟨x, e, v⟩)
    · exact ⟨x, y, e, v, h1, by omega⟩
    · exact ⟨x, _, e, v, by omega, by omega⟩
  · rintro ⟨x, y, e, v, h1, h2⟩
    by_cases c : y = lo + j
    · subst c; exact .inr ⟨x, e, v⟩
    · exact .inl ⟨x, y, e, v, h1, by omega⟩
theorem Prs.all {f : Fo} {n N m : Int} {j : Nat} {L : List (List Int)} (h : Prs f N (-m) j L) (hj : (j : Int) = m + 1 + m) (hb : ∀ x y, vl f x y = N → -m ≤ y ∧ y ≤ m) : ∀ l, l ∈ L ↔ ∃ x y, l = [x, y] ∧ vl f x y = N := by
  intro l
  rw [h.mem l]
  constructor
  · rintro ⟨x, y, e, v, _⟩
    exact ⟨x, y, e, v⟩
  · rintro ⟨x, y, e, v⟩
    have := hb x y v
    exact ⟨x, y, e, v, by omega, by omega⟩
theorem tk_still (L : List (List Int)) : stills (L.map tkD) = true := stills_all fun d hd => by
  obtain ⟨l, _, rfl⟩ := List.mem_map.mp hd
  exact stills_all (ds := l.map D.int) fun d hd => by
    obtain ⟨i, _, rfl⟩ := List.mem_map.mp hd; rfl
theorem intsOf_map : ∀ l : List Int, intsOf (l.map D.int) = some l
  | [] => rfl
  | i :: l => by
    show (intsOf (l.map D.int)).map (i :: ·) = _
    rw [intsOf_map l]; rfl
theorem tksOf_map : ∀ L : List (List Int), (∀ l ∈ L, l ≠ []) → tksOf (L.map tkD) = some L
  | [], _ => rfl
  | [] :: L, h => absurd rfl (h [] (List.mem_cons_self ..))
  | (i :: l) :: L, h => by
    show (match intsOf ((i :: l).map D.int), tksOf (L.map tkD) with
      | some (i :: is), some ks => some ((i :: is) :: ks)
      | _, _ => none) = _
    rw [intsOf_map, tksOf_map L fun l hl => h l (List.mem_cons_of_mem _ hl)]
theorem srt_tks (L : List (List Int)) (h : ∀ l ∈ L, l ≠ []) : srtD (L.map tkD) = some ((isort HT.lexLt L).map tkD) := by
  unfold srtD
  cases L with
  | nil => rfl
  | cons l L =>
    have : intsOf ((l :: L).map tkD) = none := rfl
    rw [this, tksOf_map _ h]; rfl
theorem rng_succ {m : Int} {j : Nat} {d : D} {ds : List D} {lo : Int} {n : Nat} (hj : j ≤ n) (hq : d :: ds = rng (lo + j) (n - j)) : j < n ∧ d = .int (lo + j) ∧ ds = rng (lo + (j + 1 : Nat)) (n - (j + 1)) := by
  have h : j < n := by
    apply Classical.byContradiction; intro q
    rw [show n - j = 0 by omega] at hq; cases hq
  rw [show n - j = (n - (j + 1)) + 1 by omega, rng_one] at hq
  injection hq with h1 h2
  refine ⟨h, h1, ?_⟩
  rw [h2, show lo + (j : Int) + 1 = lo + ((j + 1 : Nat) : Int) by omega]
theorem mod_top {a t y : Int} (ha : 1 ≤ a) : (∃ x, 2 * a * x = t) ↔ t % (2 * a) = 0 := by
  constructor
  · rintro ⟨x, rfl⟩; exact Int.mul_emod_right _ _
  · intro h; exact ⟨t / (2 * a), Int.mul_ediv_cancel' (Int.dvd_of_emod_eq_zero h)⟩
theorem nub_len : ∀ l : List Int, (nub l).length ≤ l.length
  | [] => Nat.le_refl _
  | x :: l => by
    have := nub_len l
    unfold nub
    split
    · rw [List.length_cons]; omega
    · rw [List.length_cons, List.length_cons]; omega
theorem lsolutions {n : Int} (f : Fo) (h : Sf n f) (N : Nat) (hN : N ≤ 10000) (S : Store) : ∃ L : List (List Int), (L.Nodup ∧ isort HT.lexLt L = L) ∧ (∀ l, l ∈ L ↔ ∃ x y, l = [x, y] ∧ vl f x y = N) ∧ call T G (k + 2) (Str.ofString "_law_solutions") [tF f, .int (N : Int)] S = .ok (.lv (L.map tkD)) S := by
  obtain ⟨ba, bb, bn, bD, n1, n2⟩ := toI h
  obtain ⟨s1, s2, s3, s4, s6⟩ := h.sm
  have d := h.d
  have bN : big 14 (N : Int) := big_i (by omega)
  have hz : (200000 : Nat) ≤ sizeLine := by decide
  have hs0 : (0 : Nat) ≤ sizeLine := by decide
  have hs2 : (2 : Nat) ≤ sizeLine := by decide
  have bf3 : BF' 3000 f := h.bf.mono (by decide)
  have aN : 0 ≤ 4 * f.a * (N : Int) ∧ 4 * f.a * (N : Int) ≤ 880000000 := by
    have e1 : 4 * f.a * (N : Int) ≤ 88000 * 10000 := Int.mul_le_mul (by omega) (by omega) (by omega) (by omega)
    exact ⟨Int.mul_nonneg (by omega) (by omega), by omega⟩
  have hq0 : 0 ≤ 4 * f.a * (N : Int) / (0 - n) := Int.ediv_nonneg aN.1 (by omega)
  have hq1 : 4 * f.a * (N : Int) / (0 - n) ≤ 880000000 := by
    have := Int.ediv_le_self (0 - n) aN.1
    omega
  obtain ⟨q, hq⟩ := Int.eq_ofNat_of_zero_le hq0
  obtain ⟨m, m1, m2, em⟩ := lroot (k := k) q (by omega) (S ++ [.lst []])
  have m700 : m ≤ 29664 := by
    apply Classical.byContradiction; intro z
    have : 29665 * 29665 ≤ m * m := Nat.mul_le_mul (by omega) (by omega)
    omega
  have mm1 : (m : Int) * m ≤ 4 * f.a * N / (-n) := by rw [show -n = 0 - n by omega, hq]; exact_mod_cast m1
  have mm2 : 4 * f.a * N / (-n) < ((m : Int) + 1) * (m + 1) := by rw [show -n = 0 - n by omega, hq]; exact_mod_cast m2
  have yb := fun y => ybound (y := y) h (show 0 ≤ (N : Int) by omega) (show 0 ≤ (m : Int) by omega) mm1 mm2
  have main : WP (evSs (call T G (k + 1)) G f__law_solutions.body ([tF f, D.int (N : Int)].map some ++ List.replicate (f__law_solutions.ns - f__law_solutions.np) none) S) fun f' S' => ∃ L M : List (List Int), (L.Nodup ∧ isort HT.lexLt L = L) ∧ (∀ l, l ∈ L ↔ ∃ x y, l = [x, y] ∧ vl f x y = N) ∧ f' = .rt (.lv (L.map tkD)) ∧ S' = S ++ [.lst (M.map tkD)] := by
    have it : ∀ S, items S (tF f) = some [.int f.a, .int f.b, .int f.c] := fun _ => rfl
    have k1 : mulOk 4 f.a = true := mulOk_big big_four ba (by decide)
    have k2 : mulOk (4 * f.a) (N : Int) = true := mulOk_big (big_mul big_four ba) bN (by decide)
    have dd : divOk (0 - n) = true := divOk_of (by omega) (sml (by omega) (by omega))
    have hr : -2 ^ 62 ≤ 0 - (m : Int) ∧ 0 - (m : Int) < 2 ^ 62 ∧ -2 ^ 62 ≤ (m : Int) + 1 ∧ (m : Int) + 1 < 2 ^ 62 := by omega
    have e0 : ((m : Int) + 1 - (0 - (m : Int))).toNat = 2 * m + 1 := by omega
    have ldo := fun S => ldiscOf (k := k) f bf3 S
    rw [d] at ldo
    simp -implicitDefEqProofs only [f__law_solutions, evSs, evS, evE, evB, evEs, evT, evTs, evI, evO, bindk_ok, ofO_some, List.map_cons, List.map_nil, List.replicate, List.cons_append, List.nil_append, List.getElem?_cons_zero, List.getElem?_cons_succ, List.set_cons_zero, List.set_cons_succ, Option.map, List.length_nil, hs0, if_true, it, at0, at1, bop_mul k1, bop_mul k2, ldo, bop_sub, bop_fdiv dd, hq, em, bop_add]
    rw [if_pos hr, bindk_ok, wp_bind, e0]
    refine wp_forL (fun rest η S1 => ∃ (j : Nat) (L : List (List Int)) (x6 x7 x8 x9 : Option D), j ≤ 2 * m + 1 ∧ rest = rng (-(m : Int) + j) (2 * m + 1 - j) ∧ Prs f N (-(m : Int)) j L ∧ S1 = S ++ [.lst (L.map tkD)] ∧
      η = [some (tF f), some (.int (N : Int)), some (.lo S.length), some (.int f.a), some (.int f.b), some (.int (m : Int)), x6, x7, x8, x9])
      ⟨0, [], none, none, none, none, by omega, by rw [show 0 - (m : Int) = -(m : Int) + ((0 : Nat) : Int) by omega]; rfl, Prs.first .., rfl, rfl⟩ (fun _ _ _ _ => rfl) ?_ ?_
    · rintro t ts η S1 ⟨j, L, x6, x7, x8, x9, hj, hrest, P, rfl, rfl⟩
      obtain ⟨j1, rfl, rfl⟩ := rng_succ (m := m) hj hrest
      generalize hy : -(m : Int) + (j : Int) = y at *
      have y1 : -(m : Int) ≤ y ∧ y ≤ m := by omega
      have by' : big 15 y := big_i (by omega)
      have c1 : mulOk n y = true := mulOk_big bn by' (by decide)
      have c2 : mulOk (n * y) y = true := mulOk_big (big_mul bn by') by' (by decide)
      have sq0 := (yb y).1 y1
      have esq : n * y * y + 4 * f.a * (N : Int) = 4 * f.a * (N : Int) + dc f * (y * y) := by rw [d]; grind
      have sq1 : 4 * f.a * (N : Int) + dc f * (y * y) ≤ 880000000 := by
        rw [d]
        have := sq_nn y
        have : n * (y * y) ≤ 0 := Int.mul_nonpos_of_nonpos_of_nonneg (by omega) this
        omega
      obtain ⟨w, hw⟩ := Int.eq_ofNat_of_zero_le sq0
      obtain ⟨r, r1, r2, er⟩ := lroot (k := k) w (by omega) (S ++ [.lst (L.map tkD)])
      have r700 : r ≤ 29664 := by
        apply Classical.byContradiction; intro z
        have : 29665 * 29665 ≤ r * r := Nat.mul_le_mul (by omega) (by omega)
        omega
      have br : big 15 (r : Int) := big_i (by omega)
      have c3 : mulOk (r : Int) (r : Int) = true := mulOk_big br br (by decide)
      have rr1 : (r : Int) * r ≤ 4 * f.a * N + dc f * (y * y) := by rw [hw]; exact_mod_cast r1
      have rr2 : 4 * f.a * N + dc f * (y * y) < ((r : Int) + 1) * (r + 1) := by rw [hw]; exact_mod_cast r2
      have sl := fun x => sols (x := x) (y := y) (N := N) s6 (show 0 ≤ (r : Int) by omega) rr1 rr2
      simp -implicitDefEqProofs only [wp_ok, evSs, evS, evE, evB, evEs, evT, evTs, evI, evO, bindk_ok, ofO_some, List.map_cons, List.map_nil, List.replicate, List.cons_append, List.nil_append, List.getElem?_cons_zero, List.getElem?_cons_succ, List.set_cons_zero, List.set_cons_succ, Option.map, ldo, bop_mul c1, bop_mul c2, bop_mul k1, bop_mul k2, bop_add, esq, hw, er, bop_mul c3, cop_eq, tr_bl]
      by_cases c : (r : Int) * r = (w : Int)
      · have z := decide_eq_true c
        have c4 : mulOk f.b y = true := mulOk_big bb by' (by decide)
        have li : ∀ S x y, (lsOf S (.lv [D.int x, .int y])).bind intsOf = some [x, y] := fun _ _ _ => rfl
        simp -implicitDefEqProofs only [z, if_true, evSs, evS, evE, evB, evEs, evT, evTs, evI, evO, bindk_ok, ofO_some, List.map_cons, List.map_nil, List.replicate, List.cons_append, List.nil_append, List.getElem?_cons_zero, List.getElem?_cons_succ, List.set_cons_zero, List.set_cons_succ, Option.map, bop_mul c4, bop_sub, List.length_cons, List.length_nil, Nat.zero_add, Nat.reduceAdd, hs2, Bool.false_eq_true, if_false, li]
        have l64' : (2 : Nat) < 64 := by decide
        simp -implicitDefEqProofs only [l64', if_true, evSs, evS, evE, evB, evEs, evT, evTs, evI, evO, bindk_ok, ofO_some, List.map_cons, List.map_nil, List.replicate, List.cons_append, List.nil_append, List.getElem?_cons_zero, List.getElem?_cons_succ, List.set_cons_zero, List.set_cons_succ, Option.map]
        have its : ∀ (S : Store) (ds : List D), items S (.lv ds) = some ds := fun _ _ => rfl
        simp -implicitDefEqProofs only [its, evSs, evS, evE, evB, evEs, evT, evTs, evI, evO, bindk_ok, ofO_some, List.map_cons, List.map_nil, List.replicate, List.cons_append, List.nil_append, List.getElem?_cons_zero, List.getElem?_cons_succ, List.set_cons_zero, List.set_cons_succ, Option.map]
        repeat rw [wp_bind]
        have sm : ∀ t, t ∈ sset [0 - f.b * y - (r : Int), (r : Int) - f.b * y] ↔ t = 0 - f.b * y - (r : Int) ∨ t = (r : Int) - f.b * y := fun t => by
          rw [sset_mem, List.mem_cons, List.mem_singleton]
        have snd : (sset [0 - f.b * y - (r : Int), (r : Int) - f.b * y]).Nodup := by unfold sset; exact (isort_perm ltI _).nodup_iff.mpr (nub_nd _)
        have sl2 : (sset [0 - f.b * y - (r : Int), (r : Int) - f.b * y]).length ≤ 2 := by
          unfold sset
          rw [(isort_perm ltI _).length_eq]
          exact nub_len [0 - f.b * y - (r : Int), (r : Int) - f.b * y]
        generalize hT : sset [0 - f.b * y - (r : Int), (r : Int) - f.b * y] = tops at *
        refine wp_forL (fun rest η S1 => ∃ (pre us : List Int) (M : List (List Int)) (x9 : Option D), tops = pre ++ us ∧ rest = us.map .int ∧ (∀ l, l ∈ M ↔ l ∈ L ∨ ∃ x, l = [x, y] ∧ 2 * f.a * x ∈ pre) ∧ M.length ≤ L.length + pre.length ∧ M.Nodup ∧ S1 = S ++ [.lst (M.map tkD)] ∧
          η = [some (tF f), some (.int (N : Int)), some (.lo S.length), some (.int f.a), some (.int f.b), some (.int (m : Int)), some (.int y), some (.int (w : Int)), some (.int (r : Int)), x9])
          ⟨[], tops, L, x9, rfl, rfl, fun l => by simp, by simp, P.nd, rfl, rfl⟩ (fun _ _ _ _ => rfl) ?_ ?_
        · rintro t ts η S1 ⟨pre, us, M, x9, hp, hr2, hM, hl, hMd, rfl, rfl⟩
          cases us with
          | nil => cases hr2
          | cons u us =>
            cases hr2
            have c5 : mulOk 2 f.a = true := mulOk_big big_two ba (by decide)
            have p2 : (0 : Int) < 2 * f.a := by omega
            have d2 : divOk (2 * f.a) = true := divOk_of p2 (sml (by omega) (by omega))
            have hl2 : pre.length + (u :: us).length ≤ 2 := by rw [← List.length_append, ← hp]; exact sl2
            have hp' : tops = (pre ++ [u]) ++ us := by rw [hp, List.append_assoc]; rfl
            by_cases e : u % (2 * f.a) = 0
            · have z2 := decide_eq_true e
              have ll : (M.map tkD).length < sizeLine := by
                rw [List.length_map]
                have := P.len
                rw [List.length_cons] at hl2
                omega
              simp -implicitDefEqProofs only [wp_ok, evSs, evS, evE, evB, evEs, evT, evTs, evI, evO, bindk_ok, ofO_some, List.map_cons, List.map_nil, List.replicate, List.cons_append, List.nil_append, List.getElem?_cons_zero, List.getElem?_cons_succ, List.set_cons_zero, List.set_cons_succ, Option.map, bf_int, bop_mul c5, bop_mod p2, cop_eq, z2, tr_bl, if_true, isLC, lastC, ll, setC, bop_fdiv d2, List.length_cons, List.length_nil, Nat.zero_add, Nat.reduceAdd, hs2]
              unfold FQ
              have hx : 2 * f.a * (u / (2 * f.a)) = u := Int.mul_ediv_cancel' (Int.dvd_of_emod_eq_zero e)
              refine ⟨pre ++ [u], us, M ++ [[u / (2 * f.a), y]], _, hp', rfl, fun l => ?_, by simp; omega, snoc_nd hMd fun q => ?_, by rw [List.map_append]; rfl, rfl⟩
              rw [List.mem_append, hM l, List.mem_singleton]
              constructor
              · rintro ((h1 | ⟨x, h1, h2⟩) | h1)
                · exact .inl h1
                · exact .inr ⟨x, h1, List.mem_append_left _ h2⟩
                · exact .inr ⟨_, h1, by rw [hx]; exact List.mem_append_right _ (List.mem_singleton.mpr rfl)⟩
              · rintro (h1 | ⟨x, h1, h2⟩)
                · exact .inl (.inl h1)
                · rcases List.mem_append.mp h2 with h2 | h2
                  · exact .inl (.inr ⟨x, h1, h2⟩)
                  · right
                    rw [h1]
                    have : x = u / (2 * f.a) := Int.eq_of_mul_eq_mul_left (show 2 * f.a ≠ 0 by omega) (by rw [hx]; exact List.mem_singleton.mp h2)
                    rw [this]
              · rcases (hM _).mp q with q1 | ⟨x, q1, q2⟩
                · obtain ⟨x', y', e1, _, _, e4⟩ := (P.mem _).mp q1
                  injection e1 with e1 e2; injection e2 with e2 _
                  omega
                · injection q1 with q1 _
                  rw [← q1, hx] at q2
                  rw [hp] at snd
                  exact (List.nodup_append.mp snd).2.2 u q2 u (List.mem_cons_self ..) rfl
            · have z2 := decide_eq_false e
              simp -implicitDefEqProofs only [wp_ok, evSs, evS, evE, evB, evEs, evT, evTs, evI, evO, bindk_ok, ofO_some, List.map_cons, List.map_nil, List.replicate, List.cons_append, List.nil_append, List.getElem?_cons_zero, List.getElem?_cons_succ, List.set_cons_zero, List.set_cons_succ, Option.map, bf_int, bop_mul c5, bop_mod p2, cop_eq, z2, tr_bl, Bool.false_eq_true, if_false]
              unfold FQ
              refine ⟨pre ++ [u], us, M, _, hp', rfl, fun l => ?_, by simp; omega, hMd, rfl, rfl⟩
              rw [hM l]
              constructor
              · rintro (h1 | ⟨x, h1, h2⟩)
                · exact .inl h1
                · exact .inr ⟨x, h1, List.mem_append_left _ h2⟩
              · rintro (h1 | ⟨x, h1, h2⟩)
                · exact .inl h1
                · rcases List.mem_append.mp h2 with h2 | h2
                  · exact .inr ⟨x, h1, h2⟩
                  · exfalso
                    apply e
                    rw [← List.mem_singleton.mp h2]
                    exact Int.mul_emod_right _ _
        · rintro η S1 ⟨pre, us, M, x9, hp, hr2, hM, hl, hMd, rfl, rfl⟩
          have : us = [] := by cases us with
            | nil => rfl
            | cons u us => cases hr2
          subst this
          rw [List.append_nil] at hp
          subst hp
          simp -implicitDefEqProofs only [wp_ok, evSs, evS, evE, evB, evEs, evT, evTs, evI, evO, bindk_ok, ofO_some, List.map_cons, List.map_nil, List.replicate, List.cons_append, List.nil_append, List.getElem?_cons_zero, List.getElem?_cons_succ, List.set_cons_zero, List.set_cons_succ, Option.map]
          unfold FQ
          refine ⟨j + 1, M, _, _, _, _, by omega, rfl, P.more (fun l => ?_) (by omega) hMd, rfl, rfl⟩
          rw [hM l, hy]
          constructor
          · rintro (h1 | ⟨x, h1, h2⟩)
            · exact .inl h1
            · refine .inr ⟨x, h1, (sl x).mpr ⟨by rw [hw]; exact c, ?_⟩⟩
              rcases (sm _).mp h2 with q | q <;> omega
          · rintro (h1 | ⟨x, h1, h2⟩)
            · exact .inl h1
            · refine .inr ⟨x, h1, (sm _).mpr ?_⟩
              rcases ((sl x).mp h2).2 with q | q <;> omega
      · have z := decide_eq_false c
        simp -implicitDefEqProofs only [z, Bool.false_eq_true, if_false, evSs, evS, evE, evB, evEs, evT, evTs, evI, evO, bindk_ok, ofO_some, List.map_cons, List.map_nil, List.replicate, List.cons_append, List.nil_append, List.getElem?_cons_zero, List.getElem?_cons_succ, List.set_cons_zero, List.set_cons_succ, Option.map, wp_ok]
        unfold FQ
        refine ⟨j + 1, L, _, _, _, _, by omega, rfl, P.none fun x hx => ?_, rfl, rfl⟩
        rw [hy] at hx
        apply c
        rw [((sl x).mp hx).1, hw]
    · rintro η S1 ⟨j, L, x6, x7, x8, x9, hj, hrest, P, rfl, rfl⟩
      have ej : j = 2 * m + 1 := by
        apply Classical.byContradiction; intro z
        rw [show 2 * m + 1 - j = (2 * m + 1 - (j + 1)) + 1 by omega] at hrest
        cases hrest
      have all := P.all (n := n) (by omega) fun x y hv => (yb y).2 x hv
      have ne : ∀ l ∈ L, l ≠ [] := fun l hl => by
        obtain ⟨x, y, e, _⟩ := (all l).mp hl
        rw [e]; simp
      have bs : bf (S ++ [.lst (L.map tkD)]) .sort [.lo S.length] = some (.lv ((isort HT.lexLt L).map tkD)) := by
        have : lsOf (S ++ [.lst (L.map tkD)]) (.lo S.length) = some (L.map tkD) := by
          show (match (S ++ [Cell.lst (L.map tkD)] : Store)[S.length]? with | some (.lst ds) => some ds | _ => none) = _
          rw [lastC]
        rw [bf_sortL this]
        show (srtD (L.map tkD)).map D.lv = _
        rw [srt_tks L ne]; rfl
      simp -implicitDefEqProofs only [evSs, evS, evE, evB, evEs, evT, evTs, evI, evO, bindk_ok, ofO_some, List.map_cons, List.map_nil, List.replicate, List.cons_append, List.nil_append, List.getElem?_cons_zero, List.getElem?_cons_succ, List.set_cons_zero, List.set_cons_succ, Option.map, bs, wp_ok]
      exact ⟨isort HT.lexLt L, L, ⟨(isort_perm _ L).nodup_iff.mpr P.nd, isort_uniq anti_lexI swo_lexI (isort_perm _ L)⟩, fun l => by rw [(isort_perm _ L).mem_iff]; exact all l, rfl, rfl⟩
  obtain ⟨f', S', e, L, M, hNd, hL, rfl, rfl⟩ := main
  refine ⟨L, hNd, hL, ?_⟩
  rw [call_eq T__law_solutions rfl, e]
  show leave S (Res.ok (D.lv (L.map tkD)) (S ++ [.lst (M.map tkD)])) = _
  exact leave_ext (show stills (L.map tkD) = true from tk_still L)
end K06

set_option Elab.async false
set_option linter.all false
set_option maxRecDepth 100000
set_option maxHeartbeats 4000000
namespace K06
open PySem PySem.Spec PyProof.Rows L2 Py Fm
variable {k : Nat}
def isq (i : Int) : Int := ((Float64.isqrt i.toNat : Nat) : Int)
theorem isq_le (i : Int) (h : 0 ≤ i) : 0 ≤ isq i ∧ isq i * isq i ≤ i ∧ i < (isq i + 1) * (isq i + 1) := by
  obtain ⟨q1, q2⟩ := PySem.Float64.isqrt_spec i.toNat
  unfold isq
  have e : (i.toNat : Int) = i := Int.toNat_of_nonneg h
  refine ⟨Int.natCast_nonneg _, ?_, ?_⟩
  · rw [← e]
    exact_mod_cast q1
  · rw [← e]
    exact_mod_cast q2
theorem bf_isqrt {S : Store} {i : Int} (h0 : 0 ≤ i) (h1 : i < 1000000000000) : bf S .isqrt [.int i] = some (.int (isq i)) := by
  have : i.toNat.log2 < 13000 := by
    by_cases z : i.toNat = 0
    · rw [z]; decide
    · exact Nat.lt_of_lt_of_le ((Nat.log2_lt z (k := 64)).mpr (by omega)) (by decide)
  show (if 0 ≤ i ∧ i.toNat.log2 < 13000 then some (D.int ((Float64.isqrt i.toNat : Nat) : Int)) else none) = _
  rw [if_pos ⟨h0, this⟩]; rfl
theorem ext_ok {S : Store} {ds es : List D} (h : ds.length + es.length ≤ sizeLine) : extl (S ++ [.lst ds]) S.length (.lv es) = .ok .non (S ++ [.lst (ds ++ es)]) := by
  unfold extl
  rw [lastC]
  show (if ds.length + es.length ≤ sizeLine then Res.ok D.non ((S ++ [Cell.lst ds]).set S.length (.lst (ds ++ es))) else .bad) = _
  rw [if_pos h, setC]
def qf (a : Int) : D → Bool
  | .int t => decide (t % (2 * a) = 0)
  | _ => false
def ff (a y : Int) : D → D
  | .int t => .tup [.int (t / (2 * a)), .int y]
  | _ => .non
theorem ff_still (a y : Int) (d : D) : still (ff a y d) = true := by cases d <;> rfl
theorem flt_map (a y : Int) : ∀ ts : List Int, ((ts.map D.int).filter (qf a)).map (ff a y) = ((ts.filter fun t => decide (t % (2 * a) = 0)).map fun t => [t / (2 * a), y]).map tkD
  | [] => rfl
  | t :: ts => by
    rw [List.map_cons, List.filter_cons, List.filter_cons]
    show (if decide (t % (2 * a) = 0) = true then _ else _ : List D).map (ff a y) = _
    by_cases h : t % (2 * a) = 0
    · rw [if_pos (decide_eq_true h), if_pos (decide_eq_true h), List.map_cons, List.map_cons, List.map_cons, flt_map a y ts]; rfl
    · have z := decide_eq_false h
      rw [z]
      exact flt_map a y ts
theorem bf_intb {S : Store} {b : Bool} : bf S .int [.bl b] = some (.int (if b then 1 else 0)) := rfl
theorem cut_all (x y : D) : Py.cutD [x, y] none (some (1 + 1)) = [x, y] := rfl
theorem cut_one (x y : D) : Py.cutD [x, y] none (some (1 + 0)) = [x] := rfl
theorem pairs {n : Int} (f : Fo) (h : Gd n f) (N : Nat) (hN : N ≤ 10000) (S : Store) : ∃ L : List (List Int), L.Nodup ∧ L.length ≤ 3000 ∧ (∀ l, l ∈ L ↔ ∃ x y, l = [x, y] ∧ vl f x y = N) ∧ call T G (k + 2) (Str.ofString "pairs_of") [tF f, .int (N : Int)] S = .ok (.lv (L.map tkD)) S := by
  obtain ⟨ba, bb, bn, bD, n1, n2⟩ := toI (Sf.of h)
  obtain ⟨s1, s2, s3, s4, s5, s6, s7⟩ := gd_sm h
  have d := h.d
  have bN : big 14 (N : Int) := big_i (by omega)
  have hz : (20000 : Nat) ≤ sizeLine := by decide
  have hs0 : (0 : Nat) ≤ sizeLine := by decide
  have hs2 : (2 : Nat) ≤ sizeLine := by decide
  have bf3 : BF' 3000 f := (gd_big h).mono (by decide)
  have aN : 0 ≤ 4 * f.a * (N : Int) ∧ 4 * f.a * (N : Int) ≤ 440000 := by
    have e1 : 4 * f.a * (N : Int) ≤ 44 * 10000 := Int.mul_le_mul (by omega) (by omega) (by omega) (by omega)
    exact ⟨Int.mul_nonneg (by omega) (by omega), by omega⟩
  have hq0 : 0 ≤ 4 * f.a * (N : Int) / (-n) := Int.ediv_nonneg aN.1 (by omega)
  have hq1 : 4 * f.a * (N : Int) / (-n) ≤ 440000 := by
    have := Int.ediv_le_self (-n) aN.1
    omega
  obtain ⟨m0, mm1, mm2⟩ := isq_le _ hq0
  have bq : ∀ S, bf S .isqrt [.int (4 * f.a * (N : Int) / (-n))] = some (.int (isq (4 * f.a * (N : Int) / (-n)))) := fun S => bf_isqrt hq0 (by omega)
  obtain ⟨m, hm⟩ := Int.eq_ofNat_of_zero_le m0
  rw [hm] at bq mm1 mm2
  have m700 : m ≤ 700 := by
    apply Classical.byContradiction; intro z
    have : 701 * 701 ≤ m * m := Nat.mul_le_mul (by omega) (by omega)
    have : ((m * m : Nat) : Int) ≤ 440000 := by push_cast; omega
    omega
  have yb := fun y => ybound (y := y) (Sf.of h) (show 0 ≤ (N : Int) by omega) (show 0 ≤ (m : Int) by omega) mm1 mm2
  have main : WP (evSs (call T G (k + 1)) G f_pairs_of.body ([tF f, D.int (N : Int)].map some ++ List.replicate (f_pairs_of.ns - f_pairs_of.np) none) S) fun f' S' => ∃ L : List (List Int), L.Nodup ∧ L.length ≤ 3000 ∧ (∀ l, l ∈ L ↔ ∃ x y, l = [x, y] ∧ vl f x y = N) ∧ f' = .rt (.lo S.length) ∧ S' = S ++ [.lst (L.map tkD)] := by
    have it : ∀ S, items S (tF f) = some [.int f.a, .int f.b, .int f.c] := fun _ => rfl
    have k1 : mulOk 4 f.a = true := mulOk_big big_four ba (by decide)
    have k2 : mulOk (4 * f.a) (N : Int) = true := mulOk_big (big_mul big_four ba) bN (by decide)
    have dd : divOk (-n) = true := divOk_of (by omega) (sml (by omega) (by omega))
    have hr : -2 ^ 62 ≤ -(m : Int) ∧ -(m : Int) < 2 ^ 62 ∧ -2 ^ 62 ≤ (m : Int) + 1 ∧ (m : Int) + 1 < 2 ^ 62 := by omega
    have e0 : ((m : Int) + 1 - (-(m : Int))).toNat = 2 * m + 1 := by omega
    have ldo := fun S => pdiscOf (k := k) f bf3 S
    rw [d] at ldo
    simp -implicitDefEqProofs only [f_pairs_of, evSs, evS, evE, evB, evEs, evT, evTs, evI, evO, bindk_ok, ofO_some, List.map_cons, List.map_nil, List.replicate, List.cons_append, List.nil_append, List.getElem?_cons_zero, List.getElem?_cons_succ, List.set_cons_zero, List.set_cons_succ, Option.map, List.length_nil, hs0, if_true, it, at0, at1, bop_mul k1, bop_mul k2, ldo, bop_fdiv dd, bq, bop_add]
    rw [if_pos hr, bindk_ok, wp_bind, e0]
    refine wp_forL (fun rest η S1 => ∃ (j : Nat) (L : List (List Int)) (x6 x7 x8 : Option D), j ≤ 2 * m + 1 ∧ rest = rng (-(m : Int) + j) (2 * m + 1 - j) ∧ Prs f N (-(m : Int)) j L ∧ S1 = S ++ [.lst (L.map tkD)] ∧
      ∃ x5 : Option D, η = [some (tF f), some (.int (N : Int)), some (.lo S.length), some (.int (-n)), some (.int (m : Int)), x5, x6, x7, x8, none])
      ⟨0, [], none, none, none, by omega, by rw [show -(m : Int) + ((0 : Nat) : Int) = -(m : Int) by omega]; rfl, Prs.first .., rfl, none, rfl⟩ (fun _ _ _ _ => rfl) ?_ ?_
    · rintro t ts η S1 ⟨j, L, x6, x7, x8, hj, hrest, P, rfl, x5, rfl⟩
      obtain ⟨j1, rfl, rfl⟩ := rng_succ (m := m) hj hrest
      generalize hy : -(m : Int) + (j : Int) = y at *
      have y1 : -(m : Int) ≤ y ∧ y ≤ m := by omega
      have by' : big 10 y := big_i (by omega)
      have bn' : big 9 (-n) := big_neg bn
      have c1 : mulOk (-n) y = true := mulOk_big bn' by' (by decide)
      have c2 : mulOk (-n * y) y = true := mulOk_big (big_mul bn' by') by' (by decide)
      have sq0 := (yb y).1 y1
      have esq : 4 * f.a * (N : Int) - -n * y * y = 4 * f.a * (N : Int) + dc f * (y * y) := by rw [d]; grind
      have sq1 : 4 * f.a * (N : Int) + dc f * (y * y) ≤ 440000 := by
        rw [d]
        have := sq_nn y
        have : n * (y * y) ≤ 0 := Int.mul_nonpos_of_nonpos_of_nonneg (by omega) this
        omega
      obtain ⟨r0, rr1, rr2⟩ := isq_le _ sq0
      have er := fun S => bf_isqrt (S := S) sq0 (by omega)
      generalize hw : 4 * f.a * (N : Int) + dc f * (y * y) = w at *
      generalize isq w = r at *
      have r700 : r ≤ 700 := by
        apply Classical.byContradiction; intro z
        have : 701 * 701 ≤ r * r := Int.mul_le_mul (by omega) (by omega) (by omega) (by omega)
        omega
      have br : big 10 r := big_i (by omega)
      have c3 : mulOk r r = true := mulOk_big br br (by decide)
      have sl := fun x => sols (x := x) (y := y) (N := N) s6 r0 (by rw [hw]; exact rr1) (by rw [hw]; exact rr2)
      rw [hw] at sl
      simp -implicitDefEqProofs only [wp_ok, evSs, evS, evE, evB, evEs, evT, evTs, evI, evO, bindk_ok, ofO_some, List.map_cons, List.map_nil, List.replicate, List.cons_append, List.nil_append, List.getElem?_cons_zero, List.getElem?_cons_succ, List.set_cons_zero, List.set_cons_succ, Option.map, it, at0, at1, bop_mul c1, bop_mul c2, bop_mul k1, bop_mul k2, bop_sub, esq, er, bop_mul c3, cop_eq, tr_bl]
      by_cases c : r * r = w
      · have z := decide_eq_true c
        have c4 : mulOk f.b y = true := mulOk_big bb by' (by decide)
        have its : ∀ (S : Store) (ds : List D), items S (.lv ds) = some ds := fun _ _ => rfl
        have c5 : mulOk 2 f.a = true := mulOk_big big_two ba (by decide)
        have p2 : (0 : Int) < 2 * f.a := by omega
        have d2 : divOk (2 * f.a) = true := divOk_of p2 (sml (by omega) (by omega))
        have comp : ∀ (tops : List Int), tops.length ≤ 2 → leave (S ++ [.lst (L.map tkD)]) (comL (guardOf (.lv (tops.map .int)) (S ++ [.lst (L.map tkD)])) (fun d => asgC [9] true [9] d (wipeD [some (tF f), some (.int (N : Int)), some (.lo S.length), some (.int (-n)), some (.int (m : Int)), some (.int y), some (.int w), some (.int r), some (.lv (tops.map .int)), none] [9]))
            (evB (call T G (k + 1)) G (.val (.cmp .eq (.op .mod (.var 9) (.op .mul (.int 2) (.sub (.var 0) (.int 0)))) (.int 0))))
            (evE (call T G (k + 1)) G (.tup (.cons (.op .fdiv (.var 9) (.op .mul (.int 2) (.sub (.var 0) (.int 0)))) (.cons (.var 5) .nil)))) (S ++ [Cell.lst (L.map tkD)]).length (tops.map D.int) ((S ++ [Cell.lst (L.map tkD)]) ++ [Cell.lst []])) =
            .ok (.lv (((tops.filter fun t => decide (t % (2 * f.a) = 0)).map fun t => [t / (2 * f.a), y]).map tkD)) (S ++ [.lst (L.map tkD)]) := fun tops ht => by
          rw [← flt_map]
          refine comp_flt (fun _ => rfl) (qf f.a) (ff f.a y) (tops.map .int) (by rw [List.length_map]; omega) (fun d _ => ff_still _ _ d) fun d hd => ?_
          obtain ⟨t, _, rfl⟩ := List.mem_map.mp hd
          refine ⟨[some (tF f), some (.int (N : Int)), some (.lo S.length), some (.int (-n)), some (.int (m : Int)), some (.int y), some (.int w), some (.int r), some (.lv (tops.map .int)), some (.int t)], rfl, fun acc => ⟨?_, fun _ => ?_⟩⟩
          · simp -implicitDefEqProofs only [evSs, evS, evE, evB, evEs, evT, evTs, evI, evO, bindk_ok, ofO_some, List.map_cons, List.map_nil, List.replicate, List.cons_append, List.nil_append, List.getElem?_cons_zero, List.getElem?_cons_succ, List.set_cons_zero, List.set_cons_succ, Option.map, it, at0, bop_mul c5, bop_mod p2, cop_eq, tr_bl]
            rfl
          · simp -implicitDefEqProofs only [evSs, evS, evE, evB, evEs, evT, evTs, evI, evO, bindk_ok, ofO_some, List.map_cons, List.map_nil, List.replicate, List.cons_append, List.nil_append, List.getElem?_cons_zero, List.getElem?_cons_succ, List.set_cons_zero, List.set_cons_succ, Option.map, it, at0, bop_mul c5, bop_fdiv d2, List.length_cons, List.length_nil, Nat.zero_add, Nat.reduceAdd, hs2, if_true]
            rfl
        have fin : ∀ (tops : List Int), tops.length ≤ 2 → tops.Nodup → (∀ t, t ∈ tops ↔ t = r - f.b * y ∨ t = -r - f.b * y) → Prs f N (-(m : Int)) (j + 1) (L ++ (tops.filter fun t => decide (t % (2 * f.a) = 0)).map fun t => [t / (2 * f.a), y]) := fun tops ht hnd hm => by
          refine P.more (fun l => ?_) ?_ ?_
          · rw [List.mem_append, hy]
            refine or_congr_right ?_
            rw [List.mem_map]
            constructor
            · rintro ⟨t, q1, q2⟩
              obtain ⟨q3, q4⟩ := List.mem_filter.mp q1
              have q5 : 2 * f.a * (t / (2 * f.a)) = t := Int.mul_ediv_cancel' (Int.dvd_of_emod_eq_zero (of_decide_eq_true q4))
              refine ⟨t / (2 * f.a), q2.symm, (sl _).mpr ⟨c, ?_⟩⟩
              rw [q5]
              rcases (hm t).mp q3 with q | q <;> omega
            · rintro ⟨x, q1, q2⟩
              have q3 := ((sl x).mp q2).2
              refine ⟨2 * f.a * x, List.mem_filter.mpr ⟨(hm _).mpr (by rcases q3 with q | q <;> omega), decide_eq_true (Int.mul_emod_right _ _)⟩, ?_⟩
              rw [q1, Int.mul_ediv_cancel_left _ (by omega)]
          · rw [List.length_append, List.length_map]
            have := List.length_filter_le (fun t => decide (t % (2 * f.a) = 0)) tops
            omega
          · rw [List.nodup_append]
            refine ⟨P.nd, ?_, fun l hl l' hl' e => ?_⟩
            · unfold List.Nodup
              rw [List.pairwise_map]
              refine List.Pairwise.imp_of_mem (fun {t u} ht hu ne e => ne ?_) (hnd.filter _)
              injection e with e _
              have q1 := of_decide_eq_true (List.mem_filter.mp ht).2
              have q2 := of_decide_eq_true (List.mem_filter.mp hu).2
              rw [← Int.mul_ediv_cancel' (Int.dvd_of_emod_eq_zero q1), e, Int.mul_ediv_cancel' (Int.dvd_of_emod_eq_zero q2)]
            · subst e
              obtain ⟨t, _, q2⟩ := List.mem_map.mp hl'
              obtain ⟨x', y', e1, _, _, e4⟩ := (P.mem _).mp hl
              rw [← q2] at e1
              injection e1 with e1 e2; injection e2 with e2 _
              omega
        have lens : ∀ (tops : List Int), tops.length ≤ 2 → (L.map tkD).length + (((tops.filter fun t => decide (t % (2 * f.a) = 0)).map fun t => [t / (2 * f.a), y]).map tkD).length ≤ sizeLine := fun tops ht => by
          rw [List.length_map, List.length_map, List.length_map]
          have := List.length_filter_le (fun t => decide (t % (2 * f.a) = 0)) tops
          have := P.len
          omega
        by_cases cr : 0 < r
        · have zr := decide_eq_true cr
          have ht : [r - f.b * y, -r - f.b * y].length ≤ 2 := Nat.le_refl _
          have cm := comp [r - f.b * y, -r - f.b * y] ht
          simp -implicitDefEqProofs only [evSs, evS, evE, evB, evEs, evT, evTs, evI, evO, bindk_ok, ofO_some, List.map_cons, List.map_nil, List.replicate, List.cons_append, List.nil_append, List.getElem?_cons_zero, List.getElem?_cons_succ, List.set_cons_zero, List.set_cons_succ, Option.map] at cm
          simp -implicitDefEqProofs only [z, if_true, evSs, evS, evE, evB, evEs, evT, evTs, evI, evO, bindk_ok, ofO_some, List.map_cons, List.map_nil, List.replicate, List.cons_append, List.nil_append, List.getElem?_cons_zero, List.getElem?_cons_succ, List.set_cons_zero, List.set_cons_succ, Option.map, it, at1, bop_mul c4, bop_sub, List.length_cons, List.length_nil, Nat.zero_add, Nat.reduceAdd, hs2, Bool.false_eq_true, if_false, cop_gt, zr, bf_intb, bop_add, cut_all, its, isLC]
          rw [cm]
          simp -implicitDefEqProofs only [evSs, evS, evE, evB, evEs, evT, evTs, evI, evO, bindk_ok, ofO_some, List.map_cons, List.map_nil, List.replicate, List.cons_append, List.nil_append, List.getElem?_cons_zero, List.getElem?_cons_succ, List.set_cons_zero, List.set_cons_succ, Option.map, ext_ok (lens _ ht), wp_ok]
          unfold FQ
          exact ⟨j + 1, _, _, _, _, by omega, rfl, fin [r - f.b * y, -r - f.b * y] ht (by simp; omega) (fun t => by simp), by rw [List.map_append], _, rfl⟩
        · have zr := decide_eq_false cr
          have r00 : r = 0 := by omega
          have ht : [r - f.b * y].length ≤ 2 := Nat.le_succ 1
          have cm := comp [r - f.b * y] ht
          simp -implicitDefEqProofs only [evSs, evS, evE, evB, evEs, evT, evTs, evI, evO, bindk_ok, ofO_some, List.map_cons, List.map_nil, List.replicate, List.cons_append, List.nil_append, List.getElem?_cons_zero, List.getElem?_cons_succ, List.set_cons_zero, List.set_cons_succ, Option.map] at cm
          simp -implicitDefEqProofs only [z, if_true, evSs, evS, evE, evB, evEs, evT, evTs, evI, evO, bindk_ok, ofO_some, List.map_cons, List.map_nil, List.replicate, List.cons_append, List.nil_append, List.getElem?_cons_zero, List.getElem?_cons_succ, List.set_cons_zero, List.set_cons_succ, Option.map, it, at1, bop_mul c4, bop_sub, List.length_cons, List.length_nil, Nat.zero_add, Nat.reduceAdd, hs2, Bool.false_eq_true, if_false, cop_gt, zr, bf_intb, bop_add, cut_one, its, isLC]
          rw [cm]
          simp -implicitDefEqProofs only [evSs, evS, evE, evB, evEs, evT, evTs, evI, evO, bindk_ok, ofO_some, List.map_cons, List.map_nil, List.replicate, List.cons_append, List.nil_append, List.getElem?_cons_zero, List.getElem?_cons_succ, List.set_cons_zero, List.set_cons_succ, Option.map, ext_ok (lens _ ht), wp_ok]
          unfold FQ
          exact ⟨j + 1, _, _, _, _, by omega, rfl, fin [r - f.b * y] ht (by simp) (fun t => by rw [List.mem_singleton]; omega), by rw [List.map_append], _, rfl⟩
      · have z := decide_eq_false c
        simp -implicitDefEqProofs only [z, Bool.false_eq_true, if_false, evSs, evS, evE, evB, evEs, evT, evTs, evI, evO, bindk_ok, ofO_some, List.map_cons, List.map_nil, List.replicate, List.cons_append, List.nil_append, List.getElem?_cons_zero, List.getElem?_cons_succ, List.set_cons_zero, List.set_cons_succ, Option.map, wp_ok]
        unfold FQ
        refine ⟨j + 1, L, _, _, _, by omega, rfl, P.none fun x hx => ?_, rfl, _, rfl⟩
        rw [hy] at hx
        exact c ((sl x).mp hx).1
    · rintro η S1 ⟨j, L, x6, x7, x8, hj, hrest, P, rfl, x5, rfl⟩
      have ej : j = 2 * m + 1 := by
        apply Classical.byContradiction; intro z
        rw [show 2 * m + 1 - j = (2 * m + 1 - (j + 1)) + 1 by omega] at hrest
        cases hrest
      have all := P.all (n := n) (by omega) fun x y hv => (yb y).2 x hv
      simp -implicitDefEqProofs only [evSs, evS, evE, evB, evEs, evT, evTs, evI, evO, bindk_ok, ofO_some, List.map_cons, List.map_nil, List.replicate, List.cons_append, List.nil_append, List.getElem?_cons_zero, List.getElem?_cons_succ, List.set_cons_zero, List.set_cons_succ, Option.map, wp_ok]
      exact ⟨L, P.nd, by have := P.len; omega, all, by first | rfl | trivial, by first | rfl | trivial⟩
  obtain ⟨f', S', e, L, hNd, hLn, hL, rfl, rfl⟩ := main
  refine ⟨L, hNd, hLn, hL, ?_⟩
  rw [call_eq T_pairs_of rfl, e]
  show leave S (Res.ok (D.lo S.length) (S ++ [.lst (L.map tkD)])) = _
  exact leave_new (X := []) (tk_still L)
end K06

set_option Elab.async false
set_option linter.all false
set_option maxRecDepth 100000
set_option maxHeartbeats 4000000
/-! Things in a drawn order. -/
namespace Py
open PySem PySem.Spec PyProof.Rows L2
theorem eq_nil {S : Store} {d : D} {ps : List PyData} (hd : toP (deref S d) = some (.list ps)) (h1 : PyData.canLayAll0 ps = true) (h2 : PyData.depthAll ps ≤ 10) : cop S .eq d (.lv []) = some ps.isEmpty := by
  show eqP S d (.lv []) = _
  have s1 : SeqAt.shaped (.list ps) = true := by
    unfold SeqAt.shaped
    simp only [PyData.canLay0, PyData.depth]
    rw [h1]
    simp
    omega
  have s2 : SeqAt.shaped (.list []) = true := by
    unfold SeqAt.shaped
    simp [PyData.canLay0, PyData.canLayAll0, PyData.depth, PyData.depthAll]
  have hn : toP (deref S (.lv [])) = some (.list []) := rfl
  unfold eqP
  rw [hd, hn]
  show (if (SeqAt.shaped (.list ps) && SeqAt.shaped (.list [])) = true then some (PyData.eqv (.list ps) (.list [])) else none) = _
  rw [s1, s2]
  show some (PyData.eqv (.list ps) (.list [])) = _
  unfold PyData.eqv
  cases ps with
  | nil => rfl
  | cons x ps => rfl
theorem ne_nil {S : Store} {d : D} {ps : List PyData} (hd : toP (deref S d) = some (.list ps)) (h1 : PyData.canLayAll0 ps = true) (h2 : PyData.depthAll ps ≤ 10) : cop S .ne d (.lv []) = some (!ps.isEmpty) := by
  show (eqP S d (.lv [])).map (!·) = _
  rw [show eqP S d (.lv []) = some ps.isEmpty from eq_nil hd h1 h2]; rfl
def fMixed : Fn := ⟨4, 2, false, (.cons (.par 2 3 (.lcopy (.var 1)) (.lst true .nil)) (.cons (.whl (.val (.cmp .ne (.var 2) (.lst false .nil))) (.cons (.expr (.append (.var 3) (.popi (.var 2) (.call (Str.ofString "_law_draw") (.cons (.var 0) (.cons (.blt .len (.cons (.var 2) .nil)) .nil)))))) .nil)) (.cons (.ret (.var 3)) .nil)))⟩
section
variable {T : Str → Option Fn} {G : Str → Option D} {k : Nat}
theorem m_g0 {W : Store} {m : Nat} {a b : Cell} (h : W.length = m) : (W ++ [a, b])[m]? = some a := by
  subst h; rw [List.getElem?_append_right (Nat.le_refl _), Nat.sub_self]; rfl
theorem m_g1 {W : Store} {m : Nat} {a b : Cell} (h : W.length = m) : (W ++ [a, b])[m + 1]? = some b := by
  subst h; rw [List.getElem?_append_right (by omega), Nat.add_sub_cancel_left]; rfl
theorem m_s0 {W : Store} {m : Nat} {a b c : Cell} (h : W.length = m) : (W ++ [a, b]).set m c = W ++ [c, b] := by
  subst h; rw [List.set_append_right _ _ (Nat.le_refl _), Nat.sub_self]; rfl
theorem m_s1 {W : Store} {m : Nat} {a b c : Cell} (h : W.length = m) : (W ++ [a, b]).set (m + 1) c = W ++ [a, c] := by
  subst h; rw [List.set_append_right _ _ (by omega), Nat.add_sub_cancel_left]; rfl
theorem draw_app (hT : T (Str.ofString "_law_draw") = some fDraw) {n : Nat} {W X : Store} {t b : Int} (u : WellAt n W t) (ht : t < 100000000) (hb : 0 < b) (hb2 : b < 1073741824) :
    ∃ f W', 0 ≤ f ∧ f < b ∧ call T G (k + 1) (Str.ofString "_law_draw") [.lo n, .int b] (W ++ X) = .ok (.int f) (W' ++ X) ∧ Same n W W' ∧ WellAt n W' (t + 1) := by
  have hl := u.lt
  obtain ⟨a, m, c, h, h1, h2, h3, h4, h5⟩ := u
  obtain ⟨a', m', c', f, r1, r2, r3, r4, r5, r6, r7, r8⟩ := draw_ok (G := G) (k := k) hT (S := W ++ X) (by rw [List.getElem?_append_left hl]; exact h) h1 h2 h3 h4 (by omega) hb hb2
  exact ⟨f, W.set n (.lst [.int a', .int m', .int c']), r6, r7, by rw [r8, List.set_append_left _ _ hl], Same.set, a', m', c', set_get h, r1, r2, r3, r4, by omega⟩
theorem pop_ok {S : Store} {n : Nat} {ds : List D} {d : D} {i : Int} (h : S[n]? = some (.lst ds)) (h0 : 0 ≤ i) (h1 : i < 2 ^ 62) (h2 : ds[i.toNat]? = some d) : popl S n (.int i) = .ok d (S.set n (.lst (ds.eraseIdx i.toNat))) := by
  unfold popl
  rw [h]
  show (if 0 ≤ i ∧ i < 2 ^ 62 then match ds[i.toNat]? with
    | some d => Res.ok d (S.set n (.lst (ds.eraseIdx i.toNat)))
    | none => .bad
    else .bad) = _
  rw [if_pos ⟨h0, h1⟩, h2]
theorem isLst_at {S : Store} {n : Nat} {ds : List D} (h : S[n]? = some (.lst ds)) : isLst S n = true := by unfold isLst; rw [h]
theorem bf_lenA {S : Store} {n : Nat} {ds : List D} (h : S[n]? = some (.lst ds)) : bf S .len [.lo n] = some (.int (ds.length : Int)) := by
  show ((items S (.lo n)).map (·.length)).map (fun (n : Nat) => D.int (n : Int)) = _
  rw [items_lo h]; rfl
theorem erase_map {α β : Type} (g : α → β) : ∀ (l : List α) (i : Nat), (l.map g).eraseIdx i = (l.eraseIdx i).map g
  | [], _ => rfl
  | x :: l, 0 => rfl
  | x :: l, i + 1 => by
    show g x :: (l.map g).eraseIdx i = g x :: (l.eraseIdx i).map g
    rw [erase_map g l i]
theorem perm_erase {α : Type} {x : α} : ∀ {l : List α} {i : Nat}, l[i]? = some x → (x :: l.eraseIdx i).Perm l
  | [], _, h => by cases h
  | y :: l, 0, h => by cases h; exact List.Perm.refl _
  | y :: l, i + 1, h => ((List.Perm.swap y x (l.eraseIdx i)).symm.symm).trans ((perm_erase (l := l) (i := i) h).cons y)
theorem toPs_of {α : Type} {g : α → D} {pd : α → PyData} (hg : ∀ x, toP (g x) = some (pd x)) : ∀ A : List α, toPs (A.map g) = some (A.map pd)
  | [] => rfl
  | x :: A => by
    rw [List.map_cons, List.map_cons]
    unfold toPs
    rw [hg x, toPs_of hg A]
theorem lay_of {α : Type} {pd : α → PyData} (hl : ∀ x, (pd x).canLay0 = true ∧ (pd x).depth ≤ 5) : ∀ A : List α, PyData.canLayAll0 (A.map pd) = true ∧ PyData.depthAll (A.map pd) ≤ 5
  | [] => by simp [PyData.canLayAll0, PyData.depthAll]
  | x :: A => by
    obtain ⟨h1, h2⟩ := lay_of hl A
    obtain ⟨h3, h4⟩ := hl x
    rw [List.map_cons]
    constructor
    · simp [PyData.canLayAll0, h1, h3]
    · simp only [PyData.depthAll]
      omega
theorem mixed_ok (hT : T (Str.ofString "_law_draw") = some fDraw) (hM : T (Str.ofString "_law_mixed") = some fMixed) {α : Type} {g : α → D} {pd : α → PyData} (hg : ∀ x, toP (g x) = some (pd x)) (hl : ∀ x, (pd x).canLay0 = true ∧ (pd x).depth ≤ 5) (hst : ∀ x, still (g x) = true)
    {n : Nat} {S : Store} {t : Int} (u : WellAt n S t) (ht : t < 10000000) (L : List α) (hL : L.length ≤ 1000) :
    ∃ (M : List α) (S' : Store), M.Perm L ∧ call T G (k + 2) (Str.ofString "_law_mixed") [.lo n, .lv (L.map g)] S = .ok (.lv (M.map g)) S' ∧ Same n S S' ∧ WellAt n S' (t + L.length) := by
  have hn := u.lt
  have hz : (2000 : Nat) ≤ sizeLine := by decide
  have hs0 : (0 : Nat) ≤ sizeLine := by decide
  have main : WP (evSs (call T G (k + 1)) G fMixed.body ([D.lo n, .lv (L.map g)].map some ++ List.replicate (fMixed.ns - fMixed.np) none) S) fun f S' => ∃ (M : List α) (W : Store), M.Perm L ∧ f = .rt (.lo (S.length + 1)) ∧ S' = W ++ [.lst [], .lst (M.map g)] ∧ Same n S W ∧ WellAt n W (t + L.length) := by
    have il : ∀ S, items S (.lv (L.map g)) = some (L.map g) := fun _ => rfl
    have ap : S ++ [Cell.lst (L.map g)] ++ [Cell.lst []] = S ++ [.lst (L.map g), .lst []] := by rw [List.append_assoc]; rfl
    have le : (S ++ [Cell.lst (L.map g)]).length = S.length + 1 := by rw [List.length_append]; rfl
    simp -implicitDefEqProofs only [fMixed, evSs, evS, evE, evB, evEs, evT, evTs, evI, evO, bindk_ok, ofO_some, List.map_cons, List.map_nil, List.replicate, List.cons_append, List.nil_append, List.getElem?_cons_zero, List.getElem?_cons_succ, List.set_cons_zero, List.set_cons_succ, Option.map, il, List.length_nil, hs0, if_true, ap, le]
    rw [wp_bind]
    refine wp_whl (fun j η S2 => ∃ (A B : List α) (W : Store), (B ++ A).Perm L ∧ j = A.length ∧ W.length = S.length ∧ S2 = W ++ [.lst (A.map g), .lst (B.map g)] ∧ Same n S W ∧ WellAt n W (t + B.length) ∧
      η = [some (.lo n), some (.lv (L.map g)), some (.lo S.length), some (.lo (S.length + 1))]) ?_ (n := L.length) ⟨L, [], S, List.Perm.refl _, rfl, rfl, rfl, Same.refl, u.mono (by simp), rfl⟩
    rintro j η S2 ⟨A, B, W, hp, rfl, hW, rfl, s, u2, rfl⟩
    have lAB : B.length + A.length = L.length := by rw [← List.length_append]; exact hp.length_eq
    have en : cop (W ++ [.lst (A.map g), .lst (B.map g)]) .ne (.lo S.length) (.lv []) = some (!A.isEmpty) := by
      have hd : toP (deref (W ++ [.lst (A.map g), .lst (B.map g)]) (.lo S.length)) = some (.list (A.map pd)) := by
        have : deref (W ++ [.lst (A.map g), .lst (B.map g)]) (.lo S.length) = .lv (A.map g) := by
          show (match (W ++ [Cell.lst (A.map g), .lst (B.map g)])[S.length]? with
            | some (.lst ds) => D.lv ds
            | _ => .lo S.length) = _
          rw [m_g0 hW]
        rw [this]
        unfold toP
        rw [toPs_of hg]; rfl
      obtain ⟨l1, l2⟩ := lay_of hl A
      rw [ne_nil hd l1 (by omega)]
      cases A <;> rfl
    cases A with
    | nil =>
      rw [show (!([] : List α).isEmpty) = false from rfl, List.map_nil] at en
      simp -implicitDefEqProofs only [wp_ok, evSs, evS, evE, evB, evEs, evT, evTs, evI, evO, bindk_ok, ofO_some, List.map_cons, List.map_nil, List.replicate, List.cons_append, List.nil_append, List.getElem?_cons_zero, List.getElem?_cons_succ, List.set_cons_zero, List.set_cons_succ, Option.map, List.length_nil, hs0, if_true, Bool.false_eq_true, if_false, en, tr_bl]
      rw [List.append_nil] at hp
      refine ⟨B, W, hp, by first | rfl | trivial, by first | rfl | trivial, s, u2.mono ?_⟩
      rw [List.length_nil, Nat.add_zero] at lAB
      omega
    | cons x A =>
      rw [show (!(x :: A).isEmpty) = true from rfl] at en
      obtain ⟨f, W', f0, f1, e1, s1, u3⟩ := draw_app (G := G) (k := k) (X := [.lst ((x :: A).map g), .lst (B.map g)]) (b := (((x :: A).map g).length : Int)) hT u2 (by omega) (by rw [List.length_map, List.length_cons]; omega) (by rw [List.length_map]; omega)
      have hW' : W'.length = S.length := by rw [s1.1, hW]
      rw [List.length_map] at f1
      obtain ⟨y, hy⟩ : ∃ y, (x :: A)[f.toNat]? = some y := ⟨_, List.getElem?_eq_getElem (show f.toNat < (x :: A).length by omega)⟩
      have hy2 : ((x :: A).map g)[f.toNat]? = some (g y) := by rw [List.getElem?_map, hy]; rfl
      have lB : (B.map g).length < sizeLine := by rw [List.length_map, List.length_cons] at *; omega
      have len0 := bf_lenA (S := W ++ [.lst ((x :: A).map g), .lst (B.map g)]) (m_g0 hW)
      have is0 := isLst_at (S := W ++ [.lst ((x :: A).map g), .lst (B.map g)]) (m_g0 hW)
      have is1 := isLst_at (S := W ++ [.lst ((x :: A).map g), .lst (B.map g)]) (m_g1 hW)
      have pp := pop_ok (S := W' ++ [.lst ((x :: A).map g), .lst (B.map g)]) (m_g0 hW') f0 (by rw [List.length_cons] at *; omega) hy2
      rw [m_s0 hW', erase_map] at pp
      have gB := m_g1 (a := .lst (((x :: A).eraseIdx f.toNat).map g)) (b := .lst (B.map g)) hW'
      generalize hXA : x :: A = XA at *
      simp -implicitDefEqProofs only [wp_ok, evSs, evS, evE, evB, evEs, evT, evTs, evI, evO, bindk_ok, ofO_some, List.map_cons, List.map_nil, List.replicate, List.cons_append, List.nil_append, List.getElem?_cons_zero, List.getElem?_cons_succ, List.set_cons_zero, List.set_cons_succ, Option.map, List.length_nil, hs0, if_true, Bool.false_eq_true, if_false, en, tr_bl, is1, is0, len0, e1, pp, gB, lB, m_s1 hW']
      unfold FQ
      have lx : XA.length = (XA.eraseIdx f.toNat).length + 1 := by
        have := (perm_erase hy).length_eq
        rw [List.length_cons] at this
        omega
      refine ⟨(XA.eraseIdx f.toNat).length, by omega, XA.eraseIdx f.toNat, B ++ [y], W', ?_, rfl, hW', by rw [List.map_append]; rfl, s.trans s1, u3.mono (by rw [List.length_append, List.length_singleton]; omega), rfl⟩
      rw [List.append_assoc]
      exact (List.Perm.append_left B (perm_erase hy)).trans hp
  obtain ⟨f, S', e, M, W, hp, rfl, rfl, s, u'⟩ := main
  refine ⟨M, W, hp, ?_, s, u'⟩
  rw [call_eq hM rfl, e]
  have hW : W.length = S.length := s.1
  show leave S (Res.ok (D.lo (S.length + 1)) (W ++ [.lst [], .lst (M.map g)])) = _
  have st : stills (M.map g) = true := stills_all fun d hd => by
    obtain ⟨x, _, rfl⟩ := List.mem_map.mp hd
    exact hst x
  unfold leave
  dsimp only
  rw [if_pos]
  · have : rs (W ++ [.lst [], .lst (M.map g)]) S.length (.lo (S.length + 1)) = some (.lv (M.map g)) := by
      unfold rs
      rw [if_neg (by omega), m_g1 hW]
      show (if clos S.length (M.map g) = true then some (D.lv (M.map g)) else none) = _
      rw [if_pos (clos_still st)]
    rw [this]
    show Res.ok (D.lv (M.map g)) ((W ++ [Cell.lst [], Cell.lst (M.map g)]).take S.length) = _
    rw [← hW, List.take_left]
  · refine ⟨by rw [List.length_append]; omega, fun i hi => ?_⟩
    rw [List.getElem?_append_left (by omega)]
    by_cases e : i = n
    · subst e
      obtain ⟨a, m, c, h, _⟩ := u'
      exact .inr ⟨_, h, rfl⟩
    · exact .inl (s.2 i e)
end
end Py

set_option Elab.async false
set_option linter.all false
set_option maxRecDepth 100000
set_option maxHeartbeats 4000000
/-! A reduced form has each number up to 10000 as a value at fewer than 64 pairs. -/
namespace Rb
open Fm
/-- one over each value -/
def sm : List Nat → Nat
  | [] => 0
  | v :: l => 2 ^ (16 * v) + sm l
theorem sm_app : ∀ l m : List Nat, sm (l ++ m) = sm l + sm m
  | [], m => by show sm m = 0 + sm m; omega
  | v :: l, m => by show 2 ^ (16 * v) + sm (l ++ m) = 2 ^ (16 * v) + sm l + sm m; rw [sm_app l m]; omega
theorem sm_le {N : Nat} : ∀ l : List Nat, (∀ v ∈ l, v < N) → sm l * 65536 ≤ l.length * 2 ^ (16 * N)
  | [], _ => by simp [sm]
  | v :: l, h => by
    have ih := sm_le l fun w hw => h w (List.mem_cons_of_mem _ hw)
    have hv := h v (List.mem_cons_self ..)
    have e : 2 ^ (16 * v) * 65536 ≤ 2 ^ (16 * N) := by
      have : (2 : Nat) ^ (16 * v) * 65536 = 2 ^ (16 * v + 16) := by rw [Nat.pow_add]
      rw [this]
      exact Nat.pow_le_pow_right (by decide) (by omega)
    show (2 ^ (16 * v) + sm l) * 65536 ≤ (l.length + 1) * 2 ^ (16 * N)
    rw [Nat.add_mul, Nat.add_mul, Nat.one_mul, Nat.add_comm (_ * _) (2 ^ (16 * N))]
    exact Nat.add_le_add e ih
theorem sm_split (N : Nat) : ∀ l : List Nat, ∃ hi, sm l = sm (l.filter (· < N)) + 2 ^ (16 * N) * (l.count N + 65536 * hi)
  | [] => ⟨0, by simp [sm]⟩
  | v :: l => by
    obtain ⟨hi, ih⟩ := sm_split N l
    show ∃ hi, 2 ^ (16 * v) + sm l = _
    rw [ih]
    by_cases h1 : v < N
    · refine ⟨hi, ?_⟩
      rw [List.filter_cons_of_pos (by simpa using h1), List.count_cons_of_ne (by omega)]
      show _ = 2 ^ (16 * v) + sm _ + _
      omega
    · rw [List.filter_cons_of_neg (by simpa using h1)]
      by_cases h2 : v = N
      · subst h2
        refine ⟨hi, ?_⟩
        rw [List.count_cons_self, Nat.mul_add, Nat.mul_add, Nat.mul_add]
        omega
      · refine ⟨hi + 2 ^ (16 * (v - N - 1)), ?_⟩
        rw [List.count_cons_of_ne (by omega)]
        have e : 2 ^ (16 * v) = 2 ^ (16 * N) * (65536 * 2 ^ (16 * (v - N - 1))) := by
          rw [show (65536 : Nat) = 2 ^ 16 from rfl, ← Nat.pow_add, ← Nat.pow_add]
          congr 1
          omega
        rw [e, Nat.mul_add, Nat.mul_add, Nat.mul_add, Nat.mul_add]
        omega
theorem digit {N : Nat} {l : List Nat} (h : l.length < 65536) : sm l / 2 ^ (16 * N) % 65536 = l.count N := by
  obtain ⟨hi, e⟩ := sm_split N l
  have lo : sm (l.filter (· < N)) < 2 ^ (16 * N) := by
    have := sm_le (N := N) (l.filter (· < N)) fun v hv => by simpa using (List.mem_filter.mp hv).2
    have l2 := List.length_filter_le (fun x => decide (x < N)) l
    have p : 0 < 2 ^ (16 * N) := Nat.pow_pos (by decide)
    apply Classical.byContradiction
    intro q
    have a1 : (l.filter (· < N)).length * 2 ^ (16 * N) ≤ 65535 * 2 ^ (16 * N) := Nat.mul_le_mul_right _ (by omega)
    omega
  rw [e, Nat.add_mul_div_left _ _ (Nat.pow_pos (by decide)), Nat.div_eq_of_lt lo, Nat.zero_add, Nat.add_mul_mod_self_left]
  exact Nat.mod_eq_of_lt (Nat.lt_of_le_of_lt List.count_le_length h)
/-! the mask -/
def rep : Nat → Nat
  | 0 => 0
  | k + 1 => 65472 + 2 ^ 16 * rep k
theorem rep_eq : ∀ k, rep k * 65535 = 65472 * (2 ^ (16 * k) - 1)
  | 0 => by simp [rep]
  | k + 1 => by
    have ih := rep_eq k
    have p : 1 ≤ 2 ^ (16 * k) := Nat.pow_pos (by decide)
    have e : 2 ^ (16 * (k + 1)) = 65536 * 2 ^ (16 * k) := by rw [show 16 * (k + 1) = 16 + 16 * k by omega, Nat.pow_add]
    unfold rep
    generalize rep k = R at ih
    rw [e]
    generalize 2 ^ (16 * k) = P at p ih
    obtain ⟨Q, rfl⟩ : ∃ Q, P = Q + 1 := ⟨P - 1, by omega⟩
    rw [Nat.add_sub_cancel] at ih
    rw [show 65536 * (Q + 1) - 1 = 65535 + 65536 * Q by omega, Nat.mul_add, Nat.mul_left_comm, ← ih, Nat.add_mul, Nat.mul_assoc]
theorem rep_bit : ∀ (k N i : Nat), N < k → 6 ≤ i → i < 16 → (rep k).testBit (16 * N + i) = true
  | 0, _, _, h, _, _ => by omega
  | k + 1, 0, i, _, h6, h16 => by
    unfold rep
    rw [Nat.add_comm, Nat.testBit_two_pow_mul_add _ (by decide), Nat.mul_zero, Nat.zero_add, if_pos h16]
    have : ∀ i < 16, 6 ≤ i → Nat.testBit 65472 i = true := by decide
    exact this i h16 h6
  | k + 1, N + 1, i, h, h6, h16 => by
    unfold rep
    rw [Nat.add_comm, Nat.testBit_two_pow_mul_add _ (by decide), if_neg (by omega), show 16 * (N + 1) + i - 16 = 16 * N + i by omega]
    exact rep_bit k N i (by omega) h6 h16
def mask : Nat := 65472 * (2 ^ 160016 - 1) / 65535
theorem mask_rep : mask = rep 10001 := by
  have := rep_eq 10001
  unfold mask
  rw [show (160016 : Nat) = 16 * 10001 from rfl, ← this]
  exact Nat.mul_div_cancel _ (by decide)
theorem small {x N : Nat} (h : Nat.land x mask = 0) (hN : N ≤ 10000) : x / 2 ^ (16 * N) % 65536 < 64 := by
  show x / 2 ^ (16 * N) % 2 ^ 16 < 2 ^ 6
  apply Nat.lt_pow_two_of_testBit
  intro i hi
  rw [Nat.testBit_mod_two_pow, Nat.testBit_div_two_pow]
  by_cases h16 : i < 16
  · have e : (x &&& mask).testBit (16 * N + i) = false := by
      show (Nat.land x mask).testBit _ = _
      rw [h]; exact Nat.zero_testBit _
    rw [Nat.testBit_and, mask_rep, rep_bit 10001 N i (by omega) hi h16, Bool.and_true] at e
    rw [Nat.add_comm i, e, Bool.and_false]
  · rw [decide_eq_false h16, Bool.false_and]
/-! the values in a row -/
def vs (a r e : Nat) : Nat → List Nat
  | 0 => [e]
  | t + 1 => (e + (a * ((t + 1) * (t + 1)) + r * (t + 1))) :: (e + (a * ((t + 1) * (t + 1)) - r * (t + 1))) :: vs a r e t
def pw (a r : Nat) : Nat → Nat
  | 0 => 1
  | t + 1 => 2 ^ (16 * (a * ((t + 1) * (t + 1)) + r * (t + 1))) + (2 ^ (16 * (a * ((t + 1) * (t + 1)) - r * (t + 1))) + pw a r t)
theorem vs_len (a r e : Nat) : ∀ t, (vs a r e t).length = 2 * t + 1
  | 0 => rfl
  | t + 1 => by unfold vs; rw [List.length_cons, List.length_cons, vs_len a r e t]; omega
theorem sm_vs (a r e : Nat) : ∀ t, sm (vs a r e t) = 2 ^ (16 * e) * pw a r t
  | 0 => by show 2 ^ (16 * e) + 0 = 2 ^ (16 * e) * 1; omega
  | t + 1 => by
    unfold vs pw
    show 2 ^ (16 * (e + _)) + (2 ^ (16 * (e + _)) + sm _) = _
    rw [sm_vs a r e t]
    generalize a * ((t + 1) * (t + 1)) + r * (t + 1) = u
    generalize a * ((t + 1) * (t + 1)) - r * (t + 1) = w
    rw [Nat.mul_add 16 e, Nat.mul_add 16 e, Nat.pow_add, Nat.pow_add, Nat.mul_add, Nat.mul_add]
def rr (a b y : Nat) : Nat := cond (Nat.ble ((b * y) % (2 * a)) a) ((b * y) % (2 * a)) (2 * a - (b * y) % (2 * a))
def ee (n a b y : Nat) : Nat := (rr a b y * rr a b y + n * (y * y)) / (4 * a)
def all (n a b T : Nat) : Nat → List Nat
  | 0 => vs a (rr a b 0) (ee n a b 0) T
  | y + 1 => vs a (rr a b (y + 1)) (ee n a b (y + 1)) T ++ (vs a (rr a b (y + 1)) (ee n a b (y + 1)) T ++ all n a b T y)
def tot (n a b T : Nat) : Nat → Nat
  | 0 => 2 ^ (16 * ee n a b 0) * pw a (rr a b 0) T
  | y + 1 => 2 ^ (16 * ee n a b (y + 1) + 1) * pw a (rr a b (y + 1)) T + tot n a b T y
theorem sm_all (n a b T : Nat) : ∀ y, sm (all n a b T y) = tot n a b T y
  | 0 => by unfold all tot; exact sm_vs ..
  | y + 1 => by
    unfold all tot
    rw [sm_app, sm_app, sm_vs, sm_all n a b T y, Nat.pow_succ, Nat.mul_assoc (2 ^ _) 2, Nat.mul_left_comm]
    omega
theorem all_len (n a b T : Nat) : ∀ y, (all n a b T y).length = (2 * y + 1) * (2 * T + 1)
  | 0 => by unfold all; rw [vs_len]; omega
  | y + 1 => by
    unfold all
    rw [List.length_append, List.length_append, vs_len, all_len n a b T y, show 2 * (y + 1) + 1 = 1 + (1 + (2 * y + 1)) by omega]
    generalize 2 * y + 1 = u
    generalize 2 * T + 1 = w
    rw [Nat.add_mul, Nat.add_mul 1 u, Nat.one_mul]
def rt (m : Nat) : Nat → Nat → Nat
  | 0, r => r
  | k + 1, r => cond (Nat.ble ((r + 2 ^ k) * (r + 2 ^ k)) m) (rt m k (r + 2 ^ k)) (rt m k r)
def tT (a : Nat) : Nat := [0, 101, 71, 58, 50, 45, 41, 38, 35, 33, 32, 30].getD a 0
def tst (n a b : Nat) : Nat → Bool := fun Y => Nat.blt 10000 (a * (tT a * (tT a + 1))) && (Nat.blt (40000 * a) (n * ((Y + 1) * (Y + 1))) && (Nat.blt ((2 * Y + 1) * (2 * tT a + 1)) 65536 && Nat.beq (Nat.land (tot n a b (tT a) Y) mask) 0))
def chk (n a b : Nat) : Bool := Nat.blt n 3 || (Nat.blt a 1 || (Nat.blt a b || (!(Nat.beq ((b * b + n) % (4 * a)) 0) || (Nat.blt ((b * b + n) / (4 * a)) a || tst n a b (rt (40000 * a / n) 8 0)))))
def chkR (lo k : Nat) : Bool := (List.range k).all fun i => (List.range 12).all fun a => (List.range 12).all fun b => chk (lo + i) a b
end Rb

set_option Elab.async false
set_option linter.all false
set_option maxRecDepth 100000
set_option maxHeartbeats 4000000
namespace Rb
open Fm
theorem ch0 : chkR 3 5 = true := by decide +kernel
theorem ch1 : chkR 8 10 = true := by decide +kernel
theorem ch2 : chkR 18 15 = true := by decide +kernel
theorem ch3 : chkR 33 20 = true := by decide +kernel
theorem ch4 : chkR 53 25 = true := by decide +kernel
theorem ch5 : chkR 78 25 = true := by decide +kernel
theorem ch6 : chkR 103 25 = true := by decide +kernel
theorem ch7 : chkR 128 25 = true := by decide +kernel
theorem ch8 : chkR 153 25 = true := by decide +kernel
theorem ch9 : chkR 178 25 = true := by decide +kernel
theorem ch10 : chkR 203 25 = true := by decide +kernel
theorem ch11 : chkR 228 25 = true := by decide +kernel
theorem ch12 : chkR 253 25 = true := by decide +kernel
theorem ch13 : chkR 278 25 = true := by decide +kernel
theorem ch14 : chkR 303 25 = true := by decide +kernel
theorem ch15 : chkR 328 25 = true := by decide +kernel
theorem ch16 : chkR 353 25 = true := by decide +kernel
theorem ch17 : chkR 378 23 = true := by decide +kernel
theorem chkR_at {lo k : Nat} (h : chkR lo k = true) {n a b : Nat} (h1 : lo ≤ n) (h2 : n < lo + k) (ha : a ≤ 11) (hb : b ≤ 11) : chk n a b = true := by
  unfold chkR at h
  have q1 := List.all_eq_true.mp h (n - lo) (List.mem_range.mpr (by omega))
  have q2 := List.all_eq_true.mp q1 a (List.mem_range.mpr (by omega))
  have q3 := List.all_eq_true.mp q2 b (List.mem_range.mpr (by omega))
  rw [show lo + (n - lo) = n by omega] at q3
  exact q3
theorem chk_at {n a b : Nat} (h3 : 3 ≤ n) (hn : n ≤ 400) (ha : a ≤ 11) (hb : b ≤ 11) : chk n a b = true := by
  by_cases z0 : n < 8
  · exact chkR_at ch0 (by omega) (by omega) ha hb
  by_cases z1 : n < 18
  · exact chkR_at ch1 (by omega) (by omega) ha hb
  by_cases z2 : n < 33
  · exact chkR_at ch2 (by omega) (by omega) ha hb
  by_cases z3 : n < 53
  · exact chkR_at ch3 (by omega) (by omega) ha hb
  by_cases z4 : n < 78
  · exact chkR_at ch4 (by omega) (by omega) ha hb
  by_cases z5 : n < 103
  · exact chkR_at ch5 (by omega) (by omega) ha hb
  by_cases z6 : n < 128
  · exact chkR_at ch6 (by omega) (by omega) ha hb
  by_cases z7 : n < 153
  · exact chkR_at ch7 (by omega) (by omega) ha hb
  by_cases z8 : n < 178
  · exact chkR_at ch8 (by omega) (by omega) ha hb
  by_cases z9 : n < 203
  · exact chkR_at ch9 (by omega) (by omega) ha hb
  by_cases z10 : n < 228
  · exact chkR_at ch10 (by omega) (by omega) ha hb
  by_cases z11 : n < 253
  · exact chkR_at ch11 (by omega) (by omega) ha hb
  by_cases z12 : n < 278
  · exact chkR_at ch12 (by omega) (by omega) ha hb
  by_cases z13 : n < 303
  · exact chkR_at ch13 (by omega) (by omega) ha hb
  by_cases z14 : n < 328
  · exact chkR_at ch14 (by omega) (by omega) ha hb
  by_cases z15 : n < 353
  · exact chkR_at ch15 (by omega) (by omega) ha hb
  by_cases z16 : n < 378
  · exact chkR_at ch16 (by omega) (by omega) ha hb
  by_cases z17 : n < 401
  · exact chkR_at ch17 (by omega) (by omega) ha hb
  omega
/-! ### counting -/
theorem len3 {x y : Int} {p : Int → Bool} : ∀ l : List Int, (∀ t ∈ l, p t = true ∨ t = x ∨ t = y) → l.length ≤ (l.filter p).length + l.count x + l.count y
  | [], _ => by simp
  | t :: l, h => by
    have ih := len3 l fun u hu => h u (List.mem_cons_of_mem _ hu)
    have c1 : l.count x ≤ (t :: l).count x := List.count_le_count_cons
    have c2 : l.count y ≤ (t :: l).count y := List.count_le_count_cons
    rw [List.length_cons]
    rcases h t (List.mem_cons_self ..) with q | q | q
    · rw [List.filter_cons_of_pos q, List.length_cons]
      omega
    · have e : (t :: l).count x = l.count x + 1 := by rw [q]; exact List.count_cons_self
      have f : (l.filter p).length ≤ ((t :: l).filter p).length := by
        rw [List.filter_cons]; split
        · rw [List.length_cons]; omega
        · exact Nat.le_refl _
      omega
    · have e : (t :: l).count y = l.count y + 1 := by rw [q]; exact List.count_cons_self
      have f : (l.filter p).length ≤ ((t :: l).filter p).length := by
        rw [List.filter_cons]; split
        · rw [List.length_cons]; omega
        · exact Nat.le_refl _
      omega
theorem cnt1 {x : Int} : ∀ {l : List Int}, l.Nodup → l.count x ≤ 1
  | [], _ => by simp
  | t :: l, h => by
    obtain ⟨h1, h2⟩ := List.nodup_cons.mp h
    by_cases e : t = x
    · subst e
      rw [List.count_cons_self, List.count_eq_zero.mpr h1]
      omega
    · rw [List.count_cons_of_ne e]
      exact cnt1 h2
theorem cntIf {x : Int} {l : List Int} (h : l.Nodup) {v N : Nat} (hv : x ∈ l → v = N) : l.count x ≤ if v == N then 1 else 0 := by
  by_cases m : x ∈ l
  · rw [hv m]
    simp only [BEq.rfl, if_true]
    exact cnt1 h
  · rw [List.count_eq_zero.mpr m]
    exact Nat.zero_le _
theorem cnt {a r e N : Nat} (hr : r ≤ a) : ∀ (T : Nat) (l : List Int), l.Nodup → (∀ t ∈ l, -(T : Int) ≤ t ∧ t ≤ T ∧ (e : Int) + a * (t * t) + r * t = N) → l.length ≤ (vs a r e T).count N
  | 0, l, nd, h => by
    cases l with
    | nil => exact Nat.zero_le _
    | cons x l =>
      obtain ⟨h1, h2⟩ := List.nodup_cons.mp nd
      obtain ⟨q1, q2, q3⟩ := h x (List.mem_cons_self ..)
      have x0 : x = 0 := by omega
      cases l with
      | cons y l =>
        obtain ⟨p1, p2, _⟩ := h y (List.mem_cons_of_mem _ (List.mem_cons_self ..))
        exact absurd (show x = y by omega) fun z => h1 (by rw [z]; exact List.mem_cons_self ..)
      | nil =>
        subst x0
        have : e = N := by simp only [Int.mul_zero, Int.add_zero] at q3; omega
        unfold vs
        rw [this, List.count_cons_self]
        show 1 ≤ _
        omega
  | T + 1, l, nd, h => by
    have ih := cnt hr T (l.filter fun t => decide (-(T : Int) ≤ t ∧ t ≤ T)) (nd.filter _) fun t ht => by
      obtain ⟨m1, m2⟩ := List.mem_filter.mp ht
      have := of_decide_eq_true m2
      exact ⟨this.1, this.2, (h t m1).2.2⟩
    have l3 := len3 (x := (T : Int) + 1) (y := -((T : Int) + 1)) (p := fun t => decide (-(T : Int) ≤ t ∧ t ≤ T)) l fun t ht => by
      obtain ⟨q1, q2, _⟩ := h t ht
      by_cases c : -(T : Int) ≤ t ∧ t ≤ T
      · exact .inl (decide_eq_true c)
      · right; omega
    have le : r * (T + 1) ≤ a * ((T + 1) * (T + 1)) := by
      rw [← Nat.mul_assoc]
      exact Nat.mul_le_mul_right _ (Nat.le_trans hr (Nat.le_mul_of_pos_right _ (by omega)))
    have b1 : l.count ((T : Int) + 1) ≤ if e + (a * ((T + 1) * (T + 1)) + r * (T + 1)) == N then 1 else 0 := cntIf nd fun m => by
      obtain ⟨_, _, q⟩ := h _ m
      have : ((e + (a * ((T + 1) * (T + 1)) + r * (T + 1)) : Nat) : Int) = N := by rw [← q]; push_cast; omega
      exact_mod_cast this
    have b2 : l.count (-((T : Int) + 1)) ≤ if e + (a * ((T + 1) * (T + 1)) - r * (T + 1)) == N then 1 else 0 := cntIf nd fun m => by
      obtain ⟨_, _, q⟩ := h _ m
      have e1 : ((a * ((T + 1) * (T + 1)) - r * (T + 1) : Nat) : Int) = (a : Int) * (((T : Int) + 1) * ((T : Int) + 1)) - r * ((T : Int) + 1) := by
        rw [Int.ofNat_sub le]; push_cast; rfl
      have : ((e + (a * ((T + 1) * (T + 1)) - r * (T + 1)) : Nat) : Int) = N := by
        rw [← q, Int.natCast_add, e1, Int.neg_mul_neg, Int.mul_neg]; omega
      exact_mod_cast this
    unfold vs
    rw [List.count_cons, List.count_cons]
    omega
/-- the rest of b y -/
theorem rr_ex {a b : Nat} (ha : 1 ≤ a) (y : Int) : ∃ k σ : Int, (σ = 1 ∨ σ = -1) ∧ (b : Int) * y = 2 * a * k + σ * rr a b y.natAbs ∧ rr a b y.natAbs ≤ a := by
  have pos : ∀ m : Nat, ∃ k σ : Int, (σ = 1 ∨ σ = -1) ∧ (b : Int) * m = 2 * a * k + σ * rr a b m ∧ rr a b m ≤ a := fun m => by
    have e : ((b * m : Nat) : Int) = 2 * a * ((b * m / (2 * a) : Nat) : Int) + ((b * m % (2 * a) : Nat) : Int) := by
      have := Nat.div_add_mod (b * m) (2 * a)
      have z : ((2 * a * (b * m / (2 * a)) + b * m % (2 * a) : Nat) : Int) = ((b * m : Nat) : Int) := by rw [this]
      rw [← z]; push_cast; rfl
    have lt : b * m % (2 * a) < 2 * a := Nat.mod_lt _ (by omega)
    rw [Int.natCast_mul] at e
    unfold rr
    by_cases c : b * m % (2 * a) ≤ a
    · rw [show Nat.ble (b * m % (2 * a)) a = true from Nat.ble_eq_true_of_le c]
      exact ⟨_, 1, .inl rfl, by rw [e, Int.one_mul]; rfl, c⟩
    · rw [show Nat.ble (b * m % (2 * a)) a = false from Bool.eq_false_iff.mpr fun z => c (Nat.le_of_ble_eq_true z)]
      refine ⟨((b * m / (2 * a) : Nat) : Int) + 1, -1, .inr rfl, ?_, ?_⟩
      · show _ = _ + -1 * ((2 * a - b * m % (2 * a) : Nat) : Int)
        rw [e, Int.ofNat_sub (by omega), Int.mul_add]
        push_cast
        omega
      · show 2 * a - b * m % (2 * a) ≤ a
        omega
  by_cases c : 0 ≤ y
  · obtain ⟨m, rfl⟩ := Int.eq_ofNat_of_zero_le c
    exact pos m
  · obtain ⟨m, hm⟩ := Int.eq_ofNat_of_zero_le (show 0 ≤ -y by omega)
    obtain ⟨k, σ, h1, h2, h3⟩ := pos m
    have e : y = -(m : Int) := by omega
    subst e
    rw [Int.natAbs_neg, Int.natAbs_natCast]
    refine ⟨-k, -σ, by omega, ?_, h3⟩
    rw [Int.mul_neg, h2, Int.neg_add, Int.mul_neg, Int.neg_mul]
theorem sqn (x : Int) : 0 ≤ x * x := by rw [← Int.natAbs_mul_self]; exact Int.natCast_nonneg _
theorem out {a T : Nat} {r t N : Int} (ha : 1 ≤ a) (hr0 : 0 ≤ r) (hr : r ≤ a) (hN : N ≤ 10000) (h : 10000 < a * (T * (T + 1))) (q : (a : Int) * (t * t) + r * t ≤ N) : -(T : Int) ≤ t ∧ t ≤ T := by
  have key : ∀ u : Nat, T + 1 ≤ u → (10000 : Int) < a * (u * (u - 1)) := fun u hu => by
    have h1 : T * (T + 1) ≤ (u - 1) * u := Nat.mul_le_mul (by omega) hu
    have h2 : a * (T * (T + 1)) ≤ a * ((u - 1) * u) := Nat.mul_le_mul_left _ h1
    have h3 : ((a * ((u - 1) * u) : Nat) : Int) = (a : Int) * (u * (u - 1)) := by
      push_cast
      rw [show ((u - 1 : Nat) : Int) = (u : Int) - 1 by omega, Int.mul_comm ((u : Int) - 1)]
    omega
  constructor
  · apply Classical.byContradiction; intro c
    obtain ⟨u, hu⟩ := Int.eq_ofNat_of_zero_le (show 0 ≤ -t by omega)
    have z := key u (by omega)
    have e : t = -(u : Int) := by omega
    subst e
    have m : r * u ≤ a * u := Int.mul_le_mul_of_nonneg_right hr (by omega)
    rw [Int.neg_mul_neg, Int.mul_neg] at q
    rw [Int.mul_sub, Int.mul_one, Int.mul_sub] at z
    omega
  · apply Classical.byContradiction; intro c
    obtain ⟨u, hu⟩ := Int.eq_ofNat_of_zero_le (show 0 ≤ t by omega)
    have z := key u (by omega)
    subst hu
    have m : 0 ≤ r * u := Int.mul_nonneg hr0 (by omega)
    have m2 : 0 ≤ (a : Int) * u := Int.mul_nonneg (by omega) (by omega)
    rw [Int.mul_sub, Int.mul_one, Int.mul_sub] at z
    omega
theorem fiber {n a b T N : Nat} {f : Fo} (ha : 1 ≤ a) (fa : f.a = a) (fb : f.b = b) (fd : dc f = -(n : Int)) (hN : N ≤ 10000) (hT : 10000 < a * (T * (T + 1))) (y : Int) (l : List Int) (nd : l.Nodup) (h : ∀ x ∈ l, vl f x y = N) :
    l.length ≤ (vs a (rr a b y.natAbs) (ee n a b y.natAbs) T).count N := by
  obtain ⟨k, σ, s1, s2, s3⟩ := rr_ex (b := b) ha y
  have ss : σ * σ = 1 := by rcases s1 with rfl | rfl <;> rfl
  generalize hρ : rr a b y.natAbs = ρ at *
  have key : ∀ x ∈ l, (4 * a : Int) * (N - a * ((σ * (x + k)) * (σ * (x + k))) - ρ * (σ * (x + k))) = ρ * ρ + n * (y * y) := fun x hx => by
    have e := vl_sq f x y
    rw [h x hx, fd, fa, fb] at e
    have e2 : 2 * (a : Int) * x + b * y = σ * (2 * a * (σ * (x + k)) + ρ) := by
      rw [s2]
      have : σ * (2 * a * (σ * (x + k)) + ρ) = σ * σ * (2 * a * (x + k)) + σ * ρ := by grind
      rw [this, ss]; grind
    rw [e2] at e
    have e3 : σ * (2 * a * (σ * (x + k)) + ρ) * (σ * (2 * a * (σ * (x + k)) + ρ)) = σ * σ * ((2 * a * (σ * (x + k)) + ρ) * (2 * a * (σ * (x + k)) + ρ)) := by grind
    rw [e3, ss] at e
    grind
  have ev : ∀ x ∈ l, (ee n a b y.natAbs : Int) + a * ((σ * (x + k)) * (σ * (x + k))) + ρ * (σ * (x + k)) = N := fun x hx => by
    have e := key x hx
    have yy : ((y.natAbs * y.natAbs : Nat) : Int) = y * y := by push_cast; exact Int.natAbs_mul_self
    generalize hw : (N : Int) - a * ((σ * (x + k)) * (σ * (x + k))) - ρ * (σ * (x + k)) = w at e
    have w0 : 0 ≤ w := by
      have p1 : (0 : Int) ≤ ρ * ρ + n * (y * y) := Int.add_nonneg (sqn _) (Int.mul_nonneg (by omega) (sqn _))
      rw [← e] at p1
      exact Int.nonneg_of_mul_nonneg_right p1 (by omega)
    obtain ⟨w', rfl⟩ := Int.eq_ofNat_of_zero_le w0
    have e4 : 4 * a * w' = ρ * ρ + n * (y.natAbs * y.natAbs) := by
      have : ((4 * a * w' : Nat) : Int) = ((ρ * ρ + n * (y.natAbs * y.natAbs) : Nat) : Int) := by
        rw [Int.natCast_add, Int.natCast_mul n, yy]
        push_cast
        rw [← e]
      exact_mod_cast this
    have e5 : ee n a b y.natAbs = w' := by
      unfold ee
      rw [hρ, ← e4, Nat.mul_div_cancel_left _ (by omega)]
    rw [e5]; omega
  have := cnt (e := ee n a b y.natAbs) (N := N) s3 T (l.map fun x => σ * (x + k)) ?_ ?_
  · rwa [List.length_map] at this
  · unfold List.Nodup
    rw [List.pairwise_map]
    refine List.Pairwise.imp (fun {u v} ne e => ne ?_) nd
    have : σ * (σ * (u + k)) = σ * (σ * (v + k)) := by rw [e]
    rw [← Int.mul_assoc, ← Int.mul_assoc, ss] at this
    omega
  · intro t ht
    obtain ⟨x, hx, rfl⟩ := List.mem_map.mp ht
    have e := ev x hx
    obtain ⟨o1, o2⟩ := out (N := N) (T := T) ha (show 0 ≤ (ρ : Int) by omega) (by omega) (by omega) hT (t := σ * (x + k)) (by omega)
    exact ⟨o1, o2, e⟩
theorem len4 {α : Type} {p q r : α → Bool} : ∀ l : List α, (∀ t ∈ l, p t = true ∨ q t = true ∨ r t = true) → l.length ≤ (l.filter p).length + ((l.filter q).length + (l.filter r).length)
  | [], _ => by simp
  | t :: l, h => by
    have ih := len4 l fun u hu => h u (List.mem_cons_of_mem _ hu)
    have up : ∀ s : α → Bool, (l.filter s).length ≤ ((t :: l).filter s).length := fun s => by
      rw [List.filter_cons]; split
      · rw [List.length_cons]; omega
      · exact Nat.le_refl _
    have u1 := up p
    have u2 := up q
    have u3 := up r
    rw [List.length_cons]
    rcases h t (List.mem_cons_self ..) with z | z | z
    · rw [List.filter_cons_of_pos z, List.length_cons] at *; omega
    · rw [List.filter_cons_of_pos z, List.length_cons] at *; omega
    · rw [List.filter_cons_of_pos z, List.length_cons] at *; omega
theorem row {n a b T N : Nat} {f : Fo} (ha : 1 ≤ a) (fa : f.a = a) (fb : f.b = b) (fd : dc f = -(n : Int)) (hN : N ≤ 10000) (hT : 10000 < a * (T * (T + 1))) (y : Int) (L : List (Int × Int)) (nd : L.Nodup) (h : ∀ p ∈ L, vl f p.1 p.2 = N ∧ p.2 = y) :
    L.length ≤ (vs a (rr a b y.natAbs) (ee n a b y.natAbs) T).count N := by
  have := fiber (n := n) ha fa fb fd hN hT y (L.map (·.1)) ?_ ?_
  · rwa [List.length_map] at this
  · unfold List.Nodup
    rw [List.pairwise_map]
    refine List.Pairwise.imp_of_mem (fun {u v} hu hv ne e => ne ?_) nd
    exact Prod.ext e (by rw [(h u hu).2, (h v hv).2])
  · intro x hx
    obtain ⟨p, hp, rfl⟩ := List.mem_map.mp hx
    obtain ⟨h1, h2⟩ := h p hp
    rw [← h2]; exact h1
theorem sums {n a b T N : Nat} {f : Fo} (ha : 1 ≤ a) (fa : f.a = a) (fb : f.b = b) (fd : dc f = -(n : Int)) (hN : N ≤ 10000) (hT : 10000 < a * (T * (T + 1))) :
    ∀ (Y : Nat) (L : List (Int × Int)), L.Nodup → (∀ p ∈ L, vl f p.1 p.2 = N ∧ -(Y : Int) ≤ p.2 ∧ p.2 ≤ Y) → L.length ≤ (all n a b T Y).count N
  | 0, L, nd, h => row ha fa fb fd hN hT 0 L nd fun p hp => by
      obtain ⟨h1, h2, h3⟩ := h p hp
      exact ⟨h1, by omega⟩
  | Y + 1, L, nd, h => by
    have l4 := len4 (p := fun p : Int × Int => decide (p.2 = (Y : Int) + 1)) (q := fun p => decide (p.2 = -((Y : Int) + 1))) (r := fun p => decide (-(Y : Int) ≤ p.2 ∧ p.2 ≤ Y)) L fun p hp => by
      obtain ⟨_, h2, h3⟩ := h p hp
      by_cases c1 : p.2 = (Y : Int) + 1
      · exact .inl (decide_eq_true c1)
      by_cases c2 : p.2 = -((Y : Int) + 1)
      · exact .inr (.inl (decide_eq_true c2))
      · exact .inr (.inr (decide_eq_true (by omega)))
    have r1 := row (n := n) ha fa fb fd hN hT ((Y : Int) + 1) (L.filter fun p => decide (p.2 = (Y : Int) + 1)) (nd.filter _) fun p hp => by
      obtain ⟨m1, m2⟩ := List.mem_filter.mp hp
      exact ⟨(h p m1).1, of_decide_eq_true m2⟩
    have r2 := row (n := n) ha fa fb fd hN hT (-((Y : Int) + 1)) (L.filter fun p => decide (p.2 = -((Y : Int) + 1))) (nd.filter _) fun p hp => by
      obtain ⟨m1, m2⟩ := List.mem_filter.mp hp
      exact ⟨(h p m1).1, of_decide_eq_true m2⟩
    have r3 := sums ha fa fb fd hN hT Y (L.filter fun p => decide (-(Y : Int) ≤ p.2 ∧ p.2 ≤ Y)) (nd.filter _) fun p hp => by
      obtain ⟨m1, m2⟩ := List.mem_filter.mp hp
      exact ⟨(h p m1).1, of_decide_eq_true m2⟩
    rw [Int.natAbs_neg] at r2
    rw [show ((Y : Int) + 1).natAbs = Y + 1 by omega] at r1 r2
    unfold all
    rw [List.count_append, List.count_append]
    omega
theorem few0 {f : Fo} (a1 : 1 ≤ f.a) (a11 : f.a ≤ 11) (h1 : 0 ≤ f.b) (h2 : f.b ≤ f.a) (h3 : f.a ≤ f.c) (d1 : -400 ≤ dc f) (d2 : dc f ≤ -3) (N : Nat) (hN : N ≤ 10000) (L : List (Int × Int)) (nd : L.Nodup) (h : ∀ p ∈ L, vl f p.1 p.2 = N) : L.length < 64 := by
  obtain ⟨a, fa⟩ := Int.eq_ofNat_of_zero_le (show 0 ≤ f.a by omega)
  obtain ⟨b, fb⟩ := Int.eq_ofNat_of_zero_le h1
  obtain ⟨c, fc⟩ := Int.eq_ofNat_of_zero_le (show 0 ≤ f.c by omega)
  obtain ⟨n, fn⟩ := Int.eq_ofNat_of_zero_le (show 0 ≤ -dc f by omega)
  have fd : dc f = -(n : Int) := by omega
  have eq : b * b + n = 4 * a * c := by
    have e : dc f = f.b * f.b - 4 * f.a * f.c := rfl
    rw [fd, fa, fb, fc] at e
    have : ((b * b + n : Nat) : Int) = ((4 * a * c : Nat) : Int) := by push_cast; omega
    exact_mod_cast this
  have ck := chk_at (n := n) (a := a) (b := b) (by omega) (by omega) (by omega) (by omega)
  have m0 : (b * b + n) % (4 * a) = 0 := by rw [eq]; exact Nat.mul_mod_right _ _
  have m1 : (b * b + n) / (4 * a) = c := by rw [eq]; exact Nat.mul_div_cancel_left _ (by omega)
  have nb : ∀ {x y : Nat}, y ≤ x → Nat.blt x y = false := fun {x y} h => Bool.eq_false_iff.mpr fun z => by
    have : x < y := Nat.le_of_ble_eq_true z
    omega
  unfold chk at ck
  rw [m1, m0, nb (show 3 ≤ n by omega), nb (show 1 ≤ a by omega), nb (show b ≤ a by omega), nb (show a ≤ c by omega)] at ck
  change tst n a b (rt (40000 * a / n) 8 0) = true at ck
  generalize hY : rt (40000 * a / n) 8 0 = Y at ck
  unfold tst at ck
  simp only [Bool.and_eq_true] at ck
  obtain ⟨c1, c2, c3, c4⟩ := ck
  have c1 : 10000 < a * (tT a * (tT a + 1)) := Nat.le_of_ble_eq_true c1
  have c2 : 40000 * a < n * ((Y + 1) * (Y + 1)) := Nat.le_of_ble_eq_true c2
  have c3 : (2 * Y + 1) * (2 * tT a + 1) < 65536 := Nat.le_of_ble_eq_true c3
  have c4 := Nat.eq_of_beq_eq_true c4
  have yb : ∀ p ∈ L, -(Y : Int) ≤ p.2 ∧ p.2 ≤ Y := fun p hp => by
    have e := vl_sq f p.1 p.2
    rw [h p hp, fd, fa] at e
    have p1 := sqn (2 * (a : Int) * p.1 + f.b * p.2)
    have u : (n : Int) * (p.2 * p.2) ≤ 40000 * a := by
      have : 4 * (a : Int) * N ≤ 4 * a * 10000 := Int.mul_le_mul_of_nonneg_left (by omega) (by omega)
      have : -(n : Int) * (p.2 * p.2) = -((n : Int) * (p.2 * p.2)) := Int.neg_mul _ _
      omega
    have v : p.2.natAbs ≤ Y := by
      apply Classical.byContradiction; intro q
      have g1 : (Y + 1) * (Y + 1) ≤ p.2.natAbs * p.2.natAbs := Nat.mul_le_mul (by omega) (by omega)
      have g2 : n * ((Y + 1) * (Y + 1)) ≤ n * (p.2.natAbs * p.2.natAbs) := Nat.mul_le_mul_left _ g1
      have g3 : ((n * (p.2.natAbs * p.2.natAbs) : Nat) : Int) = n * (p.2 * p.2) := by
        push_cast
        rw [Int.natAbs_mul_self']
      omega
    omega
  have s := sums (n := n) (by omega) fa fb fd hN c1 Y L nd fun p hp => ⟨h p hp, yb p hp⟩
  have dg := digit (N := N) (l := all n a b (tT a) Y) (by rw [all_len]; exact c3)
  rw [sm_all] at dg
  have := small (N := N) c4 hN
  omega
/-- a number is a value of a reduced form at fewer than 64 pairs -/
theorem few {f : Fo} (a1 : 1 ≤ f.a) (a11 : f.a ≤ 11) (h1 : -f.a ≤ f.b) (h2 : f.b ≤ f.a) (h3 : f.a ≤ f.c) (d1 : -400 ≤ dc f) (d2 : dc f ≤ -3) (N : Nat) (hN : N ≤ 10000) (L : List (Int × Int)) (nd : L.Nodup) (h : ∀ p ∈ L, vl f p.1 p.2 = N) : L.length < 64 := by
  by_cases c : 0 ≤ f.b
  · exact few0 a1 a11 c h2 h3 d1 d2 N hN L nd h
  · have ed : dc ⟨f.a, -f.b, f.c⟩ = dc f := by unfold dc; simp only; rw [Int.neg_mul_neg]
    have := few0 (f := ⟨f.a, -f.b, f.c⟩) a1 a11 (by simp only; omega) (by simp only; omega) h3 (by rw [ed]; exact d1) (by rw [ed]; exact d2) N hN (L.map fun p => (p.1, -p.2)) ?_ ?_
    · rwa [List.length_map] at this
    · unfold List.Nodup
      rw [List.pairwise_map]
      refine List.Pairwise.imp (fun {u v} ne e => ne ?_) nd
      injection e with e1 e2
      exact Prod.ext e1 (by omega)
    · intro p hp
      obtain ⟨q, hq, rfl⟩ := List.mem_map.mp hp
      rw [← h q hq]
      unfold vl
      simp only
      grind
end Rb

set_option Elab.async false
set_option linter.all false
set_option maxRecDepth 100000
set_option maxHeartbeats 4000000
namespace K06
open PySem PySem.Spec PyProof.Rows L2 Py Fm
variable {k : Nat}
def pK (l : List Int) : PyData := .tuple (l.map .int)
theorem toPs_ints : ∀ l : List Int, toPs (l.map D.int) = some (l.map PyData.int)
  | [] => rfl
  | i :: l => by
    rw [List.map_cons]
    unfold toPs
    rw [toPs_ints l]
    rfl
theorem toPs_tk : ∀ ls : List (List Int), toPs (ls.map tkD) = some (ls.map pK)
  | [] => rfl
  | l :: ls => by
    rw [List.map_cons]
    unfold toPs tkD toP
    rw [toPs_ints l, show toPs (ls.map fun k => D.tup (k.map D.int)) = toPs (ls.map tkD) from rfl, toPs_tk ls]
    rfl
theorem lay_ints : ∀ l : List Int, PyData.canLayAll0 (l.map PyData.int) = true ∧ PyData.depthAll (l.map PyData.int) ≤ 1
  | [] => by simp [PyData.canLayAll0, PyData.depthAll]
  | i :: l => by
    obtain ⟨h1, h2⟩ := lay_ints l
    rw [List.map_cons]
    constructor
    · simp [PyData.canLayAll0, PyData.canLay0, h1]
    · simp only [PyData.depthAll]
      have : (PyData.int i).depth ≤ 1 := by simp [PyData.depth]
      omega
theorem lay_tk : ∀ L : List (List Int), PyData.canLayAll0 (L.map pK) = true ∧ PyData.depthAll (L.map pK) ≤ 2
  | [] => by simp [PyData.canLayAll0, PyData.depthAll]
  | l :: L => by
    obtain ⟨h1, h2⟩ := lay_tk L
    obtain ⟨h3, h4⟩ := lay_ints l
    rw [List.map_cons]
    constructor
    · simp [PyData.canLayAll0, PyData.canLay0, pK, h1, h3]
    · simp only [PyData.depthAll]
      have : (pK l).depth ≤ 2 := by
        simp only [pK, PyData.depth]
        omega
      omega
theorem tk_lv (S : Store) (L : List (List Int)) : toP (deref S (.lv (L.map tkD))) = some (.list (L.map pK)) := by
  show toP (.lv (L.map tkD)) = _
  unfold toP
  rw [toPs_tk]; rfl
theorem ls_int {i : Int} {S : Store} : leave S (.ok (.int i) S) = .ok (.int i) S := leave_same (d := .int i) rfl
theorem ls_bl {b : Bool} {S : Store} : leave S (.ok (.bl b) S) = .ok (.bl b) S := leave_same (d := .bl b) rfl
theorem ls_F {f : Fo} {S : Store} : leave S (.ok (tF f) S) = .ok (tF f) S := leave_same (d := tF f) rfl
theorem ls_4 {a b c d : Int} {S : Store} : leave S (.ok (.tup [.int a, .int b, .int c, .int d]) S) = .ok (.tup [.int a, .int b, .int c, .int d]) S := leave_same (d := .tup [.int a, .int b, .int c, .int d]) rfl
theorem ls_non {S : Store} : leave S (.ok .non S) = .ok .non S := leave_same (d := .non) rfl
theorem whole4 (m : Ch) (S : Store) : call T G (k + 2) (Str.ofString "are_wholes") [tM m, .int 4] S = .ok (.bl true) S := by
  rw [call_eq T_are_wholes rfl]
  have i1 : isiD "tuple" (tM m) = some true := by rfl
  have z := decide_eq_true (rfl : (4 : Int) = 4)
  have key := comp_map (g := guardOf (tM m) S) (asg := fun d => asgC [2] true [2] d (wipeD [some (tM m), some (.int 4), none] [2])) (t := evB (call T G (k + 1)) G .yes) (e := evE (call T G (k + 1)) G (.call (Str.ofString "is_whole") (.cons (.var 2) .nil))) (S := S)
    (fun _ => rfl) (fun d => .bl true) [.int m.p, .int m.q, .int m.r, .int m.s] (by show 4 ≤ sizeLine; decide) (fun _ _ => rfl) (by
      intro d hd
      have : ∃ n, d = .int n := by
        simp only [List.mem_cons, List.not_mem_nil, or_false] at hd
        rcases hd with h | h | h | h <;> exact ⟨_, h⟩
      obtain ⟨n, rfl⟩ := this
      refine ⟨[some (tM m), some (.int 4), some (.int n)], rfl, fun acc => ⟨rfl, ?_⟩⟩
      simp -implicitDefEqProofs only [evSs, evS, evE, evB, evEs, evT, evTs, evI, evO, bindk_ok, ofO_some, List.map_cons, List.map_nil, List.replicate, List.cons_append, List.nil_append, List.getElem?_cons_zero, List.getElem?_cons_succ, List.set_cons_zero, List.set_cons_succ, Option.map, whole n])
  have l2 : bf S .len [tM m] = some (.int 4) := rfl
  have it : items S (tM m) = some [.int m.p, .int m.q, .int m.r, .int m.s] := rfl
  simp -implicitDefEqProofs only [evSs, evS, evE, evB, evEs, evT, evTs, evI, evO, bindk_ok, ofO_some, List.map_cons, List.map_nil, List.replicate, List.cons_append, List.nil_append, List.getElem?_cons_zero, List.getElem?_cons_succ, List.set_cons_zero, List.set_cons_succ, Option.map] at key
  simp -implicitDefEqProofs only [f_are_wholes, evSs, evS, evE, evB, evEs, evT, evTs, evI, evO, bindk_ok, ofO_some, List.map_cons, List.map_nil, List.replicate, List.cons_append, List.nil_append, List.getElem?_cons_zero, List.getElem?_cons_succ, List.set_cons_zero, List.set_cons_succ, Option.map, i1, if_true, l2, cop_eq, z, decide_true, it]
  rw [key]
  have e : bf S .all [.lv [.bl true, .bl true, .bl true, .bl true]] = some (.bl true) := lv1 (bs := [true, true, true, true]) rfl
  simp -implicitDefEqProofs only [evSs, evS, evE, evB, evEs, evT, evTs, evI, evO, bindk_ok, ofO_some, List.map_cons, List.map_nil, List.replicate, List.cons_append, List.nil_append, List.getElem?_cons_zero, List.getElem?_cons_succ, List.set_cons_zero, List.set_cons_succ, Option.map, e]
  first | exact leave_same rfl | exact ls_int | exact ls_bl | exact ls_F | exact ls_4 | exact ls_non
theorem checkCh (m : Ch) (bm : BC 6000 m) (hm : dt m = 1) (S : Store) : call T G (k + 4) (Str.ofString "check_change") [tM m] S = .ok .non S := by
  have m1 : mulOk m.p m.s = true := mulOk_big bm.p bm.s (by decide)
  have m2 : mulOk m.q m.r = true := mulOk_big bm.q bm.r (by decide)
  have it : items S (tM m) = some [.int m.p, .int m.q, .int m.r, .int m.s] := rfl
  have z := decide_eq_true (show m.p * m.s - m.q * m.r = 1 from hm)
  have e : call T G (k + 3) (Str.ofString "is_change_by") [tM m] S = .ok (.bl true) S := by
    rw [call_eq T_is_change_by rfl]
    simp -implicitDefEqProofs only [f_is_change_by, evSs, evS, evE, evB, evEs, evT, evTs, evI, evO, bindk_ok, ofO_some, List.map_cons, List.map_nil, List.replicate, List.cons_append, List.nil_append, List.getElem?_cons_zero, List.getElem?_cons_succ, List.set_cons_zero, List.set_cons_succ, Option.map, whole4 (k := k) m S, if_true, it, at0, at1, at2, at3, bop_mul m1, bop_mul m2, bop_sub, cop_eq, z]
    first | exact leave_same rfl | exact ls_int | exact ls_bl | exact ls_F | exact ls_4 | exact ls_non
  rw [call_eq T_check_change rfl]
  simp -implicitDefEqProofs only [f_check_change, evSs, evS, evE, evB, evEs, evT, evTs, evI, evO, bindk_ok, ofO_some, List.map_cons, List.map_nil, List.replicate, List.cons_append, List.nil_append, List.getElem?_cons_zero, List.getElem?_cons_succ, List.set_cons_zero, List.set_cons_succ, Option.map, e, tr_bl, Bool.not_true, Bool.false_eq_true, if_false]
  first | exact leave_same rfl | exact ls_int | exact ls_bl | exact ls_F | exact ls_4 | exact ls_non
theorem changed (f : Fo) (h : Gb f) (m : Ch) (bm : BC 6000 m) (hm : dt m = 1) (S : Store) : call T G (k + 6) (Str.ofString "changed") [tF f, tM m] S = .ok (tF (Fm.ld f m)) S := by
  rw [call_eq T_changed rfl]
  simp -implicitDefEqProofs only [f_changed, evSs, evS, evE, evB, evEs, evT, evTs, evI, evO, bindk_ok, ofO_some, List.map_cons, List.map_nil, List.replicate, List.cons_append, List.nil_append, List.getElem?_cons_zero, List.getElem?_cons_succ, List.set_cons_zero, List.set_cons_succ, Option.map, checkForm (k := k) f h S, checkCh (k := k + 1) m bm hm S, pled (k := k + 3) f m (h.b.mono (by decide)) bm S]
  first | exact leave_same rfl | exact ls_int | exact ls_bl | exact ls_F | exact ls_4 | exact ls_non
theorem lg64 (x : Int) (hx : x.natAbs < 10 ^ 12) : (if x = 0 then 0 else x.natAbs.log2 + 1) ≤ 65 := by
  split
  · omega
  · have : x.natAbs.log2 < 64 := (Nat.log2_lt (by omega)).mpr (by omega)
    omega
theorem dbl (S : Store) (x : D) : bop S .mul (.lv [x]) (.int 2) = some (.lv [x, x]) := by
  show (match lsOf S (.lv [x]) with
    | some y => if -(2 ^ 63) ≤ (2 : Int) ∧ (2 : Int) < 2 ^ 63 ∧ y.length * (2 : Int).toNat ≤ sizeLine then some (D.lv (List.replicate (2 : Int).toNat y).flatten) else none
    | _ => none) = _
  show (if -(2 ^ 63) ≤ (2 : Int) ∧ (2 : Int) < 2 ^ 63 ∧ 1 * 2 ≤ sizeLine then some (D.lv [x, x]) else none) = _
  rw [if_pos ⟨by decide, by decide, by decide⟩]
theorem reprN {d : D} {p : PyData} (tp : toP d = some p) (hn : numD d = true) (hd : p.depth ≤ 64) (hw : p.weight ≤ 2 ^ 20) (S : Store) (hr : deref S d = d) : ∃ x, bf S .repr [d] = some (.str x) ∧ cop S .ne (.str x) (.str x) = some false := by
  obtain ⟨e1, e2⟩ := repr_num (S := S) tp hn hd hw hr
  refine ⟨_, e1, ?_⟩
  show (eqP S (.str p.shown) (.str p.shown)).map (!·) = some false
  rw [show eqP S (.str p.shown) (.str p.shown) = some true from cop_eq_str (S := S) e2]; rfl

theorem permK2 (a b : D) : permK 0 2 [1, 0] [] [b, a] = some [a, b] := by rfl
/-- all pairs at which a form has a value, in order -/
structure Sol (f : Fo) (N : Nat) (L : List (List Int)) : Prop where
  nd : L.Nodup
  so : isort HT.lexLt L = L
  mem : ∀ l, l ∈ L ↔ ∃ x y, l = [x, y] ∧ vl f x y = N
theorem Sol.uniq {f : Fo} {N : Nat} {L M : List (List Int)} (h : Sol f N L) (g : Sol f N M) : L = M := by
  rw [← h.so, ← g.so]
  exact isort_uniq anti_lexI swo_lexI (perm_nodup h.nd g.nd fun l => (h.mem l).trans (g.mem l).symm)
theorem Sol.of {f : Fo} {N : Nat} {L : List (List Int)} (nd : L.Nodup) (mem : ∀ l, l ∈ L ↔ ∃ x y, l = [x, y] ∧ vl f x y = N) : Sol f N (isort HT.lexLt L) :=
  ⟨(isort_perm _ L).nodup_iff.mpr nd, isort_uniq anti_lexI swo_lexI (isort_perm _ L), fun l => by rw [(isort_perm _ L).mem_iff]; exact mem l⟩
def gL (m : Ch) : List Int → List Int
  | [x, y] => [m.p * x + m.q * y, m.r * x + m.s * y]
  | l => l
theorem gL_back {m : Ch} (hm : dt m = 1) (x y : Int) : gL (bk m) (gL m [x, y]) = [x, y] := by
  unfold dt at hm
  have h1 : m.s * (m.p * x + m.q * y) + -m.q * (m.r * x + m.s * y) = (m.p * m.s - m.q * m.r) * x := by grind
  have h2 : -m.r * (m.p * x + m.q * y) + m.p * (m.r * x + m.s * y) = (m.p * m.s - m.q * m.r) * y := by grind
  show [m.s * (m.p * x + m.q * y) + -m.q * (m.r * x + m.s * y), -m.r * (m.p * x + m.q * y) + m.p * (m.r * x + m.s * y)] = _
  rw [h1, h2, hm, Int.one_mul, Int.one_mul]
/-- pairs of the form to which a change leads, led back -/
theorem sol_map {f : Fo} {m : Ch} (hm : dt m = 1) {N : Nat} {L : List (List Int)} (nd : L.Nodup) (mem : ∀ l, l ∈ L ↔ ∃ x y, l = [x, y] ∧ vl (ld f m) x y = N) :
    (L.map (gL m)).Nodup ∧ ∀ l, l ∈ L.map (gL m) ↔ ∃ x y, l = [x, y] ∧ vl f x y = N := by
  constructor
  · unfold List.Nodup
    rw [List.pairwise_map]
    refine List.Pairwise.imp_of_mem (fun {u v} hu hv ne e => ne ?_) nd
    obtain ⟨x, y, rfl, _⟩ := (mem u).mp hu
    obtain ⟨z, w, rfl, _⟩ := (mem v).mp hv
    rw [← gL_back hm x y, e, gL_back hm]
  · intro l
    rw [List.mem_map]
    constructor
    · rintro ⟨u, hu, rfl⟩
      obtain ⟨x, y, rfl, e⟩ := (mem u).mp hu
      exact ⟨_, _, rfl, by rw [← vl_ld]; exact e⟩
    · rintro ⟨x, y, rfl, e⟩
      refine ⟨gL (bk m) [x, y], (mem _).mpr ⟨_, _, rfl, ?_⟩, ?_⟩
      · have hb : dt (bk m) = 1 := by rw [dt_bk, hm]
        rw [← vl_ld, ← ld_af, (af_bk m hm).1, ld_on]
        exact e
      · have hb : dt (bk m) = 1 := by rw [dt_bk, hm]
        have := gL_back hb x y
        rw [show bk (bk m) = m by unfold bk; simp] at this
        exact this
theorem xy_bd {n : Int} {f : Fo} (h : Gd n f) {N : Nat} (hN : N ≤ 10000) {x y : Int} (e : vl f x y = N) : big 13 x ∧ big 13 y := by
  obtain ⟨s1, s2, s3, s4, s5, s6, s7⟩ := gd_sm h
  have hd := h.d
  have n2 := h.g.hi
  have q := vl_sq f x y
  rw [e, hd] at q
  have a4 : 4 * f.a * (N : Int) ≤ 44 * 10000 := Int.mul_le_mul (by omega) (by omega) (by omega) (by omega)
  have ny : n * (y * y) ≤ -3 * (y * y) := Int.mul_le_mul_of_nonneg_right (by omega) (sq_nn y)
  have y1 : y * y ≤ 400 * 400 := by
    have := sq_nn (2 * f.a * x + f.b * y)
    omega
  have yb := sq_lt (x := y) (y := 400) (by decide) y1
  have u1 : (2 * f.a * x + f.b * y) * (2 * f.a * x + f.b * y) ≤ 700 * 700 := by
    have := sq_nn y
    omega
  have ub := sq_lt (by decide) u1
  have b1 : f.b * y ≤ 11 * 400 ∧ -(11 * 400) ≤ f.b * y := by
    have t := Int.natAbs_mul f.b y
    have : f.b.natAbs * y.natAbs ≤ 11 * 400 := Nat.mul_le_mul (by omega) (by omega)
    omega
  have x1 : (2 * f.a * x).natAbs ≤ 5100 := by omega
  have x2 : x.natAbs ≤ (2 * f.a * x).natAbs := by
    rw [Int.natAbs_mul]
    exact Nat.le_mul_of_pos_left _ (by omega)
  exact ⟨big_i (by omega), big_i (by omega)⟩
def gD (m : Ch) : D → D
  | .tup [.int x, .int y] => .tup [.int (m.p * x + m.q * y), .int (m.r * x + m.s * y)]
  | _ => .non
theorem gD_map {m : Ch} : ∀ L : List (List Int), (∀ l ∈ L, ∃ x y, l = [x, y]) → (L.map tkD).map (gD m) = (L.map (gL m)).map tkD
  | [], _ => rfl
  | l :: L, h => by
    obtain ⟨x, y, rfl⟩ := h l (List.mem_cons_self ..)
    rw [List.map_cons, List.map_cons, List.map_cons, List.map_cons, gD_map L fun l hl => h l (List.mem_cons_of_mem _ hl)]
    rfl
theorem gD_still (m : Ch) (d : D) : still (gD m d) = true := by
  unfold gD
  split <;> rfl
theorem sortLv (S : Store) (L : List (List Int)) (h : ∀ l ∈ L, l ≠ []) : bf S .sort [.lv (L.map tkD)] = some (.lv ((isort HT.lexLt L).map tkD)) := by
  rw [bf_sortL (show lsOf S (.lv (L.map tkD)) = some (L.map tkD) from rfl), srt_tks L h]
  rfl
theorem tupLv (S : Store) (ds : List D) : bf S .tuple [.lv ds] = some (.tup ds) := rfl
/-- the comprehension that leads pairs back -/
theorem back_comp {m : Ch} (hm : BC 506 m) {η : Sl} {e : IE} {C : Str → List D → Store → Res D} (L : List (List Int)) (hL : ∀ l ∈ L, ∃ x y, l = [x, y] ∧ big 45 x ∧ big 45 y) (hl : L.length ≤ 3000) (S : Store) (g : Store → Bool) (hg : ∀ S, g S = true) (asg : D → Option Sl)
    (h : ∀ x y, big 45 x → big 45 y → ∃ η, asg (.tup [.int x, .int y]) = some η ∧ ∀ S, evE C G e η S = .ok (gD m (.tup [.int x, .int y])) S) :
    leave S (comL g asg (evB C G .yes) (evE C G e) S.length (L.map tkD) (S ++ [Cell.lst []])) = .ok (.lv ((L.map (gL m)).map tkD)) S := by
  rw [← gD_map L fun l hl => let ⟨x, y, e, _⟩ := hL l hl; ⟨x, y, e⟩]
  refine comp_map hg (gD m) (L.map tkD) (by rw [List.length_map]; exact Nat.le_trans hl (by decide)) (fun d _ => gD_still m d) fun d hd => ?_
  obtain ⟨l, hl, rfl⟩ := List.mem_map.mp hd
  obtain ⟨x, y, rfl, bx, by'⟩ := hL l hl
  obtain ⟨η, h1, h2⟩ := h x y bx by'
  exact ⟨η, h1, fun acc => ⟨rfl, h2 _⟩⟩
theorem way_red {f : Fo} (h : Po f) : ld f (Fm.way f) = red f ∧ dt (Fm.way f) = 1 := ⟨(red_ok h).1, (red_ok h).2.1⟩
theorem solutionsBy (f : Fo) (h : Gb f) (N : Nat) (hN : N ≤ 10000) (S : Store) : ∃ L : List (List Int), Sol f N L ∧ call T G (k + 4) (Str.ofString "solutions_by") [tF f, .int (N : Int)] S = .ok (.tup (L.map tkD)) S := by
  have hD := h.g.lo
  have e1 := reduction (k := k) f h.g.po hD (h.b.mono (by decide)) S
  obtain ⟨L, nd, ln, mem, e2⟩ := pairs (k := k + 1) (red f) (red_gd h.g) N hN S
  obtain ⟨w1, w2⟩ := way_red h.g.po
  have bw := way_b h
  rw [← w1] at mem
  obtain ⟨nd2, mem2⟩ := sol_map w2 nd mem
  refine ⟨isort HT.lexLt (L.map (gL (Fm.way f))), Sol.of nd2 mem2, ?_⟩
  have ne : ∀ l ∈ L.map (gL (Fm.way f)), l ≠ [] := fun l hl => by
    obtain ⟨x, y, e, _⟩ := (mem2 l).mp hl
    rw [e]; simp
  have hs2 : (2 : Nat) ≤ sizeLine := by decide
  have gg := red_gd h.g
  have comp := back_comp (C := call T G (k + 3)) (η := []) (m := Fm.way f) (e := .tup (.cons (.op .add (.op .mul (.var 3) (.var 7)) (.op .mul (.var 4) (.var 8))) (.cons (.op .add (.op .mul (.var 5) (.var 7)) (.op .mul (.var 6) (.var 8))) .nil))) bw L
    (fun l hl => by
      obtain ⟨x, y, e, v⟩ := (mem l).mp hl
      rw [w1] at v
      obtain ⟨b1, b2⟩ := xy_bd gg hN v
      exact ⟨x, y, e, big_mono b1 (by decide), big_mono b2 (by decide)⟩) ln S (guardOf (.lv (L.map tkD)) S) (fun _ => rfl)
    (fun d => asgC [7, 8] false [7, 8] d (wipeD [some (tF f), some (.int (N : Int)), some (tF (red f)), some (.int (Fm.way f).p), some (.int (Fm.way f).q), some (.int (Fm.way f).r), some (.int (Fm.way f).s), none, none] [7, 8]))
    fun x y bx by' => ⟨[some (tF f), some (.int (N : Int)), some (tF (red f)), some (.int (Fm.way f).p), some (.int (Fm.way f).q), some (.int (Fm.way f).r), some (.int (Fm.way f).s), some (.int x), some (.int y)], rfl, fun S => by
      have m1 : mulOk (Fm.way f).p x = true := mulOk_big bw.p bx (by decide)
      have m2 : mulOk (Fm.way f).q y = true := mulOk_big bw.q by' (by decide)
      have m3 : mulOk (Fm.way f).r x = true := mulOk_big bw.r bx (by decide)
      have m4 : mulOk (Fm.way f).s y = true := mulOk_big bw.s by' (by decide)
      simp -implicitDefEqProofs only [evSs, evS, evE, evB, evEs, evT, evTs, evI, evO, bindk_ok, ofO_some, List.map_cons, List.map_nil, List.replicate, List.cons_append, List.nil_append, List.getElem?_cons_zero, List.getElem?_cons_succ, List.set_cons_zero, List.set_cons_succ, Option.map, bop_mul m1, bop_mul m2, bop_mul m3, bop_mul m4, bop_add, List.length_cons, List.length_nil, Nat.zero_add, Nat.reduceAdd, hs2, if_true]
      rfl⟩
  rw [call_eq T_solutions_by rfl]
  have its : ∀ (S : Store) (ds : List D), items S (.lv ds) = some ds := fun _ _ => rfl
  have l2 : (2 = (ITs.cons (IT.name 2) (ITs.cons (IT.tup (ITs.cons (IT.name 3) (ITs.cons (IT.name 4) (ITs.cons (IT.name 5) (ITs.cons (IT.name 6) ITs.nil))))) ITs.nil)).len) = True := eq_true rfl
  have l4 : (4 = (ITs.cons (IT.name 3) (ITs.cons (IT.name 4) (ITs.cons (IT.name 5) (ITs.cons (IT.name 6) ITs.nil)))).len) = True := eq_true rfl
  have tm : tM (Fm.way f) = .tup [.int (Fm.way f).p, .int (Fm.way f).q, .int (Fm.way f).r, .int (Fm.way f).s] := rfl
  simp -implicitDefEqProofs only [evSs, evS, evE, evB, evEs, evT, evTs, evI, evO, bindk_ok, ofO_some, List.map_cons, List.map_nil, List.replicate, List.cons_append, List.nil_append, List.getElem?_cons_zero, List.getElem?_cons_succ, List.set_cons_zero, List.set_cons_succ, Option.map] at comp
  simp -implicitDefEqProofs only [f_solutions_by, evSs, evS, evE, evB, evEs, evT, evTs, evI, evO, bindk_ok, ofO_some, List.map_cons, List.map_nil, List.replicate, List.cons_append, List.nil_append, List.getElem?_cons_zero, List.getElem?_cons_succ, List.set_cons_zero, List.set_cons_succ, Option.map, e1, tm, List.length_cons, List.length_nil, Nat.zero_add, Nat.reduceAdd, l2, l4, if_true, e2, its]
  rw [comp]
  simp -implicitDefEqProofs only [evSs, evS, evE, evB, evEs, evT, evTs, evI, evO, bindk_ok, ofO_some, List.map_cons, List.map_nil, List.replicate, List.cons_append, List.nil_append, List.getElem?_cons_zero, List.getElem?_cons_succ, List.set_cons_zero, List.set_cons_succ, Option.map, sortLv S _ ne, tupLv]
  exact leave_same (tk_still _)
theorem G_most : cons.lookup (Str.ofString "MOST_VALUE") = some (.int 10000) := by rfl
theorem checkN (v a b : Int) (S : Store) (h : a ≤ v ∧ v ≤ b) : call T G (k + 3) (Str.ofString "check_number") [.int v, .int a, .int b] S = .ok .non S := by
  rw [call_eq T_check_number rfl]
  simp -implicitDefEqProofs only [f_check_number, evSs, evS, evE, evB, evEs, evT, evTs, evI, evO, bindk_ok, ofO_some, List.map_cons, List.map_nil, List.replicate, List.cons_append, List.nil_append, List.getElem?_cons_zero, List.getElem?_cons_succ, List.set_cons_zero, List.set_cons_succ, Option.map, within (k := k) v a b S h, tr_bl, Bool.not_true, Bool.false_eq_true, if_false]
  exact leave_same rfl
theorem solutions (f : Fo) (h : Gb f) (N : Nat) (hN : N ≤ 10000) (S : Store) : ∃ L : List (List Int), Sol f N L ∧ call T G (k + 6) (Str.ofString "solutions") [tF f, .int (N : Int)] S = .ok (.tup (L.map tkD)) S := by
  obtain ⟨L, hL, e⟩ := solutionsBy (k := k + 1) f h N hN S
  refine ⟨L, hL, ?_⟩
  rw [call_eq T_solutions rfl]
  simp -implicitDefEqProofs only [f_solutions, evSs, evS, evE, evB, evEs, evT, evTs, evI, evO, bindk_ok, ofO_some, List.map_cons, List.map_nil, List.replicate, List.cons_append, List.nil_append, List.getElem?_cons_zero, List.getElem?_cons_succ, List.set_cons_zero, List.set_cons_succ, Option.map, checkForm (k := k) f h S, G_most, checkN (k := k + 2) (N : Int) 0 10000 S (by omega), e]
  exact leave_same (tk_still L)
/-- fewer than 64 of them -/
theorem Sol.few {f : Fo} (h : Gf f) {N : Nat} (hN : N ≤ 10000) {L : List (List Int)} (s : Sol f N L) : L.length < 64 := by
  obtain ⟨w1, w2⟩ := way_red h.po
  obtain ⟨s1, s2, s3, s4, s5, s6, s7⟩ := gd_sm (red_gd h)
  have r3 := (red_gd h).r.l3
  have d1 := (red_gd h).g.lo
  have d2 := (red_gd h).g.hi
  have hb : dt (bk (Fm.way f)) = 1 := by rw [dt_bk, w2]
  obtain ⟨nd, mem⟩ := sol_map (f := red f) (m := bk (Fm.way f)) hb (N := N) s.nd (fun l => by
    rw [← w1, ← ld_af, (af_bk _ w2).1, ld_on]
    exact s.mem l)
  have := Rb.few s6 s1 s4 s5 r3 d1 d2 N hN ((L.map (gL (bk (Fm.way f)))).map fun l => (l.getD 0 0, l.getD 1 0)) ?_ ?_
  · rwa [List.length_map, List.length_map] at this
  · unfold List.Nodup
    rw [List.pairwise_map]
    refine List.Pairwise.imp_of_mem (fun {u v} hu hv ne e => ne ?_) nd
    obtain ⟨x, y, rfl, _⟩ := (mem u).mp hu
    obtain ⟨z, w, rfl, _⟩ := (mem v).mp hv
    injection e with e1 e2
    have e1 : x = z := e1
    have e2 : y = w := e2
    rw [e1, e2]
  · intro p hp
    obtain ⟨l, hl, rfl⟩ := List.mem_map.mp hp
    obtain ⟨x, y, rfl, e⟩ := (mem l).mp hl
    exact e
theorem numK : ∀ L : List (List Int), (∀ l ∈ L, ∃ x y : Int, l = [x, y] ∧ x.natAbs < 10 ^ 12 ∧ y.natAbs < 10 ^ 12) → numDs (L.map tkD) = true ∧ PyData.weightAll (L.map pK) ≤ 300 * L.length ∧ PyData.depthAll (L.map pK) ≤ 1
  | [], _ => ⟨rfl, by simp [PyData.weightAll], by simp [PyData.depthAll]⟩
  | l :: L, h => by
    obtain ⟨h1, h2, h3⟩ := numK L fun g hg => h g (List.mem_cons_of_mem _ hg)
    obtain ⟨x, y, rfl, a, b⟩ := h l (List.mem_cons_self ..)
    refine ⟨?_, ?_, ?_⟩
    · rw [List.map_cons]
      unfold numDs
      rw [h1]
      simp [tkD, numD, numDs, a, b]
    · have la := lg64 x a
      have lb := lg64 y b
      rw [List.map_cons, List.length_cons]
      unfold PyData.weightAll
      simp [pK, PyData.weight, PyData.weightAll]
      generalize (if x = 0 then 0 else x.natAbs.log2 + 1) = u at la ⊢
      generalize (if y = 0 then 0 else y.natAbs.log2 + 1) = v at lb ⊢
      omega
    · rw [List.map_cons]
      unfold PyData.depthAll
      simp [pK, PyData.depth, PyData.depthAll]
      try omega
theorem rep1 (L : List (List Int)) (h : ∀ l ∈ L, ∃ x y : Int, l = [x, y] ∧ x.natAbs < 10 ^ 12 ∧ y.natAbs < 10 ^ 12) (hl : L.length < 64) (S : Store) : ∃ x, bf S .repr [.tup (L.map tkD)] = some (.str x) ∧ cop S .ne (.str x) (.str x) = some false := by
  obtain ⟨h1, h2, h3⟩ := numK L h
  refine reprN (d := .tup (L.map tkD)) (p := .tuple (L.map pK)) (by unfold toP; rw [toPs_tk]; rfl) h1 (by unfold PyData.depth; omega) ?_ S rfl
  unfold PyData.weight
  omega
theorem rep2 (L : List (List Int)) (h : ∀ l ∈ L, ∃ x y : Int, l = [x, y] ∧ x.natAbs < 10 ^ 12 ∧ y.natAbs < 10 ^ 12) (hl : L.length < 64) (S : Store) : ∃ x, bf S .repr [.lv [.tup (L.map tkD), .tup (L.map tkD)]] = some (.str x) ∧ cop S .ne (.str x) (.str x) = some false := by
  obtain ⟨h1, h2, h3⟩ := numK L h
  have tp : toP (.tup (L.map tkD)) = some (.tuple (L.map pK)) := by unfold toP; rw [toPs_tk]; rfl
  have nd : numD (.tup (L.map tkD)) = true := h1
  refine reprN (p := .list [.tuple (L.map pK), .tuple (L.map pK)]) (by unfold toP; unfold toPs; rw [tp]; unfold toPs; rw [tp]; rfl) (by show (numD (.tup (L.map tkD)) && (numD (.tup (L.map tkD)) && true)) = true; rw [nd]; rfl) ?_ ?_ S rfl
  · simp [PyData.depth, PyData.depthAll]; omega
  · simp [PyData.weight, PyData.weightAll]; omega
end K06

set_option Elab.async false
set_option linter.all false
set_option maxRecDepth 100000
set_option maxHeartbeats 4000000
namespace K06
open PySem PySem.Spec PyProof.Rows L2 Py Fm
variable {k : Nat}
theorem mb {x y : Int} {A B : Nat} (hx : x.natAbs ≤ A) (hy : y.natAbs ≤ B) : (x * y).natAbs ≤ A * B := by
  rw [Int.natAbs_mul]; exact Nat.mul_le_mul hx hy
structure Ce (E : Nat) (m : Ch) : Prop where
  p : m.p.natAbs ≤ E
  q : m.q.natAbs ≤ E
  r : m.r.natAbs ≤ E
  s : m.s.natAbs ≤ E
theorem Ce.bc {m : Ch} (h : Ce 12 m) : BC 5 m := ⟨show _ < 2 ^ 5 by have := h.p; omega, show _ < 2 ^ 5 by have := h.q; omega, show _ < 2 ^ 5 by have := h.r; omega, show _ < 2 ^ 5 by have := h.s; omega⟩
theorem step_c {s : Int} (hs : s.natAbs ≤ 3) {d : D} (h : d ∈ [D.tup [.int 0, .int (-1), .int 1, .int 0], .tup [.int 1, .int s, .int 0, .int 1], .tup [.int 1, .int 0, .int s, .int 1]]) :
    ∃ m : Ch, d = tM m ∧ dt m = 1 ∧ Ce 3 m ∧ ∀ E g, Ce E g → Ce (4 * E) (af g m) := by
  simp only [List.mem_cons, List.not_mem_nil, or_false] at h
  rcases h with h | h | h
  · refine ⟨⟨0, -1, 1, 0⟩, h, by decide, ⟨by decide, by decide, by decide, by decide⟩, fun E g ⟨a, b, c, d⟩ => ?_⟩
    unfold af
    constructor <;> simp only <;> omega
  · refine ⟨⟨1, s, 0, 1⟩, h, by unfold dt; grind, ⟨by simp, hs, by simp, by simp⟩, fun E g ⟨a, b, c, d⟩ => ?_⟩
    have h1 := mb a hs
    have h2 := mb c hs
    unfold af
    constructor <;> simp only <;> omega
  · refine ⟨⟨1, 0, s, 1⟩, h, by unfold dt; grind, ⟨by simp, by simp, hs, by simp⟩, fun E g ⟨a, b, c, d⟩ => ?_⟩
    have h1 := mb b hs
    have h2 := mb d hs
    unfold af
    constructor <;> simp only <;> omega
theorem on_af' (m : Ch) : af on m = m := on_af m
/-- few small steps -/
theorem lChangeS {n : Nat} {t : Int} (S : Store) (u : WellAt n S t) (ht : t < 10000000) :
    ∃ (m : Ch) (S' : Store), Ce 12 m ∧ dt m = 1 ∧ call T G (k + 3) (Str.ofString "_law_change") [.lo n, .int 2, .bl false] S = .ok (tM m) S' ∧ Same n S S' ∧ WellAt n S' (t + 30) := by
  have hD : T (Str.ofString "_law_draw") = some fDraw := T__law_draw
  have hO : T (Str.ofString "_law_one") = some fOneW := T__law_one
  have main : WP (evSs (call T G (k + 2)) G f__law_change.body ([D.lo n, .int 2, .bl false].map some ++ List.replicate (f__law_change.ns - f__law_change.np) none) S) fun f S' => ∃ m : Ch, Ce 12 m ∧ dt m = 1 ∧ f = .rt (tM m) ∧ Same n S S' ∧ WellAt n S' (t + 30) := by
    have hs4 : (4 : Nat) ≤ sizeLine := by decide
    have hs3 : (3 : Nat) ≤ sizeLine := by decide
    obtain ⟨f2, S2, a2, b2, e2, s2, u2⟩ := draw' (G := G) (k := k + 1) (b := 2 + 1) hD u (by omega) (by decide) (by decide)
    have hr : -(2 ^ 62) ≤ f2 ∧ f2 < 2 ^ 62 := by omega
    unfold f__law_change
    simp -implicitDefEqProofs only [evSs, evS, evE, evB, evEs, evT, evTs, evI, evO, bindk_ok, ofO_some, List.map_cons, List.map_nil, List.replicate, List.cons_append, List.nil_append, List.getElem?_cons_zero, List.getElem?_cons_succ, List.set_cons_zero, List.set_cons_succ, Option.map, List.length_cons, List.length_nil, Nat.zero_add, Nat.reduceAdd, hs4, if_true, tr_bl, Bool.false_eq_true, if_false, bop_add, e2, hr, and_self]
    rw [wp_bind]
    refine wp_forL (fun rest η S3 => ∃ (j : Nat) (m : Ch) (x5 x6 : Option D), j ≤ 2 ∧ rest.length + j = f2.toNat ∧ (∀ d ∈ rest, ∃ i : Int, d = .int i ∧ i < 12) ∧ (j = 0 ∧ m = on ∨ j = 1 ∧ Ce 3 m ∨ j = 2 ∧ Ce 12 m) ∧ dt m = 1 ∧ Same n S S3 ∧ WellAt n S3 (t + 2 + 3 * (j : Int)) ∧ η = [some (.lo n), some (.int 2), some (.bl false), some (tM m), some (.int 12), x5, x6]) ⟨0, on, none, none, by decide, by rw [rng_length]; omega, fun d hd => ?_, .inl ⟨rfl, rfl⟩, by unfold dt on; grind, s2, u2.mono (by omega), rfl⟩ (fun _ _ _ _ => rfl) ?_ ?_
    · obtain ⟨i, hi, rfl⟩ := rng_ints _ _ d hd
      exact ⟨_, rfl, by omega⟩
    · rintro d ds η S3 ⟨j, m, x5, x6, hj, hl, hi, bm, dm, s, u3, rfl⟩
      obtain ⟨i, rfl, i12⟩ := hi d (List.mem_cons_self ..)
      rw [List.length_cons] at hl
      obtain ⟨f3, S4, a3, b3, e3, s3, u4⟩ := draw' (G := G) (k := k + 1) (b := 7) hD u3 (by omega) (by decide) (by decide)
      have hi' : ∀ d ∈ ds, ∃ i : Int, d = .int i ∧ i < 12 := fun d hd => hi d (List.mem_cons_of_mem _ hd)
      have z := decide_eq_false (show ¬ i = 12 by omega)
      obtain ⟨d6, S6, m6, e6, s6, u6⟩ := oneW' (G := G) (k := k) (ds := [.tup [.int 0, .int (-1), .int 1, .int 0], .tup [.int 1, .int (f3 - 3), .int 0, .int 1], .tup [.int 1, .int 0, .int (f3 - 3), .int 1]]) hD hO u4 (by omega) (by show 0 < 3; decide) (by show 3 < 1073741824; decide) rfl
      obtain ⟨w, rfl, dw, cw, cg⟩ := step_c (show (f3 - 3).natAbs ≤ 3 by omega) m6
      have bmc : BC 6000 m := by
        rcases bm with ⟨_, rfl⟩ | ⟨_, h⟩ | ⟨_, h⟩
        · exact BC.one.mono (by decide)
        · exact (Ce.bc ⟨by have := h.p; omega, by have := h.q; omega, by have := h.r; omega, by have := h.s; omega⟩).mono (by decide)
        · exact h.bc.mono (by decide)
      have bwc : BC 6000 w := (Ce.bc ⟨by have := cw.p; omega, by have := cw.q; omega, by have := cw.r; omega, by have := cw.s; omega⟩).mono (by decide)
      have e7 := lboth (k := k + 1) m w bmc bwc S6
      simp -implicitDefEqProofs only [wp_ok, evSs, evS, evE, evB, evEs, evT, evTs, evI, evO, bindk_ok, ofO_some, List.map_cons, List.map_nil, List.replicate, List.cons_append, List.nil_append, List.getElem?_cons_zero, List.getElem?_cons_succ, List.set_cons_zero, List.set_cons_succ, Option.map, e3, bop_sub, cop_eq, z, tr_bl, Bool.false_eq_true, if_false, if_true, List.length_cons, List.length_nil, Nat.zero_add, Nat.reduceAdd, hs3, hs4, Int.reduceNeg, e6, e7]
      unfold FQ
      refine ⟨j + 1, af m w, _, _, by omega, by omega, hi', ?_, by rw [dt_af, dm, dw]; rfl, (s.trans s3).trans s6, u6.mono (by push_cast; omega), rfl⟩
      rcases bm with ⟨rfl, rfl⟩ | ⟨rfl, h⟩ | ⟨rfl, h⟩
      · exact .inr (.inl ⟨rfl, by rw [on_af']; exact cw⟩)
      · exact .inr (.inr ⟨rfl, cg 3 m h⟩)
      · omega
    · rintro η S3 ⟨j, m, x5, x6, hj, hl, hi, bm, dm, s, u3, rfl⟩
      simp -implicitDefEqProofs only [wp_ok, evSs, evS, evE, evB, evEs, evT, evTs, evI, evO, bindk_ok, ofO_some, List.map_cons, List.map_nil, List.replicate, List.cons_append, List.nil_append, List.getElem?_cons_zero, List.getElem?_cons_succ, List.set_cons_zero, List.set_cons_succ, Option.map]
      refine ⟨m, ?_, dm, rfl, s, u3.mono (by omega)⟩
      rcases bm with ⟨_, rfl⟩ | ⟨_, h⟩ | ⟨_, h⟩
      · exact ⟨by decide, by decide, by decide, by decide⟩
      · exact ⟨by have := h.p; omega, by have := h.q; omega, by have := h.r; omega, by have := h.s; omega⟩
      · exact h
  obtain ⟨f, S', e, m, bm, dm, rfl, s, u'⟩ := main
  refine ⟨m, S', bm, dm, ?_, s, u'⟩
  rw [call_eq T__law_change rfl, e]
  have := leave_well (S := S) (S' := S') (d := tM m) u.lt (by rw [s.1]; exact Nat.le_refl _) (fun i _ ne => s.2 i ne) u' rfl
  rw [← s.1, List.take_length] at this
  exact this
theorem sf_led {n : Int} {f : Fo} (h : Gd n f) {m : Ch} (c : Ce 12 m) (hm : dt m = 1) : Sf n (Fm.ld f m) := by
  obtain ⟨s1, s2, s3, s4, s5, s6, s7⟩ := gd_sm h
  have G := h.g.led hm
  refine ⟨G, by rw [dc_led hm, h.d], ?_⟩
  have fa : f.a.natAbs ≤ 11 := by omega
  have fb : f.b.natAbs ≤ 11 := by omega
  have fc : f.c.natAbs ≤ 130 := by omega
  have p1 := mb (mb fa c.p) c.p
  have p2 := mb (mb fb c.p) c.r
  have p3 := mb (mb fc c.r) c.r
  have q1 := mb (mb fa c.q) c.q
  have q2 := mb (mb fb c.q) c.s
  have q3 := mb (mb fc c.s) c.s
  have r1 := mb (mb (mb (show (2 : Int).natAbs ≤ 2 by decide) fa) c.p) c.q
  have r2 := mb fb (show (m.p * m.s + m.q * m.r).natAbs ≤ 288 by have := mb c.p c.s; have := mb c.q c.r; omega)
  have r3 := mb (mb (mb (show (2 : Int).natAbs ≤ 2 by decide) fc) c.r) c.s
  have a1 := ld_a h.g.po hm
  unfold Fm.ld vl at a1 ⊢
  simp only at a1 ⊢
  omega
theorem Sf.gb {n : Int} {f : Fo} (h : Sf n f) : Gb f := ⟨h.g, h.bf.mono (by decide)⟩
/-- a number up to 10000 -/
theorem lawNumber {i : Int} {f : Fo} (h : Sf i f) {n : Nat} {t : Int} (S : Store) (u : WellAt n S t) (ht : t < 10000000) :
    ∃ (N : Nat) (S' : Store), N ≤ 10000 ∧ call T G (k + 3) (Str.ofString "_law_number") [.lo n, tF f] S = .ok (.int (N : Int)) S' ∧ Same n S S' ∧ WellAt n S' (t + 20) := by
  have hD : T (Str.ofString "_law_draw") = some fDraw := T__law_draw
  have hO : T (Str.ofString "_law_one") = some fOneW := T__law_one
  obtain ⟨f1, S1, a1, b1, e1, s1, u1⟩ := draw' (G := G) (k := k + 1) (b := 21) hD u (by omega) (by decide) (by decide)
  obtain ⟨f2, S2, a2, b2, e2, s2, u2⟩ := draw' (G := G) (k := k + 1) (b := 13) hD u1 (by omega) (by decide) (by decide)
  have e3 := lval (k := k + 1) f (f1 - 10) (f2 - 6) (h.bf.mono (by decide)) (big_mono (big_i (show (f1 - 10).natAbs < 2 ^ 5 by omega)) (by decide)) (big_mono (big_i (show (f2 - 6).natAbs < 2 ^ 5 by omega)) (by decide)) S2
  have v0 : 0 ≤ vl f (f1 - 10) (f2 - 6) := by
    by_cases c : f1 - 10 ≠ 0 ∨ f2 - 6 ≠ 0
    · have := vl_pos h.g.po c
      omega
    · have c1 : f1 - 10 = 0 := by omega
      have c2 : f2 - 6 = 0 := by omega
      rw [c1, c2]
      unfold vl
      simp
  obtain ⟨V, hV⟩ := Int.eq_ofNat_of_zero_le v0
  rw [hV] at e3
  have fin : ∀ {N : Nat} {S' : Store}, Same n S S' → ∀ {t' : Int}, WellAt n S' t' → leave S (Res.ok (D.int (N : Int)) S') = .ok (.int (N : Int)) S' := fun {N S'} s t' u' => by
    have := leave_well (S := S) (S' := S') (d := .int (N : Int)) u.lt (by rw [s.1]; exact Nat.le_refl _) (fun i _ ne => s.2 i ne) u' rfl
    rw [← s.1, List.take_length] at this
    exact this
  have two : ∀ (S3 : Store) (t3 : Int), WellAt n S3 t3 → t3 ≤ t + 5 → Same n S S3 → ∃ (N : Nat) (S' : Store), N ≤ 10000 ∧ evSs (call T G (k + 2)) G (.cons (.ret (.call (Str.ofString "_law_one") (.cons (.var 0) (.cons (.tup (.cons (.int 0) (.cons (.int 1) (.cons (.int 4) (.cons (.call (Str.ofString "_law_draw") (.cons (.var 0) (.cons (.int 200) .nil))) (.cons (.call (Str.ofString "_law_draw") (.cons (.var 0) (.cons (.int 60) .nil))) (.cons (.call (Str.ofString "_law_draw") (.cons (.var 0) (.cons (.int 10001) .nil))) (.cons (.blt .min (.cons (.sub (.var 1) (.int 0)) (.cons (.int 10000) .nil))) (.cons (.int 10000) .nil))))))))) .nil)))) .nil) [some (.lo n), some (tF f), some (.int (V : Int))] S3 = .ok (.rt (.int (N : Int))) S' ∧ Same n S S' ∧ WellAt n S' (t + 20) := fun S3 t3 u3 l3 s3 => by
    obtain ⟨f4, S4, a4, b4, e4, s4, u4⟩ := draw' (G := G) (k := k + 1) (b := 200) hD u3 (by omega) (by decide) (by decide)
    obtain ⟨f5, S5, a5, b5, e5, s5, u5⟩ := draw' (G := G) (k := k + 1) (b := 60) hD u4 (by omega) (by decide) (by decide)
    obtain ⟨f6, S6, a6, b6, e6, s6, u6⟩ := draw' (G := G) (k := k + 1) (b := 10001) hD u5 (by omega) (by decide) (by decide)
    have it : ∀ S, items S (tF f) = some [.int f.a, .int f.b, .int f.c] := fun _ => rfl
    obtain ⟨s1, _, _, _, sa⟩ := h.sm
    obtain ⟨mn, hmn, m0, m1⟩ : ∃ mn : Int, (∀ S, bf S .min [.int f.a, .int 10000] = some (.int mn)) ∧ 0 ≤ mn ∧ mn ≤ 10000 := ⟨if (10000 : Int) < f.a then 10000 else f.a, fun _ => rfl, by split <;> omega, by split <;> omega⟩
    obtain ⟨d7, S7, m7, e7, s7, u7⟩ := oneW' (G := G) (k := k) (ds := [.int 0, .int 1, .int 4, .int f4, .int f5, .int f6, .int mn, .int 10000]) hD hO u6 (by omega) (by show 0 < 8; decide) (by show 8 < 1073741824; decide) rfl
    obtain ⟨N, rfl, hN⟩ : ∃ N : Nat, d7 = .int (N : Int) ∧ N ≤ 10000 := by
      simp only [List.mem_cons, List.not_mem_nil, or_false] at m7
      rcases m7 with h | h | h | h | h | h | h | h
      · exact ⟨0, h, by decide⟩
      · exact ⟨1, h, by decide⟩
      · exact ⟨4, h, by decide⟩
      · exact ⟨f4.toNat, by rw [h, Int.toNat_of_nonneg a4], by omega⟩
      · exact ⟨f5.toNat, by rw [h, Int.toNat_of_nonneg a5], by omega⟩
      · exact ⟨f6.toNat, by rw [h, Int.toNat_of_nonneg a6], by omega⟩
      · exact ⟨mn.toNat, by rw [h, Int.toNat_of_nonneg m0], by omega⟩
      · exact ⟨10000, h, by decide⟩
    have hs8 : (8 : Nat) ≤ sizeLine := by decide
    refine ⟨N, S7, hN, ?_, (((s3.trans s4).trans s5).trans s6).trans s7, u7.mono (by omega)⟩
    simp -implicitDefEqProofs only [evSs, evS, evE, evB, evEs, evT, evTs, evI, evO, bindk_ok, ofO_some, List.map_cons, List.map_nil, List.replicate, List.cons_append, List.nil_append, List.getElem?_cons_zero, List.getElem?_cons_succ, List.set_cons_zero, List.set_cons_succ, Option.map, e4, e5, e6, it, at0, hmn, List.length_cons, List.length_nil, Nat.zero_add, Nat.reduceAdd, hs8, if_true, e7]
  by_cases c : (10000 : Int) < V
  · have z := decide_eq_true c
    obtain ⟨N, S', hN, e, s, u'⟩ := two S2 _ u2 (by omega) (s1.trans s2)
    refine ⟨N, S', hN, ?_, s, u'⟩
    rw [call_eq T__law_number rfl]
    simp -implicitDefEqProofs only [evSs, evS, evE, evB, evEs, evT, evTs, evI, evO, bindk_ok, ofO_some, List.map_cons, List.map_nil, List.replicate, List.cons_append, List.nil_append, List.getElem?_cons_zero, List.getElem?_cons_succ, List.set_cons_zero, List.set_cons_succ, Option.map] at e
    simp -implicitDefEqProofs only [f__law_number, evSs, evS, evE, evB, evEs, evT, evTs, evI, evO, bindk_ok, ofO_some, List.map_cons, List.map_nil, List.replicate, List.cons_append, List.nil_append, List.getElem?_cons_zero, List.getElem?_cons_succ, List.set_cons_zero, List.set_cons_succ, Option.map, e1, e2, bop_sub, e3, cop_gt, z, tr_bl, if_true]
    rw [e]
    simp -implicitDefEqProofs only [evSs, evS, evE, evB, evEs, evT, evTs, evI, evO, bindk_ok, ofO_some, List.map_cons, List.map_nil, List.replicate, List.cons_append, List.nil_append, List.getElem?_cons_zero, List.getElem?_cons_succ, List.set_cons_zero, List.set_cons_succ, Option.map]
    exact fin s u'
  · have z := decide_eq_false c
    obtain ⟨f3, S3, a3, b3, e4, s3, u3⟩ := draw' (G := G) (k := k + 1) (b := 3) hD u2 (by omega) (by decide) (by decide)
    by_cases c2 : f3 = 0
    · have z2 := decide_eq_true c2
      obtain ⟨N, S', hN, e, s, u'⟩ := two S3 _ u3 (by omega) ((s1.trans s2).trans s3)
      refine ⟨N, S', hN, ?_, s, u'⟩
      rw [call_eq T__law_number rfl]
      simp -implicitDefEqProofs only [evSs, evS, evE, evB, evEs, evT, evTs, evI, evO, bindk_ok, ofO_some, List.map_cons, List.map_nil, List.replicate, List.cons_append, List.nil_append, List.getElem?_cons_zero, List.getElem?_cons_succ, List.set_cons_zero, List.set_cons_succ, Option.map] at e
      simp -implicitDefEqProofs only [f__law_number, evSs, evS, evE, evB, evEs, evT, evTs, evI, evO, bindk_ok, ofO_some, List.map_cons, List.map_nil, List.replicate, List.cons_append, List.nil_append, List.getElem?_cons_zero, List.getElem?_cons_succ, List.set_cons_zero, List.set_cons_succ, Option.map, e1, e2, bop_sub, e3, cop_gt, z, tr_bl, Bool.false_eq_true, if_false, e4, cop_eq, z2, if_true]
      rw [e]
      simp -implicitDefEqProofs only [evSs, evS, evE, evB, evEs, evT, evTs, evI, evO, bindk_ok, ofO_some, List.map_cons, List.map_nil, List.replicate, List.cons_append, List.nil_append, List.getElem?_cons_zero, List.getElem?_cons_succ, List.set_cons_zero, List.set_cons_succ, Option.map]
      exact fin s u'
    · have z2 := decide_eq_false c2
      have s' := (s1.trans s2).trans s3
      refine ⟨V, S3, by omega, ?_, s', u3.mono (by omega)⟩
      rw [call_eq T__law_number rfl]
      simp -implicitDefEqProofs only [f__law_number, evSs, evS, evE, evB, evEs, evT, evTs, evI, evO, bindk_ok, ofO_some, List.map_cons, List.map_nil, List.replicate, List.cons_append, List.nil_append, List.getElem?_cons_zero, List.getElem?_cons_succ, List.set_cons_zero, List.set_cons_succ, Option.map, e1, e2, bop_sub, e3, cop_gt, z, tr_bl, Bool.false_eq_true, if_false, e4, cop_eq, z2]
      exact fin s' u3
end K06

set_option Elab.async false
set_option linter.all false
set_option maxRecDepth 100000
set_option maxHeartbeats 4000000
namespace K06
open PySem PySem.Spec PyProof.Rows L2 Py Fm
variable {k : Nat}
theorem xy_rep {n : Int} {f : Fo} (h : Sf n f) {N : Nat} (hN : N ≤ 10000) {x y : Int} (e : vl f x y = N) : x.natAbs < 2 ^ 36 ∧ y.natAbs < 2 ^ 36 := by
  obtain ⟨s1, s2, s3, s4, s6⟩ := h.sm
  have hd := h.d
  have n2 := h.g.hi
  have q := vl_sq f x y
  rw [e, hd] at q
  have a4 : 4 * f.a * (N : Int) ≤ 88000 * 10000 := Int.mul_le_mul (by omega) (by omega) (by omega) (by omega)
  have ny : n * (y * y) ≤ -3 * (y * y) := Int.mul_le_mul_of_nonneg_right (by omega) (sq_nn y)
  have y1 : y * y ≤ 29664 * 29664 := by
    have := sq_nn (2 * f.a * x + f.b * y)
    omega
  have yb := sq_lt (x := y) (y := 29664) (by decide) y1
  have u1 : (2 * f.a * x + f.b * y) * (2 * f.a * x + f.b * y) ≤ 29665 * 29665 := by
    have := sq_nn y
    omega
  have ub := sq_lt (by decide) u1
  have b1 := mb (show f.b.natAbs ≤ 44000 by omega) (show y.natAbs ≤ 29664 by omega)
  have x1 : (2 * f.a * x).natAbs ≤ 2 ^ 36 - 1 := by omega
  have x2 : x.natAbs ≤ (2 * f.a * x).natAbs := by
    rw [Int.natAbs_mul]
    exact Nat.le_mul_of_pos_left _ (by omega)
  omega
theorem sol_rep {n : Int} {f : Fo} (h : Sf n f) {N : Nat} (hN : N ≤ 10000) {L : List (List Int)} (s : Sol f N L) : ∀ l ∈ L, ∃ x y : Int, l = [x, y] ∧ x.natAbs < 10 ^ 12 ∧ y.natAbs < 10 ^ 12 := fun l hl => by
  obtain ⟨x, y, e, v⟩ := (s.mem l).mp hl
  obtain ⟨h1, h2⟩ := xy_rep h hN v
  exact ⟨x, y, e, by omega, by omega⟩
/-- solutions of the form to which a small change leads -/
theorem sol_rep2 {n : Int} {f : Fo} (h : Sf n f) {m : Ch} (c : Ce 12 m) (hm : dt m = 1) {N : Nat} (hN : N ≤ 10000) {L : List (List Int)} (s : Sol (Fm.ld f m) N L) : ∀ l ∈ L, ∃ x y : Int, l = [x, y] ∧ x.natAbs < 2 ^ 42 ∧ y.natAbs < 2 ^ 42 := fun l hl => by
  obtain ⟨x, y, e, v⟩ := (s.mem l).mp hl
  have v' := v
  rw [vl_ld] at v'
  obtain ⟨h1, h2⟩ := xy_rep h hN v'
  have g := gL_back hm x y
  have g1 : m.s * (m.p * x + m.q * y) + -m.q * (m.r * x + m.s * y) = x ∧ -m.r * (m.p * x + m.q * y) + m.p * (m.r * x + m.s * y) = y := by
    have g : [m.s * (m.p * x + m.q * y) + -m.q * (m.r * x + m.s * y), -m.r * (m.p * x + m.q * y) + m.p * (m.r * x + m.s * y)] = [x, y] := g
    injection g with g1 g2; injection g2 with g2 _
    exact ⟨g1, g2⟩
  refine ⟨x, y, e, ?_, ?_⟩
  · have t1 := mb c.s (Nat.le_of_lt h1)
    have t2 := mb (show (-m.q).natAbs ≤ 12 by have := c.q; omega) (Nat.le_of_lt h2)
    omega
  · have t1 := mb (show (-m.r).natAbs ≤ 12 by have := c.r; omega) (Nat.le_of_lt h1)
    have t2 := mb c.p (Nat.le_of_lt h2)
    omega
theorem right (S : Store) (n : Nat) (a m : Int) (hS : S[n]? = some (.lst [.int a, .int m, .int 0])) (ha : 0 ≤ a) (hm : 0 ≤ m) (hm2 : m < 2147483563) : WP (call T G (k + 8) (Str.ofString "_law_right") [.lo n] S) fun d S' => d = .bl true ∧ Same n S S' := by
  have hD : T (Str.ofString "_law_draw") = some fDraw := T__law_draw
  have hO : T (Str.ofString "_law_one") = some fOneW := T__law_one
  have u0 : WellAt n S 0 := ⟨a, m, 0, hS, ha, hm, hm2, by decide, by decide⟩
  have hn := u0.lt
  rw [call_eq T__law_right rfl]
  have main : WP (evSs (call T G (k + 7)) G f__law_right.body ([D.lo n].map some ++ List.replicate (f__law_right.ns - f__law_right.np) none) S) fun f S' => f = .rt (.bl true) ∧ Same n S S' ∧ WellAt n S' 4000 := by
    have hr3 : -2 ^ 62 ≤ (3 : Int) ∧ (3 : Int) < 2 ^ 62 := by decide
    have hs2 : (2 : Nat) ≤ sizeLine := by decide
    have its : ∀ (S : Store) (ds : List D), items S (.lv ds) = some ds := fun _ _ => rfl
    have itt : ∀ (S : Store) (ds : List D), items S (.tup ds) = some ds := fun _ _ => rfl
    have r3 : (3 : Int).toNat = 3 := rfl
    simp -implicitDefEqProofs only [f__law_right, evSs, evS, evE, evB, evEs, evT, evTs, evI, evO, bindk_ok, ofO_some, List.map_cons, List.map_nil, List.replicate, List.cons_append, List.nil_append, List.getElem?_cons_zero, List.getElem?_cons_succ, List.set_cons_zero, List.set_cons_succ, Option.map, hr3, and_self, if_true, r3]
    rw [wp_bind]
    refine wp_forL (fun rest η S1 => rest.length ≤ 3 ∧ (∀ d ∈ rest, ∃ j, d = .int j) ∧ Same n S S1 ∧ WellAt n S1 (300 * (3 - (rest.length : Int))) ∧ ∃ x1 x2 x3 x4 x5 x6 x7 x8 x9 x10 x11 x12, η = [some (.lo n), x1, x2, x3, x4, x5, x6, x7, x8, x9, x10, x11, x12, none, none]) ⟨by rw [rng_length]; decide, fun d hd => ?_, Same.refl, u0.mono (by rw [rng_length]; decide), none, none, none, none, none, none, none, none, none, none, none, none, rfl⟩ (fun _ _ _ _ => rfl) ?_ ?_
    · obtain ⟨j, _, rfl⟩ := rng_ints _ _ d hd
      exact ⟨_, rfl⟩
    · rintro d ds η S1 ⟨hl, hi, s, u1, x1, x2, x3, x4, x5, x6, x7, x8, x9, x10, x11, x12, rfl⟩
      obtain ⟨j, rfl⟩ := hi d (List.mem_cons_self ..)
      rw [List.length_cons] at hl u1
      obtain ⟨i, S2, i1, i2, i3, e1, s1, u2⟩ := lDisc (k := k + 4) S1 u1 (by omega)
      obtain ⟨L, hL, l400, e2⟩ := lclasses (k := k + 3) i i1 i2 i3 S2
      have Lpos : 0 < L.length := List.length_pos_of_mem ((hL.1 _).mpr (gd_first i i1 i2 i3))
      obtain ⟨d3, S3, m3, e3, s3, u3⟩ := oneW_lv (G := G) (k := k + 5) (ds := L.map tF) hD hO u2 (by omega) (by rw [List.length_map]; exact Lpos) (by rw [List.length_map]; omega) (stills_all fun d hd => by obtain ⟨f, _, rfl⟩ := List.mem_map.mp hd; rfl)
      obtain ⟨f0, hf0, rfl⟩ := List.mem_map.mp m3
      have g0 := (hL.1 f0).mp hf0
      obtain ⟨f4, S4, a4, b4, e4, s4, u4⟩ := draw' (G := G) (k := k + 6) (b := 2) hD u3 (by omega) (by decide) (by decide)
      obtain ⟨f, S5, hf, e5, s5, u5⟩ : ∃ (f : Fo) (S5 : Store), Sf i f ∧ (if decide (f4 = 0) = true then (((call T G (k + 7) (Str.ofString "_law_change") [.lo n, .int 2, .bl false] S4).bind fun d S => Res.ok [d] S).bind fun ds S => Res.ok (tF f0 :: ds) S).bind fun ds S => call T G (k + 7) (Str.ofString "_law_led") ds S else Res.ok (tF f0) S4) = .ok (tF f) S5 ∧ Same n S4 S5 ∧ WellAt n S5 (300 * (3 - ((ds.length : Int) + 1)) + 40) := by
        by_cases c : f4 = 0
        · rw [if_pos (decide_eq_true c)]
          obtain ⟨w, S5, cw, dw, e5, s5, u5⟩ := lChangeS (k := k + 4) S4 u4 (by push_cast; omega)
          have e6 := led (k := k + 5) f0 w ((gd_big g0).mono (by decide)) (cw.bc.mono (by decide)) S5
          refine ⟨Fm.ld f0 w, S5, sf_led g0 cw dw, ?_, s5, u5.mono (by push_cast; omega)⟩
          rw [e5, bindk_ok, bindk_ok, bindk_ok, e6]
        · rw [if_neg (by rw [decide_eq_false c]; decide)]
          exact ⟨f0, S4, Sf.of g0, rfl, Same.refl, u4.mono (by push_cast; omega)⟩
      obtain ⟨w, S6, cw, dw, e6, s6, u6⟩ := lChangeS (k := k + 4) S5 u5 (by push_cast; omega)
      have ss6 := (((((s.trans s1).trans s3).trans s4).trans s5)).trans s6
      simp -implicitDefEqProofs only [wp_ok, evSs, evS, evE, evB, evEs, evT, evTs, evI, evO, bindk_ok, ofO_some, List.map_cons, List.map_nil, List.replicate, List.cons_append, List.nil_append, List.getElem?_cons_zero, List.getElem?_cons_succ, List.set_cons_zero, List.set_cons_succ, Option.map, e1, e2, e3, e4, cop_eq, tr_bl]
      rw [e5]
      simp -implicitDefEqProofs only [wp_ok, evSs, evS, evE, evB, evEs, evT, evTs, evI, evO, bindk_ok, ofO_some, List.map_cons, List.map_nil, List.replicate, List.cons_append, List.nil_append, List.getElem?_cons_zero, List.getElem?_cons_succ, List.set_cons_zero, List.set_cons_succ, Option.map, e6, hr3, and_self, if_true, r3]
      repeat rw [wp_bind]
      refine wp_forL (fun rest η S7 => rest.length ≤ 3 ∧ (∀ d ∈ rest, ∃ j, d = .int j) ∧ Same n S S7 ∧ WellAt n S7 (300 * (3 - ((ds.length : Int) + 1)) + 80 + 30 * (3 - (rest.length : Int))) ∧ ∃ x5 x6 x7 x8 x9 x10 x11 x12, η = [some (.lo n), some (.int j), some (.int i), some (tF f), some (tM w), x5, x6, x7, x8, x9, x10, x11, x12, none, none]) ⟨by rw [rng_length]; decide, fun d hd => ?_, ss6, u6.mono (by rw [rng_length]; push_cast; omega), x5, x6, x7, x8, x9, x10, x11, x12, rfl⟩ (fun _ _ _ _ => rfl) ?_ ?_
      · obtain ⟨j, _, rfl⟩ := rng_ints _ _ d hd
        exact ⟨_, rfl⟩
      · rintro d es η S7 ⟨hl7, hi7, s7, u7, y5, y6, y7, y8, y9, y10, y11, y12, rfl⟩
        obtain ⟨j7, rfl⟩ := hi7 d (List.mem_cons_self ..)
        rw [List.length_cons] at hl7 u7
        obtain ⟨N, S8, hN, e8, s8, u8⟩ := lawNumber (k := k + 4) hf S7 u7 (by push_cast; omega)
        obtain ⟨Ls, ⟨nd, so⟩, mem, e9⟩ := lsolutions (k := k + 5) f hf N hN S8
        have sol : Sol f N Ls := ⟨nd, so, mem⟩
        obtain ⟨L2', hL2, e10⟩ := solutions (k := k + 1) f hf.gb N hN S8
        have := hL2.uniq sol
        subst this
        have Gl : Gb (Fm.ld f w) := ⟨hf.gb.g.led dw, ((hf.bf.mono (show 16 ≤ 36 by decide)).ld (cw.bc.mono (show 5 ≤ 200 by decide))).mono (by decide)⟩
        have e11 := changed (k := k + 1) f hf.gb w (cw.bc.mono (by decide)) dw S8
        obtain ⟨L3, hL3, e12⟩ := solutions (k := k + 1) (Fm.ld f w) Gl N hN S8
        have few := hL2.few hf.g hN
        have few3 := hL3.few Gl.g hN
        have rp := sol_rep hf hN hL2
        have rp3 := sol_rep2 hf cw dw hN hL3
        obtain ⟨x, q1, q2⟩ := rep2 L2' rp few S8
        obtain ⟨x', q3, q4⟩ := rep1 L2' rp few S8
        have ne : ∀ l ∈ L2', l ≠ [] := fun l hl => by
          obtain ⟨x, y, e, _⟩ := (hL2.mem l).mp hl
          rw [e]; simp
        -- all the values are so
        have key1 := comp_map (g := guardOf (.tup (L2'.map tkD)) S8) (asg := fun d => asgC [13, 14] false [13, 14] d (wipeD [some (.lo n), some (.int j), some (.int i), some (tF f), some (tM w), some (.int j7), some (.int (N : Int)), some (.tup (L2'.map tkD)), y8, y9, y10, y11, y12, none, none] [13, 14]))
          (t := evB (call T G (k + 7)) G .yes) (e := evE (call T G (k + 7)) G (.cmp .eq (.call (Str.ofString "_law_value") (.cons (.var 3) (.cons (.var 13) (.cons (.var 14) .nil)))) (.var 6))) (S := S8)
          (fun _ => rfl) (fun d => .bl true) (L2'.map tkD) (by rw [List.length_map]; exact Nat.le_trans (Nat.le_of_lt few) (by decide)) (fun _ _ => rfl) (by
            intro d hd
            obtain ⟨l, hl, rfl⟩ := List.mem_map.mp hd
            obtain ⟨x, y, rfl, v⟩ := (hL2.mem l).mp hl
            obtain ⟨b1, b2⟩ := xy_rep hf hN v
            refine ⟨[some (.lo n), some (.int j), some (.int i), some (tF f), some (tM w), some (.int j7), some (.int (N : Int)), some (.tup (L2'.map tkD)), y8, y9, y10, y11, y12, some (.int x), some (.int y)], rfl, fun acc => ⟨rfl, ?_⟩⟩
            have ev := lval (k := k + 6) f x y (hf.bf.mono (by decide)) (big_mono (big_i b1) (by decide)) (big_mono (big_i b2) (by decide)) (S8 ++ [Cell.lst acc])
            rw [v] at ev
            simp -implicitDefEqProofs only [evSs, evS, evE, evB, evEs, evT, evTs, evI, evO, bindk_ok, ofO_some, List.map_cons, List.map_nil, List.replicate, List.cons_append, List.nil_append, List.getElem?_cons_zero, List.getElem?_cons_succ, List.set_cons_zero, List.set_cons_succ, Option.map, ev, cop_eq, decide_true])
        have al : bf S8 .all [.lv ((L2'.map tkD).map fun _ => D.bl true)] = some (.bl true) := all_rep S8 _ fun b hb => by
          obtain ⟨_, _, rfl⟩ := List.mem_map.mp hb; rfl
        -- a set of them
        have sd : sdd L2' = L2' := sdd_is (by have := isort_srtd (lt := HT.lexLt) swo_lexI L2'; rwa [hL2.so] at this) (List.Perm.refl _) hL2.nd fun _ => Iff.rfl
        have lb : (lsOf S8 (.tup (L2'.map tkD))).bind intsOf = none := rfl
        have tb : (items S8 (.tup (L2'.map tkD))).bind tksOf = some L2' := tksOf_map L2' ne
        have tb' : (some (L2'.map tkD)).bind tksOf = some L2' := tb
        have lenT : ∀ S, bf S .len [.tup (L2'.map tkD)] = some (.int (((L2'.map tkD).length : Nat) : Int)) := fun _ => rfl
        have zl := decide_eq_true (rfl : (((L2'.map tkD).length : Nat) : Int) = (((L2'.map tkD).length : Nat) : Int))
        -- led back
        have nd3 := sol_map dw hL3.nd hL3.mem
        have eqL : isort HT.lexLt (L3.map (gL w)) = L2' := (Sol.of nd3.1 nd3.2).uniq hL2
        have ne3 : ∀ l ∈ L3.map (gL w), l ≠ [] := fun l hl => by
          obtain ⟨x, y, e, _⟩ := (nd3.2 l).mp hl
          rw [e]; simp
        have key2 := back_comp (C := call T G (k + 7)) (η := []) (m := w) (e := .tup (.cons (.op .add (.op .mul (.var 8) (.var 13)) (.op .mul (.var 9) (.var 14))) (.cons (.op .add (.op .mul (.var 10) (.var 13)) (.op .mul (.var 11) (.var 14))) .nil))) (cw.bc.mono (by decide)) L3
          (fun l hl => by
            obtain ⟨x, y, e, h1, h2⟩ := rp3 l hl
            exact ⟨x, y, e, big_mono (big_i h1) (by decide), big_mono (big_i h2) (by decide)⟩) (by omega) S8 (guardOf (.tup (L3.map tkD)) S8) (fun _ => rfl)
          (fun d => asgC [13, 14] false [13, 14] d (wipeD [some (.lo n), some (.int j), some (.int i), some (tF f), some (tM w), some (.int j7), some (.int (N : Int)), some (.tup (L2'.map tkD)), some (.int w.p), some (.int w.q), some (.int w.r), some (.int w.s), some (.tup (L3.map tkD)), none, none] [13, 14]))
          fun x y bx by' => ⟨[some (.lo n), some (.int j), some (.int i), some (tF f), some (tM w), some (.int j7), some (.int (N : Int)), some (.tup (L2'.map tkD)), some (.int w.p), some (.int w.q), some (.int w.r), some (.int w.s), some (.tup (L3.map tkD)), some (.int x), some (.int y)], rfl, fun S => by
            have cb : BC 6 w := cw.bc.mono (by decide)
            have m1 : mulOk w.p x = true := mulOk_big cb.p bx (by decide)
            have m2 : mulOk w.q y = true := mulOk_big cb.q by' (by decide)
            have m3 : mulOk w.r x = true := mulOk_big cb.r bx (by decide)
            have m4 : mulOk w.s y = true := mulOk_big cb.s by' (by decide)
            simp -implicitDefEqProofs only [evSs, evS, evE, evB, evEs, evT, evTs, evI, evO, bindk_ok, ofO_some, List.map_cons, List.map_nil, List.replicate, List.cons_append, List.nil_append, List.getElem?_cons_zero, List.getElem?_cons_succ, List.set_cons_zero, List.set_cons_succ, Option.map, bop_mul m1, bop_mul m2, bop_mul m3, bop_mul m4, bop_add, List.length_cons, List.length_nil, Nat.zero_add, Nat.reduceAdd, hs2, if_true]
            rfl⟩
        have l4 : (4 = (ITs.cons (IT.name 8) (ITs.cons (IT.name 9) (ITs.cons (IT.name 10) (ITs.cons (IT.name 11) ITs.nil)))).len) = True := eq_true rfl
        have tw : tM w = .tup [.int w.p, .int w.q, .int w.r, .int w.s] := rfl
        simp -implicitDefEqProofs only [evSs, evS, evE, evB, evEs, evT, evTs, evI, evO, bindk_ok, ofO_some, List.map_cons, List.map_nil, List.replicate, List.cons_append, List.nil_append, List.getElem?_cons_zero, List.getElem?_cons_succ, List.set_cons_zero, List.set_cons_succ, Option.map] at key1
        simp -implicitDefEqProofs only [evSs, evS, evE, evB, evEs, evT, evTs, evI, evO, bindk_ok, ofO_some, List.map_cons, List.map_nil, List.replicate, List.cons_append, List.nil_append, List.getElem?_cons_zero, List.getElem?_cons_succ, List.set_cons_zero, List.set_cons_succ, Option.map] at key2
        rw [tw] at key1 key2 e11 ⊢
        simp -implicitDefEqProofs only [wp_ok, evSs, evS, evE, evB, evEs, evT, evTs, evI, evO, bindk_ok, ofO_some, List.map_cons, List.map_nil, List.replicate, List.cons_append, List.nil_append, List.getElem?_cons_zero, List.getElem?_cons_succ, List.set_cons_zero, List.set_cons_succ, Option.map, e8, e9, tupLv, e10, permK2, List.length_cons, List.length_nil, Nat.zero_add, Nat.reduceAdd, hs2, if_true, q1, q2, tr_bl, Bool.false_eq_true, if_false, itt]
        rw [key1]
        simp -implicitDefEqProofs only [wp_ok, evSs, evS, evE, evB, evEs, evT, evTs, evI, evO, bindk_ok, ofO_some, List.map_cons, List.map_nil, List.replicate, List.cons_append, List.nil_append, List.getElem?_cons_zero, List.getElem?_cons_succ, List.set_cons_zero, List.set_cons_succ, Option.map, al, tr_bl, Bool.not_true, Bool.false_eq_true, if_false, lb, tb', few, if_true, sd, bf_lenL, lenT, cop_ne, decide_true, Bool.not_true, List.length_cons, List.length_nil, Nat.zero_add, Nat.reduceAdd, l4, e11, e12, itt]
        rw [key2]
        simp -implicitDefEqProofs only [wp_ok, evSs, evS, evE, evB, evEs, evT, evTs, evI, evO, bindk_ok, ofO_some, List.map_cons, List.map_nil, List.replicate, List.cons_append, List.nil_append, List.getElem?_cons_zero, List.getElem?_cons_succ, List.set_cons_zero, List.set_cons_succ, Option.map, sortLv S8 _ ne3, eqL, tupLv, q3, q4, tr_bl, Bool.false_eq_true, if_false]
        unfold FQ
        exact ⟨by omega, fun e he => hi7 e (List.mem_cons_of_mem _ he), s7.trans s8, u8.mono (by push_cast; omega), _, _, _, _, _, _, _, _, rfl⟩
      · rintro η S7 ⟨hl7, hi7, s7, u7, y5, y6, y7, y8, y9, y10, y11, y12, rfl⟩
        simp -implicitDefEqProofs only [wp_ok, evSs, evS, evE, evB, evEs, evT, evTs, evI, evO, bindk_ok, ofO_some, List.map_cons, List.map_nil, List.replicate, List.cons_append, List.nil_append, List.getElem?_cons_zero, List.getElem?_cons_succ, List.set_cons_zero, List.set_cons_succ, Option.map]
        unfold FQ
        exact ⟨by omega, fun e he => hi e (List.mem_cons_of_mem _ he), s7, u7.mono (by simp; push_cast; omega), _, _, _, _, _, _, _, _, _, _, _, _, rfl⟩
    · rintro η S1 ⟨_, _, s, u1, x1, x2, x3, x4, x5, x6, x7, x8, x9, x10, x11, x12, rfl⟩
      simp -implicitDefEqProofs only [wp_ok, evSs, evS, evE, evB, evEs, evT, evTs, evI, evO, bindk_ok, ofO_some, List.map_cons, List.map_nil, List.replicate, List.cons_append, List.nil_append, List.getElem?_cons_zero, List.getElem?_cons_succ, List.set_cons_zero, List.set_cons_succ, Option.map]
      exact ⟨by first | rfl | trivial, s, u1.mono (by simp)⟩
  obtain ⟨fl, S', h1, rfl, s, u⟩ := main
  rw [h1]
  show WP (leave S (Res.ok (D.bl true) S')) _
  have := leave_well (S := S) (S' := S') (d := .bl true) u0.lt (by rw [s.1]; exact Nat.le_refl _) (fun i _ ne => s.2 i ne) u rfl
  rw [← s.1, List.take_length] at this
  rw [this]
  exact wp_ok.mpr ⟨rfl, s⟩
def depth : Nat := 14
theorem says (ns : List Int) (hn : ns.length ≤ 63) : call (tabT tab) G (depth + 1) (Str.ofString "law") [.fz (ns.map .int)] [] = .ok (.bl true) [] :=
  lawW_ok (T := T) (G := G) (k := 13) (M := 3) (by decide) T_law T__law_well (fun S n a m h1 h2 h3 h4 => right (k := 6) S n a m h1 h2 h3 h4) ns hn
end K06

open PySem PySem.W PyProof.Rows
set_option maxHeartbeats 0 in
theorem PySem.Challenge.cw_classprimes_k06_solutions_by_roots_of_wh_holds : PySem.Challenge.rw_classprimes_k06_solutions_by_roots_of_wh.Holds := by
  w_on; o_law; k_head; (case hw => w_witness2)
  k_fill
  refine Py.walk (l := PySem.Challenge.rw_classprimes_k06_solutions_by_roots_of_wh) (n := 63) (k := K06.depth) (c := K06.ci) (L := K06.tab) (di := K06.d_law) (G := K06.G) rfl (by decide) rfl ⟨rfl, by decide, by decide⟩ (fun w h Y => PySem.W.kIn_of Y) rfl rfl rfl rfl ?F K06.says
  case F =>
    intro w mg h KX G
    refine' K06.all_mk KX G ?a0 ?l0 ?c0 ?k0 ?a1 ?l1 ?c1 ?k1 ?a2 ?l2 ?c2 ?k2 ?a3 ?l3 ?c3 ?k3 ?a4 ?l4 ?c4 ?k4 ?a5 ?l5 ?c5 ?k5 ?a6 ?l6 ?c6 ?k6 ?a7 ?l7 ?c7 ?k7 ?a8 ?l8 ?c8 ?k8 ?a9 ?l9 ?c9 ?k9 ?a10 ?l10 ?c10 ?k10 ?a11 ?l11 ?c11 ?k11 ?a12 ?l12 ?c12 ?k12 ?a13 ?l13 ?c13 ?k13 ?a14 ?l14 ?c14 ?k14 ?a15 ?l15 ?c15 ?k15 ?a16 ?l16 ?c16 ?k16 ?a17 ?l17 ?c17 ?k17 ?a18 ?l18 ?c18 ?k18 ?a19 ?l19 ?c19 ?k19 ?a20 ?l20 ?c20 ?k20 ?a21 ?l21 ?c21 ?k21 ?a22 ?l22 ?c22 ?k22 ?a23 ?l23 ?c23 ?k23 ?a24 ?l24 ?c24 ?k24 ?a25 ?l25 ?c25 ?k25 ?a26 ?l26 ?c26 ?k26 ?a27 ?l27 ?c27 ?k27 ?a28 ?l28 ?c28 ?k28 ?a29 ?l29 ?c29 ?k29 ?a30 ?l30 ?c30 ?k30 ?a31 ?l31 ?c31 ?k31 ?a32 ?l32 ?c32 ?k32 ?a33 ?l33 ?c33 ?k33 ?a34 ?l34 ?c34 ?k34 ?a35 ?l35 ?c35 ?k35 ?a36 ?l36 ?c36 ?k36 ?a37 ?l37 ?c37 ?k37 ?u0 ?u1 ?u2 ?u3 ?w0 ?z0 ?z1 ?z2 ?z3 ?z4 ?z5 ?z6 ?z7 ?z8 ?z9 ?z10 ?z11 ?z12 ?z13 ?m0 ?m1
    (case a0 => k_is); (case l0 => k_is); (case c0 => k_is); (case k0 => k_is); (case a1 => k_is); (case l1 => k_is); (case c1 => k_is); (case k1 => k_is); (case a2 => k_is); (case l2 => k_is); (case c2 => k_is); (case k2 => k_is); (case a3 => k_is); (case l3 => k_is); (case c3 => k_is); (case k3 => k_is); (case a4 => k_is); (case l4 => k_is); (case c4 => k_is); (case k4 => k_is); (case a5 => k_is); (case l5 => k_is); (case c5 => k_is); (case k5 => k_is); (case a6 => k_is); (case l6 => k_is); (case c6 => k_is); (case k6 => k_is); (case a7 => k_is); (case l7 => k_is); (case c7 => k_is); (case k7 => k_is); (case a8 => k_is); (case l8 => k_is); (case c8 => k_is); (case k8 => k_is); (case a9 => k_is); (case l9 => k_is); (case c9 => k_is); (case k9 => k_is); (case a10 => k_is); (case l10 => k_is); (case c10 => k_is); (case k10 => k_is); (case a11 => k_is); (case l11 => k_is); (case c11 => k_is); (case k11 => k_is); (case a12 => k_is); (case l12 => k_is); (case c12 => k_is); (case k12 => k_is); (case a13 => k_is); (case l13 => k_is); (case c13 => k_is); (case k13 => k_is); (case a14 => k_is); (case l14 => k_is); (case c14 => k_is); (case k14 => k_is); (case a15 => k_is); (case l15 => k_is); (case c15 => k_is); (case k15 => k_is); (case a16 => k_is); (case l16 => k_is); (case c16 => k_is); (case k16 => k_is); (case a17 => k_is); (case l17 => k_is); (case c17 => k_is); (case k17 => k_is); (case a18 => k_is); (case l18 => k_is); (case c18 => k_is); (case k18 => k_is); (case a19 => k_is); (case l19 => k_is); (case c19 => k_is); (case k19 => k_is); (case a20 => k_is); (case l20 => k_is); (case c20 => k_is); (case k20 => k_is); (case a21 => k_is); (case l21 => k_is); (case c21 => k_is); (case k21 => k_is); (case a22 => k_is); (case l22 => k_is); (case c22 => k_is); (case k22 => k_is); (case a23 => k_is); (case l23 => k_is); (case c23 => k_is); (case k23 => k_is); (case a24 => k_is); (case l24 => k_is); (case c24 => k_is); (case k24 => k_is); (case a25 => k_is); (case l25 => k_is); (case c25 => k_is); (case k25 => k_is); (case a26 => k_is); (case l26 => k_is); (case c26 => k_is); (case k26 => k_is); (case a27 => k_is); (case l27 => k_is); (case c27 => k_is); (case k27 => k_is); (case a28 => k_is); (case l28 => k_is); (case c28 => k_is); (case k28 => k_is); (case a29 => k_is); (case l29 => k_is); (case c29 => k_is); (case k29 => k_is); (case a30 => k_is); (case l30 => k_is); (case c30 => k_is); (case k30 => k_is); (case a31 => k_is); (case l31 => k_is); (case c31 => k_is); (case k31 => k_is); (case a32 => k_is); (case l32 => k_is); (case c32 => k_is); (case k32 => k_is); (case a33 => k_is); (case l33 => k_is); (case c33 => k_is); (case k33 => k_is); (case a34 => k_is); (case l34 => k_is); (case c34 => k_is); (case k34 => k_is); (case a35 => k_is); (case l35 => k_is); (case c35 => k_is); (case k35 => k_is); (case a36 => k_is); (case l36 => k_is); (case c36 => k_is); (case k36 => k_is); (case a37 => k_is); (case l37 => k_is); (case c37 => k_is); (case k37 => k_is); (case u0 => k_is); (case u1 => k_is); (case u2 => k_is); (case u3 => k_is); (case w0 => k_is); (case z0 => k_is); (case z1 => k_is); (case z2 => k_is); (case z3 => k_is); (case z4 => k_is); (case z5 => k_is); (case z6 => k_is); (case z7 => k_is); (case z8 => k_is); (case z9 => k_is); (case z10 => k_is); (case z11 => k_is); (case z12 => k_is); (case z13 => k_is); (case m0 => k_is); (case m1 => k_is)
