import PyProof.Rows.All
import Wide.All
import OpenK.AllK
import Wide.FinOn
import PySem.Challenge.RW_nm0008_01
open PySem PySem.W PyProof.Rows
set_option Elab.async false
set_option maxRecDepth 100000
set_option maxHeartbeats 8000000
set_option linter.unusedVariables false
set_option linter.unusedSimpArgs false
set_option compiler.extract_closed false
namespace Mine
abbrev PG : Program := PySem.Challenge.rw_nm0008_01.row.prog
abbrev Frz := Addr → Option Obj
abbrev Loc := List (Str × Value)
inductive Cell where
  | tp (vs : List Value)
  | ls (vs : List Value)
  | lx (vs : List Value)
  | dI (kvs : List (Int × Value))
  | dS (kvs : List (Str × Value))
  | cl (v : Option Value)
  | ins (C d : Addr)
  | an (P : Obj → Prop)
def Cell.ok (w : World) : Cell → Obj → Prop
  | .tp vs, o => o.cls = .type "tuple" ∧ ∃ n, o.data = .seq vs.toArray n
  | .ls vs, o => o.cls = .type "list" ∧ ∃ n, o.data = .seq vs.toArray n
  | .lx vs, o => ∃ n, o = { cls := .type "list", dict := none, data := .seq vs.toArray n, slots := #[] }
  | .dI kvs, o => ∃ es ep, o.ExactDict ∧ o.data = .dict es ep ∧ KeysOf (intKind PG w) es ∧ Pairs (intKind PG w) es.toList kvs ∧ (kvs.map (·.1)).Nodup
  | .dS kvs, o => ∃ es ep, o.ExactDict ∧ o.data = .dict es ep ∧ KeysOf (strKind PG w) es ∧ Pairs (strKind PG w) es.toList kvs ∧ (kvs.map (·.1)).Nodup
  | .cl v, o => o.data = .cell v
  | .ins C d, o => o.cls = .ref C ∧ o.dict = some d ∧ notCls o = true
  | .an P, o => P o
def At (w : World) (get : Frz) (a : Addr) (c : Cell) : Prop := ∃ o, get a = some o ∧ c.ok w o
section
variable {w : World} {h h' : Heap} {a b : Addr} {g g' : Frz}
theorem At.mono {c : Cell} (x : At w g a c) (k : ∀ b o, g b = some o → g' b = some o) : At w g' a c := let ⟨o, e, r⟩ := x; ⟨o, k a o e, r⟩
theorem At.lt {c : Cell} (x : At w h.get? a c) : a < h.objs.size := let ⟨_, e, _⟩ := x; Heap.lt_size e
theorem At.tup {vs : List Value} (x : At w h.get? a (.tp vs)) : IsTup h a vs.toArray := x
theorem At.list {vs : List Value} (x : At w h.get? a (.ls vs)) : h.IsList a vs.toArray := x
theorem At.dictI {kvs} (x : At w h.get? a (.dI kvs)) : h.DictOf (intKind PG w) a kvs := let ⟨o, e, es, ep, r1, r2, r⟩ := x; ⟨o, es, ep, e, r1, r2, r⟩
theorem At.dictS {kvs} (x : At w h.get? a (.dS kvs)) : h.DictOf (strKind PG w) a kvs := let ⟨o, e, es, ep, r1, r2, r⟩ := x; ⟨o, es, ep, e, r1, r2, r⟩
theorem At.lx {vs : List Value} (x : At w g a (.lx vs)) : At w g a (.ls vs) := let ⟨_, e, n, r⟩ := x; ⟨_, e, by rw [r], n, by rw [r]⟩
theorem At.ofList {vs : List Value} (x : h.IsList a vs.toArray) : At w h.get? a (.ls vs) := x
theorem At.ofDictI {kvs} (x : h.DictOf (intKind PG w) a kvs) : At w h.get? a (.dI kvs) := let ⟨o, es, ep, e, r1, r2, r⟩ := x; ⟨o, e, es, ep, r1, r2, r⟩
theorem At.ofDictS {kvs} (x : h.DictOf (strKind PG w) a kvs) : At w h.get? a (.dS kvs) := let ⟨o, es, ep, e, r1, r2, r⟩ := x; ⟨o, e, es, ep, r1, r2, r⟩
end
def lkE : List (Str × Value) → Str → Option Value
  | [], _ => none
  | (y, v) :: r, x => match decide (y = x) with | true => some v | false => lkE r x
theorem lkE_lookup : ∀ {l : List (Str × Value)} {x : Str} {v : Value}, lkE l x = some v → l.lookup x = some v
  | (y, u) :: r, x, v, e => by
    unfold lkE at e
    rw [List.lookup_cons]
    by_cases h : y = x
    · subst h
      rw [decide_eq_true rfl] at e
      simpa using e
    · rw [decide_eq_false h] at e
      have : (x == y) = false := by simpa using fun q => h q.symm
      rw [this]
      exact lkE_lookup e
def Lk (l : Loc) (x : Str) (v : Value) : Prop := lkE l x = some v
theorem Lk.of {l : Loc} {x : Str} {v : Value} (e : lkE l x = some v) : Lk l x v := e
theorem Lk.lookup {l : Loc} {x : Str} {v : Value} (k : Lk l x v) : l.lookup x = some v := lkE_lookup k
inductive LSet : Loc → Str → Value → Loc → Prop
  | nil {x : Str} {v : Value} : LSet [] x v [(x, v)]
  | here {l : Loc} {x : Str} {u v : Value} : LSet ((x, u) :: l) x v ((x, v) :: l)
  | there {l l' : Loc} {x y : Str} {u v : Value} : (x == y) = false → LSet l x v l' → LSet ((y, u) :: l) x v ((y, u) :: l')
theorem LSet.lookup {l l' : Loc} {x : Str} {v : Value} (k : LSet l x v l') : (fun y => if y = x then some v else l.lookup y) = fun y => l'.lookup y := by
  funext z
  induction k with
  | @nil x v =>
    by_cases h : z = x
    · simp [List.lookup_cons, h]
    · rw [List.lookup_cons, if_neg h, beq_false_of_ne h]
  | @here l x u v =>
    by_cases h : z = x
    · simp [List.lookup_cons, h]
    · rw [List.lookup_cons, List.lookup_cons, if_neg h, beq_false_of_ne h]
  | @there l l' x y u v h k ih =>
    rw [List.lookup_cons, List.lookup_cons, ← ih]
    by_cases q : z = x
    · subst q; simp [h]
    · simp [q]
def FSet (l : Loc) (x : Str) (v : Value) (l' : Loc) : Prop := (fun y => if y = x then some v else l.lookup y) = fun y => l'.lookup y
theorem FSet.new {l : Loc} {x : Str} {v : Value} (_ : lkE l x = none) : FSet l x v ((x, v) :: l) := by
  funext y
  by_cases h : y = x
  · simp [List.lookup_cons, h]
  · rw [List.lookup_cons, if_neg h, beq_false_of_ne h]
theorem FSet.here {l : Loc} {x : Str} {u v : Value} : FSet ((x, u) :: l) x v ((x, v) :: l) := LSet.lookup LSet.here
theorem FSet.there {l l' : Loc} {x y : Str} {u v : Value} (h : (x == y) = false) (k : FSet l x v l') : FSet ((y, u) :: l) x v ((y, u) :: l') := by
  funext z
  rw [List.lookup_cons, List.lookup_cons, ← congrFun k z]
  by_cases q : z = x
  · subst q; simp [h]
  · simp [q]
inductive Upd (d : Addr) (c c' : Cell) : List (Addr × Cell) → List (Addr × Cell) → Prop
  | here {Γ : List (Addr × Cell)} : Upd d c c' ((d, c) :: Γ) ((d, c') :: Γ)
  | there {p : Addr × Cell} {Γ Γ' : List (Addr × Cell)} : Upd d c c' Γ Γ' → Upd d c c' (p :: Γ) (p :: Γ')
theorem Upd.keys {d : Addr} {c c' : Cell} {Γ Γ' : List (Addr × Cell)} (u : Upd d c c' Γ Γ') : Γ'.map (·.1) = Γ.map (·.1) := by
  induction u with
  | here => rfl
  | there _ ih => simp [ih]
theorem Upd.old {d : Addr} {c c' : Cell} {Γ Γ' : List (Addr × Cell)} (u : Upd d c c' Γ Γ') : (d, c) ∈ Γ := by
  induction u with
  | here => exact .head _
  | there _ ih => exact .tail _ ih
theorem Upd.all {d : Addr} {c c' : Cell} {Γ Γ' : List (Addr × Cell)} (u : Upd d c c' Γ Γ') (nd : (Γ.map (·.1)).Nodup) : ∀ p ∈ Γ', p = (d, c') ∨ (p ∈ Γ ∧ p.1 ≠ d) := by
  induction u with
  | here =>
    rename_i Γ
    intro p hp
    simp only [List.map_cons, List.nodup_cons] at nd
    rcases List.mem_cons.mp hp with rfl | hp
    · exact .inl rfl
    · exact .inr ⟨.tail _ hp, fun e => nd.1 (e ▸ List.mem_map_of_mem hp)⟩
  | there u ih =>
    rename_i q Γ Γ'
    intro p hp
    simp only [List.map_cons, List.nodup_cons] at nd
    rcases List.mem_cons.mp hp with rfl | hp
    · exact .inr ⟨.head _, fun e => nd.1 (e ▸ List.mem_map_of_mem u.old)⟩
    · exact (ih nd.2 p hp).imp id fun x => ⟨.tail _ x.1, x.2⟩
def NsL (h : Heap) (L : Addr) (m : Loc) : Prop := ∃ f, h.Ns L f ∧ ∀ y v, m.lookup y = some v → f y = some v
theorem NsL.of {h : Heap} {L : Addr} {m : Loc} (x : h.Ns L fun y => m.lookup y) : NsL h L m := ⟨_, x, fun _ _ e => e⟩
theorem NsL.lt {h : Heap} {L : Addr} {m : Loc} (x : NsL h L m) : L < h.objs.size := let ⟨_, n, _⟩ := x; n.lt
theorem NsL.move {h h' : Heap} {L : Addr} {m : Loc} (x : NsL h L m) (k : ∀ o, h.get? L = some o → h'.get? L = some o) : NsL h' L m :=
  let ⟨f, ⟨o, es, ep, ho, r⟩, z⟩ := x; ⟨f, ⟨o, es, ep, k o ho, r⟩, z⟩
structure Ent where
  B : Heap
  h₀ : Heap
  D : List Addr
  g₀ : Frz
structure St (w : World) (K : Ent) (L : Addr) (m : Loc) (g : Frz) (Γ : List (Addr × Cell)) (h : Heap) : Prop where
  ns : NsL h L m
  base : ∀ b o, K.B.get? b = some o → h.get? b = some o
  frz : ∀ b o, g b = some o → h.get? b = some o ∧ b ≠ L ∧ b ∉ Γ.map (·.1)
  led : ∀ p ∈ Γ, At w h.get? p.1 p.2
  off : ∀ p ∈ Γ, p.1 ≠ L ∧ K.B.objs.size ≤ p.1 ∧ (p.1 ∈ K.D ∨ K.h₀.objs.size ≤ p.1)
  nd : (Γ.map (·.1)).Nodup
  keeps : ∀ b o, b ∉ K.D → K.h₀.get? b = some o → h.get? b = some o
  lf : K.h₀.objs.size ≤ L ∧ K.B.objs.size ≤ L
  grow : K.h₀.objs.size ≤ h.objs.size
  gmono : ∀ b o, K.g₀ b = some o → g b = some o
  gnew : ∀ b o, g b = some o → K.g₀ b = some o ∨ K.h₀.objs.size ≤ b
  gB : ∀ b o, g b = some o → K.B.objs.size ≤ b
section
variable {w : World} {K : Ent} {L : Addr} {m : Loc} {g : Frz} {Γ : List (Addr × Cell)} {h : Heap}
theorem St.fr (S : St w K L m g Γ h) : ∃ f, Fr K.B L h f := let ⟨f, n, _⟩ := S.ns; ⟨f, n, S.base, S.lf.2⟩
theorem St.rd (S : St w K L m g Γ h) {a : Addr} {c : Cell} (e : (a, c) ∈ Γ) : At w h.get? a c := S.led _ e
theorem St.fz (S : St w K L m g Γ h) {a : Addr} {c : Cell} (e : At w g a c) : At w h.get? a c := let ⟨o, e, r⟩ := e; ⟨o, (S.frz a o e).1, r⟩
theorem St.name (S : St w K L m g Γ h) {h' : Heap} {m' : Loc} (hn : NsL h' L m') (hs : Heap.SameBut L h h') : St w K L m' g Γ h' where
  ns := hn
  base b o e := (hs.2 b (fun q => by have := Heap.lt_size e; rw [q] at this; exact absurd S.lf.2 (Nat.not_le.mpr this))).trans (S.base b o e)
  frz b o e := have q := S.frz b o e; ⟨(hs.2 b q.2.1).trans q.1, q.2⟩
  led p hp := let ⟨o, e, r⟩ := S.led p hp; ⟨o, (hs.2 _ (S.off p hp).1).trans e, r⟩
  off := S.off
  nd := S.nd
  keeps b o hb e := (hs.2 b (fun q => by have := Heap.lt_size e; rw [q] at this; exact absurd S.lf.1 (Nat.not_le.mpr this))).trans (S.keeps b o hb e)
  lf := S.lf
  grow := by rw [hs.1]; exact S.grow
  gmono := S.gmono
  gnew := S.gnew
  gB := S.gB
theorem St.updE (S : St w K L m g Γ h) {h' : Heap} {d : Addr} {c c' : Cell} {Γ' : List (Addr × Cell)} (u : Upd d c c' Γ Γ') (hs : Heap.ExtBut d h h') (hc : At w h'.get? d c') : St w K L m g Γ' h' := by
  have hd := S.off _ u.old
  have key := u.all S.nd
  have keys := u.keys
  have dg : d ∈ Γ.map (·.1) := List.mem_map_of_mem u.old
  have n : NsL h' L m := S.ns.move fun o ho => hs L o (Ne.symm hd.1) ho
  refine ⟨n, fun b o e => hs b o (fun q => ?_) (S.base b o e), fun b o e => ?_, fun p hp => ?_, fun p hp => ?_, ?_, fun b o hb e => hs b o (fun q => ?_) (S.keeps b o hb e), S.lf, Nat.le_trans S.lf.1 (Nat.le_of_lt n.lt), S.gmono, S.gnew, S.gB⟩
  · exact absurd (Heap.lt_size e) (Nat.not_lt.mpr (q ▸ hd.2.1))
  · have q := S.frz b o e
    exact ⟨hs b o (fun z => q.2.2 (z ▸ dg)) q.1, q.2.1, by rw [keys]; exact q.2.2⟩
  · rcases key p hp with rfl | ⟨hp, hn⟩
    · exact hc
    · obtain ⟨o, e, r⟩ := S.led p hp; exact ⟨o, hs _ o hn e, r⟩
  · rcases key p hp with rfl | ⟨hp, _⟩
    · exact hd
    · exact S.off p hp
  · rw [keys]; exact S.nd
  · subst q
    rcases hd.2.2 with z | z
    · exact hb z
    · exact absurd (Heap.lt_size e) (Nat.not_lt.mpr z)
theorem St.upd (S : St w K L m g Γ h) {h' : Heap} {d : Addr} {c c' : Cell} {Γ' : List (Addr × Cell)} (u : Upd d c c' Γ Γ') (hs : Heap.SameBut d h h') (hc : At w h'.get? d c') : St w K L m g Γ' h' := S.updE u hs.extBut hc
theorem St.bsize (S : St w K L m g Γ h) : K.B.objs.size ≤ h.objs.size := Nat.le_trans S.lf.2 (Nat.le_of_lt S.ns.lt)
theorem St.newL (S : St w K L m g Γ h) : h.objs.size ≠ L := Nat.ne_of_gt S.ns.lt
theorem St.newG (S : St w K L m g Γ h) : h.objs.size ∉ Γ.map (·.1) := fun q => by
  obtain ⟨p, hp, e⟩ := List.mem_map.mp q
  exact Nat.lt_irrefl _ (e ▸ (S.led p hp).lt)
theorem St.push (S : St w K L m g Γ h) {o : Obj} {c : Cell} (hc : c.ok w o) (hf : o.isFreed = false) : St w K L m g ((h.objs.size, c) :: Γ) (h.push o) where
  ns := S.ns.move fun o ho => Heap.get?_push_of_some _ ho
  base b o' e := Heap.get?_push_of_some _ (S.base b o' e)
  frz b o' e := have q := S.frz b o' e; ⟨Heap.get?_push_of_some _ q.1, q.2.1, fun z => by
    rcases List.mem_cons.mp z with z | z
    · exact Nat.ne_of_lt (Heap.lt_size q.1) z
    · exact q.2.2 z⟩
  led p hp := by
    rcases List.mem_cons.mp hp with rfl | hp
    · exact ⟨o, Heap.get?_push_size _ hf, hc⟩
    · obtain ⟨o', e, r⟩ := S.led p hp; exact ⟨o', Heap.get?_push_of_some _ e, r⟩
  off p hp := by
    rcases List.mem_cons.mp hp with rfl | hp
    · exact ⟨S.newL, S.bsize, .inr S.grow⟩
    · exact S.off p hp
  nd := List.nodup_cons.mpr ⟨S.newG, S.nd⟩
  keeps b o' hb e := Heap.get?_push_of_some _ (S.keeps b o' hb e)
  lf := S.lf
  grow := by rw [Heap.size_push]; exact Nat.le_succ_of_le S.grow
  gmono := S.gmono
  gnew := S.gnew
  gB := S.gB
def Frz.add (g : Frz) (a : Addr) (o : Option Obj) : Frz := fun b => if b = a then o else g b
def Frz.le (g g' : Frz) : Prop := ∀ b o, g b = some o → g' b = some o
theorem Frz.le.refl {g : Frz} : g.le g := fun _ _ e => e
theorem Frz.le.trans {g g' g'' : Frz} (x : g.le g') (y : g'.le g'') : g.le g'' := fun b o e => y b o (x b o e)
theorem St.freeze {a : Addr} {c : Cell} (S : St w K L m g ((a, c) :: Γ) h) (hf : K.h₀.objs.size ≤ a) : ∃ g', g.le g' ∧ At w g' a c ∧ St w K L m g' Γ h := by
  have ga : ∀ o, g a = some o → False := fun o e => (S.frz a o e).2.2 (.head _)
  have nd := List.nodup_cons.mp S.nd
  obtain ⟨oa, ea, ra⟩ := S.led (a, c) (.head _)
  have old : ∀ b o, g b = some o → (g.add a (some oa)) b = some o := fun b o e => by
    unfold Frz.add; rw [if_neg (fun (q : b = a) => ga o (q ▸ e))]; exact e
  refine ⟨g.add a (some oa), old, ⟨oa, by simp [Frz.add], ra⟩, ⟨S.ns, S.base, fun b o e => ?_, fun p hp => S.led p (.tail _ hp), fun p hp => S.off p (.tail _ hp), nd.2, S.keeps, S.lf, S.grow, fun b o e => old b o (S.gmono b o e), fun b o e => ?_, fun b o e => ?_⟩⟩
  · unfold Frz.add at e
    by_cases q : b = a
    · rw [if_pos q] at e; cases e; subst q
      exact ⟨ea, (S.off _ (.head _)).1, nd.1⟩
    · rw [if_neg q] at e
      have z := S.frz b o e
      exact ⟨z.1, z.2.1, fun y => z.2.2 (.tail _ y)⟩
  · unfold Frz.add at e
    by_cases q : b = a
    · subst q; exact .inr hf
    · rw [if_neg q] at e; exact S.gnew b o e
  · unfold Frz.add at e
    by_cases q : b = a
    · subst q; exact (S.off _ (.head _)).2.1
    · rw [if_neg q] at e; exact S.gB b o e
end
theorem St.perm {w : World} {K : Ent} {L : Addr} {m : Loc} {g : Frz} {Γ Γ' : List (Addr × Cell)} {h : Heap} (S : St w K L m g Γ h) (p : Γ'.Perm Γ) : St w K L m g Γ' h :=
  ⟨S.ns, S.base, fun b o e => have z := S.frz b o e; ⟨z.1, z.2.1, fun y => z.2.2 ((p.map _).mem_iff.mp y)⟩, fun q hq => S.led q (p.mem_iff.mp hq), fun q hq => S.off q (p.mem_iff.mp hq), (p.map _).nodup_iff.mpr S.nd, S.keeps, S.lf, S.grow, S.gmono, S.gnew, S.gB⟩
section
variable {w : World} {K : Ent} {L : Addr} {m : Loc} {g : Frz} {ΓD Λ Λ' Γ Γ' : List (Addr × Cell)} {h : Heap}
inductive LSub : Loc → Loc → Prop
  | nil {m : Loc} : LSub [] m
  | cons {m r : Loc} {x : Str} {v : Value} : Lk m x v → LSub r m → LSub ((x, v) :: r) m
theorem LSub.look {m' m : Loc} (k : LSub m' m) : ∀ y v, m'.lookup y = some v → m.lookup y = some v := by
  induction k with
  | nil => intro y v h; simp at h
  | @cons m r x v h _ ih =>
    intro y u e
    rw [List.lookup_cons] at e
    split at e
    · rename_i q
      cases e
      rw [eq_of_beq q]; exact h.lookup
    · exact ih y u e
theorem St.weak {m' : Loc} (S : St w K L m g Γ h) (k : LSub m' m) : St w K L m' g Γ h :=
  ⟨let ⟨f, n, z⟩ := S.ns; ⟨f, n, fun y v e => z y v (k.look y v e)⟩, S.base, S.frz, S.led, S.off, S.nd, S.keeps, S.lf, S.grow, S.gmono, S.gnew, S.gB⟩
theorem St.sub (S : St w K L m g Γ h) (x : Γ'.Sublist Γ) : St w K L m g Γ' h :=
  ⟨S.ns, S.base, fun b o e => have z := S.frz b o e; ⟨z.1, z.2.1, fun y => z.2.2 ((x.map _).subset y)⟩, fun q hq => S.led q (x.subset hq), fun q hq => S.off q (x.subset hq), S.nd.sublist (x.map _), S.keeps, S.lf, S.grow, S.gmono, S.gnew, S.gB⟩
theorem perm_mid {α : Type} (a : α) (l r : List α) : (l ++ a :: r).Perm (a :: (l ++ r)) := List.perm_middle
theorem St.pushL (S : St w K L m g (ΓD ++ Λ) h) {o : Obj} {c : Cell} (hc : c.ok w o) (hf : o.isFreed = false) : St w K L m g (ΓD ++ (h.objs.size, c) :: Λ) (h.push o) :=
  (S.push hc hf).perm (perm_mid ..)
theorem St.freezeL {a : Addr} {c : Cell} (S : St w K L m g (ΓD ++ (a, c) :: Λ) h) (hf : K.h₀.objs.size ≤ a) : ∃ g', g.le g' ∧ At w g' a c ∧ St w K L m g' (ΓD ++ Λ) h :=
  (S.perm (perm_mid ..).symm).freeze hf
theorem Upd.right {d : Addr} {c c' : Cell} (u : Upd d c c' Λ Λ') : Upd d c c' (ΓD ++ Λ) (ΓD ++ Λ') := by
  induction ΓD with
  | nil => exact u
  | cons p r ih => exact .there ih
theorem Upd.left {d : Addr} {c c' : Cell} (u : Upd d c c' ΓD Γ') : Upd d c c' (ΓD ++ Λ) (Γ' ++ Λ) := by
  induction u with
  | here => exact .here
  | there _ ih => exact .there ih
theorem St.ext {h' : Heap} (S : St w K L m g Γ h) (k : ∀ b o, h.get? b = some o → h'.get? b = some o) : St w K L m g Γ h' :=
  have n : NsL h' L m := S.ns.move (k L)
  ⟨n, fun b o e => k b o (S.base b o e), fun b o e => have z := S.frz b o e; ⟨k b o z.1, z.2⟩, fun p hp => (S.led p hp).mono k, S.off, S.nd, fun b o hb e => k b o (S.keeps b o hb e), S.lf, Nat.le_trans S.lf.1 (Nat.le_of_lt n.lt), S.gmono, S.gnew, S.gB⟩
theorem St.extBut {h' : Heap} {b : Addr} (S : St w K L m g Γ h) (k : Heap.ExtBut b h h') (hb : h.objs.size ≤ b) : St w K L m g Γ h' :=
  S.ext fun c o e => k c o (Nat.ne_of_lt (Nat.lt_of_lt_of_le (Heap.lt_size e) hb)) e
theorem St.adopt {h' : Heap} {a : Addr} {c : Cell} (S : St w K L m g (ΓD ++ Λ) h) (k : ∀ b o, h.get? b = some o → h'.get? b = some o) (hn : h.objs.size ≤ a) (hc : At w h'.get? a c) : St w K L m g (ΓD ++ (a, c) :: Λ) h' := by
  have S' := S.ext k
  have fresh : ∀ b c', At w h.get? b c' → b ≠ a := fun b c' z => Nat.ne_of_lt (Nat.lt_of_lt_of_le z.lt hn)
  have aΓ : a ∉ (ΓD ++ Λ).map (·.1) := fun y => by
    obtain ⟨p, hp, e⟩ := List.mem_map.mp y
    exact fresh _ _ (S.led p hp) e
  refine St.perm (Γ := (a, c) :: (ΓD ++ Λ)) ⟨S'.ns, S'.base, fun b o e => ?_, fun p hp => ?_, fun p hp => ?_, List.nodup_cons.mpr ⟨aΓ, S.nd⟩, S'.keeps, S.lf, S'.grow, S.gmono, S.gnew, S.gB⟩ (perm_mid ..)
  · have z := S'.frz b o e
    refine ⟨z.1, z.2.1, fun y => ?_⟩
    rcases List.mem_cons.mp y with y | y
    · exact Nat.lt_irrefl _ (Nat.lt_of_lt_of_le (Heap.lt_size (S.frz b o e).1) (y ▸ hn))
    · exact z.2.2 y
  · rcases List.mem_cons.mp hp with rfl | hp
    · exact hc
    · exact S'.led p hp
  · rcases List.mem_cons.mp hp with rfl | hp
    · exact ⟨Nat.ne_of_gt (Nat.lt_of_lt_of_le S.ns.lt hn), Nat.le_trans S.bsize hn, .inr (Nat.le_trans S.grow hn)⟩
    · exact S.off p hp
theorem St.forgetH {h' : Heap} {a : Addr} {c : Cell} (S : St w K L m g ((a, c) :: Γ) h) (hs : Heap.ExtBut a h h') : St w K L m g Γ h' := by
  have hd := S.off _ (List.Mem.head _)
  have nd := List.nodup_cons.mp S.nd
  have n : NsL h' L m := S.ns.move fun o ho => hs L o (Ne.symm hd.1) ho
  refine ⟨n, fun b o e => hs b o (fun q => absurd (Heap.lt_size e) (Nat.not_lt.mpr (q ▸ hd.2.1))) (S.base b o e), fun b o e => ?_, fun p hp => ?_, fun p hp => S.off p (.tail _ hp), nd.2, fun b o hb e => hs b o (fun q => ?_) (S.keeps b o hb e), S.lf, Nat.le_trans S.lf.1 (Nat.le_of_lt n.lt), S.gmono, S.gnew, S.gB⟩
  · have z := S.frz b o e
    exact ⟨hs b o (fun y => z.2.2 (by rw [y]; exact .head _)) z.1, z.2.1, fun y => z.2.2 (.tail _ y)⟩
  · obtain ⟨o, e, r⟩ := S.led p (.tail _ hp)
    exact ⟨o, hs _ o (fun y => nd.1 (List.mem_map.mpr ⟨p, hp, y⟩)) e, r⟩
  · subst q
    rcases hd.2.2 with z | z
    · exact hb z
    · exact absurd (Heap.lt_size e) (Nat.not_lt.mpr z)
theorem St.forget {h' : Heap} {a : Addr} {c : Cell} (S : St w K L m g (ΓD ++ (a, c) :: Λ) h) (hs : Heap.ExtBut a h h') : St w K L m g (ΓD ++ Λ) h' := (S.perm (perm_mid ..).symm).forgetH hs
theorem St.drop {a : Addr} {c : Cell} (S : St w K L m g (ΓD ++ (a, c) :: Λ) h) : St w K L m g (ΓD ++ Λ) h := S.sub (List.Sublist.append_left (List.sublist_cons_self _ _) _)
theorem St.other {h' : Heap} {a : Addr} (S : St w K L m g Γ h) (hs : Heap.ExtBut a h h') (h1 : a ≠ L) (h2 : a ∉ Γ.map (·.1)) (h3 : g a = none) (h4 : K.B.objs.size ≤ a) (h5 : K.h₀.objs.size ≤ a) : St w K L m g Γ h' := by
  have n : NsL h' L m := S.ns.move fun o ho => hs L o (Ne.symm h1) ho
  refine ⟨n, fun b o e => hs b o (fun q => absurd (Heap.lt_size e) (Nat.not_lt.mpr (q ▸ h4))) (S.base b o e), fun b o e => ?_, fun p hp => ?_, S.off, S.nd, fun b o hb e => hs b o (fun q => absurd (Heap.lt_size e) (Nat.not_lt.mpr (q ▸ h5))) (S.keeps b o hb e), S.lf, Nat.le_trans S.lf.1 (Nat.le_of_lt n.lt), S.gmono, S.gnew, S.gB⟩
  · have z := S.frz b o e
    exact ⟨hs b o (fun y => by rw [y, h3] at e; cases e) z.1, z.2⟩
  · obtain ⟨o, e, r⟩ := S.led p hp
    exact ⟨o, hs _ o (fun y => h2 (List.mem_map.mpr ⟨p, hp, y⟩)) e, r⟩
def Rd (w : World) (g : Frz) (Γ : List (Addr × Cell)) (a : Addr) (c : Cell) : Prop := (a, c) ∈ Γ ∨ At w g a c
theorem St.rdOld {a : Addr} {c : Cell} (S : St w K L m g (ΓD ++ Λ) h) (r : Rd w g Λ a c) : At w h.get? a c ∧ a ∉ ΓD.map (·.1) := by
  rcases r with r | r
  · refine ⟨S.rd (List.mem_append_right _ r), fun y => ?_⟩
    have nd := S.nd
    rw [List.map_append] at nd
    exact (List.nodup_append.mp nd).2.2 _ y _ (List.mem_map_of_mem r) rfl
  · obtain ⟨o, e, r'⟩ := r
    exact ⟨S.fz ⟨o, e, r'⟩, fun y => (S.frz a o e).2.2 (by rw [List.map_append]; exact List.mem_append_left _ y)⟩
theorem St.old {a : Addr} {c : Cell} (S : St w K L m g Γ h) (r : At w K.h₀.get? a c) (n : a ∉ K.D) : At w h.get? a c := let ⟨o, e, r⟩ := r; ⟨o, S.keeps a o n e, r⟩
theorem St.freshL {a : Addr} {c : Cell} (S : St w K L m g (ΓD ++ Λ) h) (hD : K.D = ΓD.map (·.1)) (e : (a, c) ∈ Λ) : K.h₀.objs.size ≤ a := by
  rcases (S.off _ (List.mem_append_right _ e)).2.2 with z | z
  · have nd := S.nd
    rw [List.map_append] at nd
    exact absurd rfl ((List.nodup_append.mp nd).2.2 _ (hD ▸ z) _ (List.mem_map_of_mem e))
  · exact z
end
namespace Hd
noncomputable abbrev PW : Program := PySem.Challenge.rw_nm0008_01.row.toRowW.1
noncomputable def stmtAt (i : Nat) : Option Stmt := PW.main.body[i]?
noncomputable def inCls (j : Nat) : Option Stmt → Option Stmt | some (.ClassDef _ _ _ b ..) => b[j]? | _ => none
noncomputable def parts : Option Stmt → Option (Arguments × List Stmt × Scope) | some (.FunctionDef _ a b _ _ _ s ..) => some (a, b, s) | _ => none
noncomputable abbrev f1_0 : {x : Arguments × List Stmt × Scope // parts (inCls 0 (stmtAt 1)) = some x} := ⟨_, rfl⟩
noncomputable abbrev f1_0p : Arguments := f1_0.1.1
noncomputable abbrev f1_0b : List Stmt := f1_0.1.2.1
noncomputable abbrev f1_0s : Scope := f1_0.1.2.2
noncomputable abbrev f2_0 : {x : Arguments × List Stmt × Scope // parts (inCls 0 (stmtAt 2)) = some x} := ⟨_, rfl⟩
noncomputable abbrev f2_0p : Arguments := f2_0.1.1
noncomputable abbrev f2_0b : List Stmt := f2_0.1.2.1
noncomputable abbrev f2_0s : Scope := f2_0.1.2.2
noncomputable abbrev f3_0 : {x : Arguments × List Stmt × Scope // parts (inCls 0 (stmtAt 3)) = some x} := ⟨_, rfl⟩
noncomputable abbrev f3_0p : Arguments := f3_0.1.1
noncomputable abbrev f3_0b : List Stmt := f3_0.1.2.1
noncomputable abbrev f3_0s : Scope := f3_0.1.2.2
noncomputable abbrev f4 : {x : Arguments × List Stmt × Scope // parts (stmtAt 4) = some x} := ⟨_, rfl⟩
noncomputable abbrev f4p : Arguments := f4.1.1
noncomputable abbrev f4b : List Stmt := f4.1.2.1
noncomputable abbrev f4s : Scope := f4.1.2.2
noncomputable abbrev f6 : {x : Arguments × List Stmt × Scope // parts (stmtAt 6) = some x} := ⟨_, rfl⟩
noncomputable abbrev f6p : Arguments := f6.1.1
noncomputable abbrev f6b : List Stmt := f6.1.2.1
noncomputable abbrev f6s : Scope := f6.1.2.2
noncomputable abbrev f7 : {x : Arguments × List Stmt × Scope // parts (stmtAt 7) = some x} := ⟨_, rfl⟩
noncomputable abbrev f7p : Arguments := f7.1.1
noncomputable abbrev f7b : List Stmt := f7.1.2.1
noncomputable abbrev f7s : Scope := f7.1.2.2
noncomputable abbrev f11 : {x : Arguments × List Stmt × Scope // parts (stmtAt 11) = some x} := ⟨_, rfl⟩
noncomputable abbrev f11p : Arguments := f11.1.1
noncomputable abbrev f11b : List Stmt := f11.1.2.1
noncomputable abbrev f11s : Scope := f11.1.2.2
noncomputable abbrev f12 : {x : Arguments × List Stmt × Scope // parts (stmtAt 12) = some x} := ⟨_, rfl⟩
noncomputable abbrev f12p : Arguments := f12.1.1
noncomputable abbrev f12b : List Stmt := f12.1.2.1
noncomputable abbrev f12s : Scope := f12.1.2.2
noncomputable abbrev f13 : {x : Arguments × List Stmt × Scope // parts (stmtAt 13) = some x} := ⟨_, rfl⟩
noncomputable abbrev f13p : Arguments := f13.1.1
noncomputable abbrev f13b : List Stmt := f13.1.2.1
noncomputable abbrev f13s : Scope := f13.1.2.2
noncomputable abbrev f14 : {x : Arguments × List Stmt × Scope // parts (stmtAt 14) = some x} := ⟨_, rfl⟩
noncomputable abbrev f14p : Arguments := f14.1.1
noncomputable abbrev f14b : List Stmt := f14.1.2.1
noncomputable abbrev f14s : Scope := f14.1.2.2
noncomputable abbrev f15 : {x : Arguments × List Stmt × Scope // parts (stmtAt 15) = some x} := ⟨_, rfl⟩
noncomputable abbrev f15p : Arguments := f15.1.1
noncomputable abbrev f15b : List Stmt := f15.1.2.1
noncomputable abbrev f15s : Scope := f15.1.2.2
noncomputable abbrev f16 : {x : Arguments × List Stmt × Scope // parts (stmtAt 16) = some x} := ⟨_, rfl⟩
noncomputable abbrev f16p : Arguments := f16.1.1
noncomputable abbrev f16b : List Stmt := f16.1.2.1
noncomputable abbrev f16s : Scope := f16.1.2.2
noncomputable abbrev f17 : {x : Arguments × List Stmt × Scope // parts (stmtAt 17) = some x} := ⟨_, rfl⟩
noncomputable abbrev f17p : Arguments := f17.1.1
noncomputable abbrev f17b : List Stmt := f17.1.2.1
noncomputable abbrev f17s : Scope := f17.1.2.2
noncomputable abbrev f20 : {x : Arguments × List Stmt × Scope // parts (stmtAt 20) = some x} := ⟨_, rfl⟩
noncomputable abbrev f20p : Arguments := f20.1.1
noncomputable abbrev f20b : List Stmt := f20.1.2.1
noncomputable abbrev f20s : Scope := f20.1.2.2
noncomputable abbrev f21 : {x : Arguments × List Stmt × Scope // parts (stmtAt 21) = some x} := ⟨_, rfl⟩
noncomputable abbrev f21p : Arguments := f21.1.1
noncomputable abbrev f21b : List Stmt := f21.1.2.1
noncomputable abbrev f21s : Scope := f21.1.2.2
noncomputable abbrev f22 : {x : Arguments × List Stmt × Scope // parts (stmtAt 22) = some x} := ⟨_, rfl⟩
noncomputable abbrev f22p : Arguments := f22.1.1
noncomputable abbrev f22b : List Stmt := f22.1.2.1
noncomputable abbrev f22s : Scope := f22.1.2.2
noncomputable abbrev f23 : {x : Arguments × List Stmt × Scope // parts (stmtAt 23) = some x} := ⟨_, rfl⟩
noncomputable abbrev f23p : Arguments := f23.1.1
noncomputable abbrev f23b : List Stmt := f23.1.2.1
noncomputable abbrev f23s : Scope := f23.1.2.2
noncomputable abbrev f24 : {x : Arguments × List Stmt × Scope // parts (stmtAt 24) = some x} := ⟨_, rfl⟩
noncomputable abbrev f24p : Arguments := f24.1.1
noncomputable abbrev f24b : List Stmt := f24.1.2.1
noncomputable abbrev f24s : Scope := f24.1.2.2
noncomputable abbrev f25 : {x : Arguments × List Stmt × Scope // parts (stmtAt 25) = some x} := ⟨_, rfl⟩
noncomputable abbrev f25p : Arguments := f25.1.1
noncomputable abbrev f25b : List Stmt := f25.1.2.1
noncomputable abbrev f25s : Scope := f25.1.2.2
noncomputable abbrev f26 : {x : Arguments × List Stmt × Scope // parts (stmtAt 26) = some x} := ⟨_, rfl⟩
noncomputable abbrev f26p : Arguments := f26.1.1
noncomputable abbrev f26b : List Stmt := f26.1.2.1
noncomputable abbrev f26s : Scope := f26.1.2.2
noncomputable abbrev f27 : {x : Arguments × List Stmt × Scope // parts (stmtAt 27) = some x} := ⟨_, rfl⟩
noncomputable abbrev f27p : Arguments := f27.1.1
noncomputable abbrev f27b : List Stmt := f27.1.2.1
noncomputable abbrev f27s : Scope := f27.1.2.2
noncomputable abbrev f28 : {x : Arguments × List Stmt × Scope // parts (stmtAt 28) = some x} := ⟨_, rfl⟩
noncomputable abbrev f28p : Arguments := f28.1.1
noncomputable abbrev f28b : List Stmt := f28.1.2.1
noncomputable abbrev f28s : Scope := f28.1.2.2
noncomputable abbrev f29 : {x : Arguments × List Stmt × Scope // parts (stmtAt 29) = some x} := ⟨_, rfl⟩
noncomputable abbrev f29p : Arguments := f29.1.1
noncomputable abbrev f29b : List Stmt := f29.1.2.1
noncomputable abbrev f29s : Scope := f29.1.2.2
noncomputable abbrev f30 : {x : Arguments × List Stmt × Scope // parts (stmtAt 30) = some x} := ⟨_, rfl⟩
noncomputable abbrev f30p : Arguments := f30.1.1
noncomputable abbrev f30b : List Stmt := f30.1.2.1
noncomputable abbrev f30s : Scope := f30.1.2.2
noncomputable abbrev f31 : {x : Arguments × List Stmt × Scope // parts (stmtAt 31) = some x} := ⟨_, rfl⟩
noncomputable abbrev f31p : Arguments := f31.1.1
noncomputable abbrev f31b : List Stmt := f31.1.2.1
noncomputable abbrev f31s : Scope := f31.1.2.2
noncomputable abbrev f32 : {x : Arguments × List Stmt × Scope // parts (stmtAt 32) = some x} := ⟨_, rfl⟩
noncomputable abbrev f32p : Arguments := f32.1.1
noncomputable abbrev f32b : List Stmt := f32.1.2.1
noncomputable abbrev f32s : Scope := f32.1.2.2
noncomputable abbrev f33 : {x : Arguments × List Stmt × Scope // parts (stmtAt 33) = some x} := ⟨_, rfl⟩
noncomputable abbrev f33p : Arguments := f33.1.1
noncomputable abbrev f33b : List Stmt := f33.1.2.1
noncomputable abbrev f33s : Scope := f33.1.2.2
noncomputable abbrev f34 : {x : Arguments × List Stmt × Scope // parts (stmtAt 34) = some x} := ⟨_, rfl⟩
noncomputable abbrev f34p : Arguments := f34.1.1
noncomputable abbrev f34b : List Stmt := f34.1.2.1
noncomputable abbrev f34s : Scope := f34.1.2.2
noncomputable abbrev f35 : {x : Arguments × List Stmt × Scope // parts (stmtAt 35) = some x} := ⟨_, rfl⟩
noncomputable abbrev f35p : Arguments := f35.1.1
noncomputable abbrev f35b : List Stmt := f35.1.2.1
noncomputable abbrev f35s : Scope := f35.1.2.2
noncomputable abbrev f36 : {x : Arguments × List Stmt × Scope // parts (stmtAt 36) = some x} := ⟨_, rfl⟩
noncomputable abbrev f36p : Arguments := f36.1.1
noncomputable abbrev f36b : List Stmt := f36.1.2.1
noncomputable abbrev f36s : Scope := f36.1.2.2
noncomputable abbrev f37 : {x : Arguments × List Stmt × Scope // parts (stmtAt 37) = some x} := ⟨_, rfl⟩
noncomputable abbrev f37p : Arguments := f37.1.1
noncomputable abbrev f37b : List Stmt := f37.1.2.1
noncomputable abbrev f37s : Scope := f37.1.2.2
noncomputable abbrev f38 : {x : Arguments × List Stmt × Scope // parts (stmtAt 38) = some x} := ⟨_, rfl⟩
noncomputable abbrev f38p : Arguments := f38.1.1
noncomputable abbrev f38b : List Stmt := f38.1.2.1
noncomputable abbrev f38s : Scope := f38.1.2.2
noncomputable abbrev f39 : {x : Arguments × List Stmt × Scope // parts (stmtAt 39) = some x} := ⟨_, rfl⟩
noncomputable abbrev f39p : Arguments := f39.1.1
noncomputable abbrev f39b : List Stmt := f39.1.2.1
noncomputable abbrev f39s : Scope := f39.1.2.2
noncomputable abbrev f40 : {x : Arguments × List Stmt × Scope // parts (stmtAt 40) = some x} := ⟨_, rfl⟩
noncomputable abbrev f40p : Arguments := f40.1.1
noncomputable abbrev f40b : List Stmt := f40.1.2.1
noncomputable abbrev f40s : Scope := f40.1.2.2
noncomputable abbrev f41 : {x : Arguments × List Stmt × Scope // parts (stmtAt 41) = some x} := ⟨_, rfl⟩
noncomputable abbrev f41p : Arguments := f41.1.1
noncomputable abbrev f41b : List Stmt := f41.1.2.1
noncomputable abbrev f41s : Scope := f41.1.2.2
noncomputable def ob_3 (P : Params) : Obj := { cls := Value.type "dict", data := Data.dict #[{ hash := PyData.keyHash P (Str.ofString "__name__"), key := Value.str (Str.ofString "__name__") 165, val := Value.str (Str.ofString "law_nm0008_01") 414 }, { hash := PyData.keyHash P (Str.ofString "__doc__"), key := Value.str (Str.ofString "__doc__") 166, val := Value.none }, { hash := PyData.keyHash P (Str.ofString "__package__"), key := Value.str (Str.ofString "__package__") 167, val := Value.none }, { hash := PyData.keyHash P (Str.ofString "__loader__"), key := Value.str (Str.ofString "__loader__") 168, val := Value.builtin "__main__.__loader__#opaque" }, { hash := PyData.keyHash P (Str.ofString "__spec__"), key := Value.str (Str.ofString "__spec__") 169, val := Value.none }, { hash := PyData.keyHash P (Str.ofString "__annotations__"), key := Value.str (Str.ofString "__annotations__") 170, val := Value.ref 6 }, { hash := PyData.keyHash P (Str.ofString "__builtins__"), key := Value.str (Str.ofString "__builtins__") 171, val := Value.ref 4 }, { hash := PyData.keyHash P (Str.ofString "__file__"), key := Value.str (Str.ofString "__file__") 173, val := Value.str (Str.ofString "/claim/cut.py") 172 }, { hash := PyData.keyHash P (Str.ofString "__cached__"), key := Value.str (Str.ofString "__cached__") 174, val := Value.none }, { hash := PyData.keyHash P (Str.ofString "Step"), key := Value.str (Str.ofString "Step") 225, val := Value.ref 31 }, { hash := PyData.keyHash P (Str.ofString "Block"), key := Value.str (Str.ofString "Block") 256, val := Value.ref 52 }, { hash := PyData.keyHash P (Str.ofString "Func"), key := Value.str (Str.ofString "Func") 291, val := Value.ref 73 }, { hash := PyData.keyHash P (Str.ofString "followers"), key := Value.str (Str.ofString "followers") 299, val := Value.ref 84 }, { hash := PyData.keyHash P (Str.ofString "postorder"), key := Value.str (Str.ofString "postorder") 313, val := Value.ref 91 }, { hash := PyData.keyHash P (Str.ofString "order"), key := Value.str (Str.ofString "order") 320, val := Value.ref 98 }, { hash := PyData.keyHash P (Str.ofString "ROUND"), key := Value.str (Str.ofString "ROUND") 324, val := Value.int 4294967296 323 }, { hash := PyData.keyHash P (Str.ofString "ADDRESSED"), key := Value.str (Str.ofString "ADDRESSED") 334, val := Value.ref 99 }, { hash := PyData.keyHash P (Str.ofString "set_once"), key := Value.str (Str.ofString "set_once") 346, val := Value.ref 106 }, { hash := PyData.keyHash P (Str.ofString "slot_told"), key := Value.str (Str.ofString "slot_told") 354, val := Value.ref 113 }, { hash := PyData.keyHash P (Str.ofString "holders_of_slots"), key := Value.str (Str.ofString "holders_of_slots") 366, val := Value.ref 120 }, { hash := PyData.keyHash P (Str.ofString "let_go"), key := Value.str (Str.ofString "let_go") 376, val := Value.ref 127 }, { hash := PyData.keyHash P (Str.ofString "private_slots"), key := Value.str (Str.ofString "private_slots") 389, val := Value.ref 134 }, { hash := PyData.keyHash P (Str.ofString "is_inside"), key := Value.str (Str.ofString "is_inside") 400, val := Value.ref 141 }, { hash := PyData.keyHash P (Str.ofString "may_meet"), key := Value.str (Str.ofString "may_meet") 413, val := Value.ref 148 }, { hash := PyData.keyHash P (Str.ofString "_law_wide"), key := Value.str (Str.ofString "_law_wide") 417, val := Value.int 4294967296 416 }, { hash := PyData.keyHash P (Str.ofString "_law_homes"), key := Value.str (Str.ofString "_law_homes") 423, val := Value.ref 155 }, { hash := PyData.keyHash P (Str.ofString "_law_draw"), key := Value.str (Str.ofString "_law_draw") 434, val := Value.ref 162 }, { hash := PyData.keyHash P (Str.ofString "_law_pick"), key := Value.str (Str.ofString "_law_pick") 442, val := Value.ref 169 }, { hash := PyData.keyHash P (Str.ofString "_law_signed"), key := Value.str (Str.ofString "_law_signed") 449, val := Value.ref 176 }, { hash := PyData.keyHash P (Str.ofString "_law_fresh"), key := Value.str (Str.ofString "_law_fresh") 457, val := Value.ref 183 }, { hash := PyData.keyHash P (Str.ofString "_law_goal"), key := Value.str (Str.ofString "_law_goal") 466, val := Value.ref 190 }, { hash := PyData.keyHash P (Str.ofString "_law_reached"), key := Value.str (Str.ofString "_law_reached") 478, val := Value.ref 197 }, { hash := PyData.keyHash P (Str.ofString "_law_cleared"), key := Value.str (Str.ofString "_law_cleared") 488, val := Value.ref 204 }, { hash := PyData.keyHash P (Str.ofString "_law_handed"), key := Value.str (Str.ofString "_law_handed") 498, val := Value.ref 211 }, { hash := PyData.keyHash P (Str.ofString "_law_address"), key := Value.str (Str.ofString "_law_address") 517, val := Value.ref 218 }, { hash := PyData.keyHash P (Str.ofString "_law_stored"), key := Value.str (Str.ofString "_law_stored") 529, val := Value.ref 225 }, { hash := PyData.keyHash P (Str.ofString "_law_loaded"), key := Value.str (Str.ofString "_law_loaded") 542, val := Value.ref 232 }, { hash := PyData.keyHash P (Str.ofString "_law_moved"), key := Value.str (Str.ofString "_law_moved") 548, val := Value.ref 237 }, { hash := PyData.keyHash P (Str.ofString "_law_other"), key := Value.str (Str.ofString "_law_other") 554, val := Value.ref 242 }, { hash := PyData.keyHash P (Str.ofString "_law_done"), key := Value.str (Str.ofString "_law_done") 560, val := Value.ref 247 }, { hash := PyData.keyHash P (Str.ofString "_law_function"), key := Value.str (Str.ofString "_law_function") 566, val := Value.ref 252 }, { hash := PyData.keyHash P (Str.ofString "_law_singles"), key := Value.str (Str.ofString "_law_singles") 572, val := Value.ref 257 }, { hash := PyData.keyHash P (Str.ofString "_law_holders"), key := Value.str (Str.ofString "_law_holders") 582, val := Value.ref 264 }, { hash := PyData.keyHash P (Str.ofString "_law_private"), key := Value.str (Str.ofString "_law_private") 588, val := Value.ref 269 }, { hash := PyData.keyHash P (Str.ofString "_law_within"), key := Value.str (Str.ofString "_law_within") 599, val := Value.ref 276 }, { hash := PyData.keyHash P (Str.ofString "_law_meets"), key := Value.str (Str.ofString "_law_meets") 605, val := Value.ref 281 }, { hash := PyData.keyHash P (Str.ofString "law"), key := Value.str (Str.ofString "law") 611, val := Value.ref 286 }] 47 }
noncomputable def ob_11 (P : Params) : Obj := { cls := Value.type "tuple", data := Data.seq #[] }
noncomputable def ob_12 (P : Params) : Obj := { cls := Value.none, data := Data.fields #[Value.int 2 0, Value.int 0 0, Value.ref 20, Value.int 11 0, Value.int 0 0, Value.ref 41, Value.int 17 0, Value.int 0 0, Value.ref 62, Value.int 27 0, Value.int 0 0, Value.ref 83, Value.int 37 0, Value.int 0 0, Value.ref 90, Value.int 53 0, Value.int 0 0, Value.ref 97, Value.int 58 0, Value.int 0 0, Value.ref 105, Value.int 71 0, Value.int 0 0, Value.ref 112, Value.int 79 0, Value.int 0 0, Value.ref 119, Value.int 88 0, Value.int 0 0, Value.ref 126, Value.int 92 0, Value.int 0 0, Value.ref 133, Value.int 110 0, Value.int 0 0, Value.ref 140, Value.int 115 0, Value.int 0 0, Value.ref 147, Value.int 127 0, Value.int 0 0, Value.ref 154, Value.int 129 0, Value.int 0 0, Value.ref 161, Value.int 135 0, Value.int 0 0, Value.ref 168, Value.int 137 0, Value.int 0 0, Value.ref 175, Value.int 139 0, Value.int 0 0, Value.ref 182, Value.int 142 0, Value.int 0 0, Value.ref 189, Value.int 148 0, Value.int 0 0, Value.ref 196, Value.int 152 0, Value.int 0 0, Value.ref 203, Value.int 156 0, Value.int 0 0, Value.ref 210, Value.int 161 0, Value.int 0 0, Value.ref 217, Value.int 180 0, Value.int 0 0, Value.ref 224, Value.int 191 0, Value.int 0 0, Value.ref 231, Value.int 198 0, Value.int 0 0, Value.ref 236, Value.int 207 0, Value.int 0 0, Value.ref 241, Value.int 218 0, Value.int 0 0, Value.ref 246, Value.int 230 0, Value.int 0 0, Value.ref 251, Value.int 241 0, Value.int 0 0, Value.ref 256, Value.int 251 0, Value.int 0 0, Value.ref 263, Value.int 259 0, Value.int 0 0, Value.ref 268, Value.int 273 0, Value.int 0 0, Value.ref 275, Value.int 276 0, Value.int 0 0, Value.ref 280, Value.int 289 0, Value.int 0 0, Value.ref 285] }
noncomputable def ob_13 (P : Params) : Obj := { cls := Value.type "code", data := Data.fields #[Value.str (Str.ofString "<module>") 182, Value.str (Str.ofString "<module>") 183, Value.str (Str.ofString "/claim/cut.py") 184, Value.int 1 0, Value.int 0 0, Value.int 0 0, Value.int 0 0, Value.int 0 0, Value.ref 11, Value.bool false, Value.int 181 0, Value.ref 12, Value.none, Value.none, Value.none, Value.none, Value.int 185 0, Value.int 1 0, Value.str (Str.ofString "/claim/cut.py") 186] }
noncomputable def ob_14 (P : Params) : Obj := { cls := Value.type "frame", slots := #[some (Value.ref 13), some (Value.ref 3), some (Value.ref 3), none, some (Value.str (Str.ofString "__main__") 164), none, some (Value.ref 0)] }
noncomputable def ob_15 (P : Params) : Obj := { cls := Value.type "tuple", data := Data.seq #[] }
noncomputable def ob_16 (P : Params) : Obj := { cls := Value.type "builtin_function_or_method", data := Data.fields #[Value.builtin "type.__prepare__", Value.type "type"] }
noncomputable def ob_17 (P : Params) : Obj := { cls := Value.type "dict", data := Data.dict #[{ hash := PyData.keyHash P (Str.ofString "__module__"), key := Value.str (Str.ofString "__module__") 196, val := Value.str (Str.ofString "corecc.code") 187 }, { hash := PyData.keyHash P (Str.ofString "__qualname__"), key := Value.str (Str.ofString "__qualname__") 198, val := Value.str (Str.ofString "Step") 197 }, { hash := PyData.keyHash P (Str.ofString "__firstlineno__"), key := Value.str (Str.ofString "__firstlineno__") 200, val := Value.int 2 199 }, { hash := PyData.keyHash P (Str.ofString "__init__"), key := Value.str (Str.ofString "__init__") 211, val := Value.ref 28 }, { hash := PyData.keyHash P (Str.ofString "__static_attributes__"), key := Value.str (Str.ofString "__static_attributes__") 218, val := Value.ref 29 }] 5 }
noncomputable def ob_18 (P : Params) : Obj := { cls := Value.type "tuple", data := Data.seq #[] }
noncomputable def ob_19 (P : Params) : Obj := { cls := Value.none, data := Data.fields #[Value.int 4 0, Value.int 4 0, Value.ref 27] }
noncomputable def ob_20 (P : Params) : Obj := { cls := Value.type "code", data := Data.fields #[Value.str (Str.ofString "Step") 191, Value.str (Str.ofString "Step") 192, Value.str (Str.ofString "/claim/cut.py") 193, Value.int 2 0, Value.int 0 0, Value.int 0 0, Value.int 0 0, Value.int 0 0, Value.ref 18, Value.bool false, Value.int 181 0, Value.ref 19, Value.none, Value.none, Value.none, Value.none, Value.int 194 0, Value.int 2 0, Value.str (Str.ofString "/claim/cut.py") 195] }
noncomputable def ob_21 (P : Params) : Obj := { cls := Value.type "frame", slots := #[some (Value.ref 20), some (Value.ref 3), some (Value.ref 17), none, some (Value.str (Str.ofString "corecc.code") 187), none, some (Value.ref 0)] }
noncomputable def ob_22 (P : Params) : Obj := { cls := Value.type "tuple", data := Data.seq #[] }
noncomputable def ob_23 (P : Params) : Obj := { cls := Value.none, data := Data.fields #[] }
noncomputable def ob_24 (P : Params) : Obj := { cls := Value.type "tuple", data := Data.seq #[Value.str (Str.ofString "self") 204, Value.str (Str.ofString "op") 205, Value.str (Str.ofString "dst") 206, Value.str (Str.ofString "args") 207, Value.str (Str.ofString "more") 208] }
noncomputable def ob_25 (P : Params) : Obj := { cls := Value.type "tuple", data := Data.seq #[] }
noncomputable def ob_26 (P : Params) : Obj := { cls := Value.none, data := Data.func { name := Str.ofString "__init__", qualname := Str.ofString "Step.__init__", params := f1_0p, body := FuncBody.stmts f1_0b, scope := f1_0s, globals := 0, closure := [], defaults := Value.none, kwdefaults := Value.none } }
noncomputable def ob_27 (P : Params) : Obj := { cls := Value.type "code", data := Data.fields #[Value.str (Str.ofString "__init__") 201, Value.str (Str.ofString "Step.__init__") 202, Value.str (Str.ofString "/claim/cut.py") 203, Value.int 4 0, Value.int 5 0, Value.int 0 0, Value.int 0 0, Value.int 3 0, Value.ref 22, Value.bool true, Value.int 181 0, Value.ref 23, Value.none, Value.ref 24, Value.ref 25, Value.ref 26, Value.int 209 0, Value.int 4 0, Value.str (Str.ofString "/claim/cut.py") 210] }
noncomputable def ob_28 (P : Params) : Obj := { cls := Value.type "function", data := Data.func { name := Str.ofString "__init__", qualname := Str.ofString "Step.__init__", params := f1_0p, body := FuncBody.stmts f1_0b, scope := f1_0s, globals := 3, closure := [], defaults := Value.none, kwdefaults := Value.none, pyModule := Value.str (Str.ofString "corecc.code") 187, code := Value.ref 27 } }
noncomputable def ob_29 (P : Params) : Obj := { cls := Value.type "tuple", data := Data.seq #[Value.str (Str.ofString "args") 212, Value.str (Str.ofString "dst") 213, Value.str (Str.ofString "is_volatile") 214, Value.str (Str.ofString "line") 215, Value.str (Str.ofString "more") 216, Value.str (Str.ofString "op") 217] }
noncomputable def ob_30 (P : Params) : Obj := { cls := Value.type "dict", data := Data.dict #[{ hash := PyData.keyHash P (Str.ofString "__module__"), key := Value.str (Str.ofString "__module__") 196, val := Value.str (Str.ofString "corecc.code") 187 }, { hash := PyData.keyHash P (Str.ofString "__firstlineno__"), key := Value.str (Str.ofString "__firstlineno__") 200, val := Value.int 2 199 }, { hash := PyData.keyHash P (Str.ofString "__init__"), key := Value.str (Str.ofString "__init__") 211, val := Value.ref 28 }, { hash := PyData.keyHash P (Str.ofString "__static_attributes__"), key := Value.str (Str.ofString "__static_attributes__") 218, val := Value.ref 29 }, { hash := PyData.keyHash P (Str.ofString "__dict__"), key := Value.str (Str.ofString "__dict__") 220, val := Value.ref 32 }, { hash := PyData.keyHash P (Str.ofString "__weakref__"), key := Value.str (Str.ofString "__weakref__") 222, val := Value.ref 33 }, { hash := PyData.keyHash P (Str.ofString "__doc__"), key := Value.str (Str.ofString "__doc__") 223, val := Value.none }] 4 }
noncomputable def ob_31 (P : Params) : Obj := { cls := Value.type "type", data := Data.cls { name := Str.ofString "Step", bases := [Value.type "object"], mro := [Value.ref 31, Value.type "object"], ns := 30, qualname := Str.ofString "Step" }, slots := #[none, none, some (Value.str (Str.ofString "Step") 189), some (Value.str (Str.ofString "Step") 197), some (Value.builtin "object.__new__"), some (Value.bool true)] }
noncomputable def ob_32 (P : Params) : Obj := { cls := Value.type "getset_descriptor", data := Data.fields #[Value.str (Str.ofString "__dict__") 219, Value.ref 31, Value.builtin "function.__dict__", Value.builtin "function.__dict__#set"] }
noncomputable def ob_33 (P : Params) : Obj := { cls := Value.type "getset_descriptor", data := Data.fields #[Value.str (Str.ofString "__weakref__") 221, Value.ref 31, Value.builtin "ExceptionGroup.__weakref__", Value.none] }
noncomputable def ob_34 (P : Params) : Obj := { cls := Value.type "super", data := Data.fields #[Value.ref 31, Value.ref 31, Value.ref 31] }
noncomputable def ob_35 (P : Params) : Obj := { cls := Value.type "builtin_function_or_method", data := Data.fields #[Value.builtin "object.__init_subclass__", Value.ref 31] }
noncomputable def ob_36 (P : Params) : Obj := { cls := Value.type "tuple", data := Data.seq #[] }
noncomputable def ob_37 (P : Params) : Obj := { cls := Value.type "builtin_function_or_method", data := Data.fields #[Value.builtin "type.__prepare__", Value.type "type"] }
noncomputable def ob_38 (P : Params) : Obj := { cls := Value.type "dict", data := Data.dict #[{ hash := PyData.keyHash P (Str.ofString "__module__"), key := Value.str (Str.ofString "__module__") 233, val := Value.str (Str.ofString "corecc.code") 187 }, { hash := PyData.keyHash P (Str.ofString "__qualname__"), key := Value.str (Str.ofString "__qualname__") 235, val := Value.str (Str.ofString "Block") 234 }, { hash := PyData.keyHash P (Str.ofString "__firstlineno__"), key := Value.str (Str.ofString "__firstlineno__") 237, val := Value.int 11 236 }, { hash := PyData.keyHash P (Str.ofString "__init__"), key := Value.str (Str.ofString "__init__") 245, val := Value.ref 49 }, { hash := PyData.keyHash P (Str.ofString "__static_attributes__"), key := Value.str (Str.ofString "__static_attributes__") 249, val := Value.ref 50 }] 5 }
noncomputable def ob_39 (P : Params) : Obj := { cls := Value.type "tuple", data := Data.seq #[] }
noncomputable def ob_40 (P : Params) : Obj := { cls := Value.none, data := Data.fields #[Value.int 13 0, Value.int 4 0, Value.ref 48] }
noncomputable def ob_41 (P : Params) : Obj := { cls := Value.type "code", data := Data.fields #[Value.str (Str.ofString "Block") 228, Value.str (Str.ofString "Block") 229, Value.str (Str.ofString "/claim/cut.py") 230, Value.int 11 0, Value.int 0 0, Value.int 0 0, Value.int 0 0, Value.int 0 0, Value.ref 39, Value.bool false, Value.int 181 0, Value.ref 40, Value.none, Value.none, Value.none, Value.none, Value.int 231 0, Value.int 11 0, Value.str (Str.ofString "/claim/cut.py") 232] }
noncomputable def ob_42 (P : Params) : Obj := { cls := Value.type "frame", slots := #[some (Value.ref 41), some (Value.ref 3), some (Value.ref 38), none, some (Value.str (Str.ofString "corecc.code") 187), none, some (Value.ref 0)] }
noncomputable def ob_43 (P : Params) : Obj := { cls := Value.type "tuple", data := Data.seq #[] }
noncomputable def ob_44 (P : Params) : Obj := { cls := Value.none, data := Data.fields #[] }
noncomputable def ob_45 (P : Params) : Obj := { cls := Value.type "tuple", data := Data.seq #[Value.str (Str.ofString "self") 241, Value.str (Str.ofString "number") 242] }
noncomputable def ob_46 (P : Params) : Obj := { cls := Value.type "tuple", data := Data.seq #[] }
noncomputable def ob_47 (P : Params) : Obj := { cls := Value.none, data := Data.func { name := Str.ofString "__init__", qualname := Str.ofString "Block.__init__", params := f2_0p, body := FuncBody.stmts f2_0b, scope := f2_0s, globals := 0, closure := [], defaults := Value.none, kwdefaults := Value.none } }
noncomputable def ob_48 (P : Params) : Obj := { cls := Value.type "code", data := Data.fields #[Value.str (Str.ofString "__init__") 238, Value.str (Str.ofString "Block.__init__") 239, Value.str (Str.ofString "/claim/cut.py") 240, Value.int 13 0, Value.int 2 0, Value.int 0 0, Value.int 0 0, Value.int 3 0, Value.ref 43, Value.bool true, Value.int 181 0, Value.ref 44, Value.none, Value.ref 45, Value.ref 46, Value.ref 47, Value.int 243 0, Value.int 13 0, Value.str (Str.ofString "/claim/cut.py") 244] }
noncomputable def ob_49 (P : Params) : Obj := { cls := Value.type "function", data := Data.func { name := Str.ofString "__init__", qualname := Str.ofString "Block.__init__", params := f2_0p, body := FuncBody.stmts f2_0b, scope := f2_0s, globals := 3, closure := [], defaults := Value.none, kwdefaults := Value.none, pyModule := Value.str (Str.ofString "corecc.code") 187, code := Value.ref 48 } }
noncomputable def ob_50 (P : Params) : Obj := { cls := Value.type "tuple", data := Data.seq #[Value.str (Str.ofString "end") 246, Value.str (Str.ofString "number") 247, Value.str (Str.ofString "steps") 248] }
noncomputable def ob_51 (P : Params) : Obj := { cls := Value.type "dict", data := Data.dict #[{ hash := PyData.keyHash P (Str.ofString "__module__"), key := Value.str (Str.ofString "__module__") 233, val := Value.str (Str.ofString "corecc.code") 187 }, { hash := PyData.keyHash P (Str.ofString "__firstlineno__"), key := Value.str (Str.ofString "__firstlineno__") 237, val := Value.int 11 236 }, { hash := PyData.keyHash P (Str.ofString "__init__"), key := Value.str (Str.ofString "__init__") 245, val := Value.ref 49 }, { hash := PyData.keyHash P (Str.ofString "__static_attributes__"), key := Value.str (Str.ofString "__static_attributes__") 249, val := Value.ref 50 }, { hash := PyData.keyHash P (Str.ofString "__dict__"), key := Value.str (Str.ofString "__dict__") 251, val := Value.ref 53 }, { hash := PyData.keyHash P (Str.ofString "__weakref__"), key := Value.str (Str.ofString "__weakref__") 253, val := Value.ref 54 }, { hash := PyData.keyHash P (Str.ofString "__doc__"), key := Value.str (Str.ofString "__doc__") 254, val := Value.none }] 4 }
noncomputable def ob_52 (P : Params) : Obj := { cls := Value.type "type", data := Data.cls { name := Str.ofString "Block", bases := [Value.type "object"], mro := [Value.ref 52, Value.type "object"], ns := 51, qualname := Str.ofString "Block" }, slots := #[none, none, some (Value.str (Str.ofString "Block") 226), some (Value.str (Str.ofString "Block") 234), some (Value.builtin "object.__new__"), some (Value.bool true)] }
noncomputable def ob_53 (P : Params) : Obj := { cls := Value.type "getset_descriptor", data := Data.fields #[Value.str (Str.ofString "__dict__") 250, Value.ref 52, Value.builtin "function.__dict__", Value.builtin "function.__dict__#set"] }
noncomputable def ob_54 (P : Params) : Obj := { cls := Value.type "getset_descriptor", data := Data.fields #[Value.str (Str.ofString "__weakref__") 252, Value.ref 52, Value.builtin "ExceptionGroup.__weakref__", Value.none] }
noncomputable def ob_55 (P : Params) : Obj := { cls := Value.type "super", data := Data.fields #[Value.ref 52, Value.ref 52, Value.ref 52] }
noncomputable def ob_56 (P : Params) : Obj := { cls := Value.type "builtin_function_or_method", data := Data.fields #[Value.builtin "object.__init_subclass__", Value.ref 52] }
noncomputable def ob_57 (P : Params) : Obj := { cls := Value.type "tuple", data := Data.seq #[] }
noncomputable def ob_58 (P : Params) : Obj := { cls := Value.type "builtin_function_or_method", data := Data.fields #[Value.builtin "type.__prepare__", Value.type "type"] }
noncomputable def ob_59 (P : Params) : Obj := { cls := Value.type "dict", data := Data.dict #[{ hash := PyData.keyHash P (Str.ofString "__module__"), key := Value.str (Str.ofString "__module__") 264, val := Value.str (Str.ofString "corecc.code") 187 }, { hash := PyData.keyHash P (Str.ofString "__qualname__"), key := Value.str (Str.ofString "__qualname__") 266, val := Value.str (Str.ofString "Func") 265 }, { hash := PyData.keyHash P (Str.ofString "__firstlineno__"), key := Value.str (Str.ofString "__firstlineno__") 268, val := Value.int 17 267 }, { hash := PyData.keyHash P (Str.ofString "__init__"), key := Value.str (Str.ofString "__init__") 276, val := Value.ref 70 }, { hash := PyData.keyHash P (Str.ofString "__static_attributes__"), key := Value.str (Str.ofString "__static_attributes__") 284, val := Value.ref 71 }] 5 }
noncomputable def ob_60 (P : Params) : Obj := { cls := Value.type "tuple", data := Data.seq #[] }
noncomputable def ob_61 (P : Params) : Obj := { cls := Value.none, data := Data.fields #[Value.int 19 0, Value.int 4 0, Value.ref 69] }
noncomputable def ob_62 (P : Params) : Obj := { cls := Value.type "code", data := Data.fields #[Value.str (Str.ofString "Func") 259, Value.str (Str.ofString "Func") 260, Value.str (Str.ofString "/claim/cut.py") 261, Value.int 17 0, Value.int 0 0, Value.int 0 0, Value.int 0 0, Value.int 0 0, Value.ref 60, Value.bool false, Value.int 181 0, Value.ref 61, Value.none, Value.none, Value.none, Value.none, Value.int 262 0, Value.int 17 0, Value.str (Str.ofString "/claim/cut.py") 263] }
noncomputable def ob_63 (P : Params) : Obj := { cls := Value.type "frame", slots := #[some (Value.ref 62), some (Value.ref 3), some (Value.ref 59), none, some (Value.str (Str.ofString "corecc.code") 187), none, some (Value.ref 0)] }
noncomputable def ob_64 (P : Params) : Obj := { cls := Value.type "tuple", data := Data.seq #[] }
noncomputable def ob_65 (P : Params) : Obj := { cls := Value.none, data := Data.fields #[] }
noncomputable def ob_66 (P : Params) : Obj := { cls := Value.type "tuple", data := Data.seq #[Value.str (Str.ofString "self") 272, Value.str (Str.ofString "name") 273] }
noncomputable def ob_67 (P : Params) : Obj := { cls := Value.type "tuple", data := Data.seq #[] }
noncomputable def ob_68 (P : Params) : Obj := { cls := Value.none, data := Data.func { name := Str.ofString "__init__", qualname := Str.ofString "Func.__init__", params := f3_0p, body := FuncBody.stmts f3_0b, scope := f3_0s, globals := 0, closure := [], defaults := Value.none, kwdefaults := Value.none } }
noncomputable def ob_69 (P : Params) : Obj := { cls := Value.type "code", data := Data.fields #[Value.str (Str.ofString "__init__") 269, Value.str (Str.ofString "Func.__init__") 270, Value.str (Str.ofString "/claim/cut.py") 271, Value.int 19 0, Value.int 2 0, Value.int 0 0, Value.int 0 0, Value.int 3 0, Value.ref 64, Value.bool true, Value.int 181 0, Value.ref 65, Value.none, Value.ref 66, Value.ref 67, Value.ref 68, Value.int 274 0, Value.int 19 0, Value.str (Str.ofString "/claim/cut.py") 275] }
noncomputable def ob_70 (P : Params) : Obj := { cls := Value.type "function", data := Data.func { name := Str.ofString "__init__", qualname := Str.ofString "Func.__init__", params := f3_0p, body := FuncBody.stmts f3_0b, scope := f3_0s, globals := 3, closure := [], defaults := Value.none, kwdefaults := Value.none, pyModule := Value.str (Str.ofString "corecc.code") 187, code := Value.ref 69 } }
noncomputable def ob_71 (P : Params) : Obj := { cls := Value.type "tuple", data := Data.seq #[Value.str (Str.ofString "blocks") 277, Value.str (Str.ofString "has_value") 278, Value.str (Str.ofString "is_static") 279, Value.str (Str.ofString "name") 280, Value.str (Str.ofString "params") 281, Value.str (Str.ofString "registers") 282, Value.str (Str.ofString "slots") 283] }
noncomputable def ob_72 (P : Params) : Obj := { cls := Value.type "dict", data := Data.dict #[{ hash := PyData.keyHash P (Str.ofString "__module__"), key := Value.str (Str.ofString "__module__") 264, val := Value.str (Str.ofString "corecc.code") 187 }, { hash := PyData.keyHash P (Str.ofString "__firstlineno__"), key := Value.str (Str.ofString "__firstlineno__") 268, val := Value.int 17 267 }, { hash := PyData.keyHash P (Str.ofString "__init__"), key := Value.str (Str.ofString "__init__") 276, val := Value.ref 70 }, { hash := PyData.keyHash P (Str.ofString "__static_attributes__"), key := Value.str (Str.ofString "__static_attributes__") 284, val := Value.ref 71 }, { hash := PyData.keyHash P (Str.ofString "__dict__"), key := Value.str (Str.ofString "__dict__") 286, val := Value.ref 74 }, { hash := PyData.keyHash P (Str.ofString "__weakref__"), key := Value.str (Str.ofString "__weakref__") 288, val := Value.ref 75 }, { hash := PyData.keyHash P (Str.ofString "__doc__"), key := Value.str (Str.ofString "__doc__") 289, val := Value.none }] 4 }
noncomputable def ob_73 (P : Params) : Obj := { cls := Value.type "type", data := Data.cls { name := Str.ofString "Func", bases := [Value.type "object"], mro := [Value.ref 73, Value.type "object"], ns := 72, qualname := Str.ofString "Func" }, slots := #[none, none, some (Value.str (Str.ofString "Func") 257), some (Value.str (Str.ofString "Func") 265), some (Value.builtin "object.__new__"), some (Value.bool true)] }
noncomputable def ob_74 (P : Params) : Obj := { cls := Value.type "getset_descriptor", data := Data.fields #[Value.str (Str.ofString "__dict__") 285, Value.ref 73, Value.builtin "function.__dict__", Value.builtin "function.__dict__#set"] }
noncomputable def ob_75 (P : Params) : Obj := { cls := Value.type "getset_descriptor", data := Data.fields #[Value.str (Str.ofString "__weakref__") 287, Value.ref 73, Value.builtin "ExceptionGroup.__weakref__", Value.none] }
noncomputable def ob_76 (P : Params) : Obj := { cls := Value.type "super", data := Data.fields #[Value.ref 73, Value.ref 73, Value.ref 73] }
noncomputable def ob_77 (P : Params) : Obj := { cls := Value.type "builtin_function_or_method", data := Data.fields #[Value.builtin "object.__init_subclass__", Value.ref 73] }
noncomputable def ob_78 (P : Params) : Obj := { cls := Value.type "tuple", data := Data.seq #[] }
noncomputable def ob_79 (P : Params) : Obj := { cls := Value.none, data := Data.fields #[] }
noncomputable def ob_80 (P : Params) : Obj := { cls := Value.type "tuple", data := Data.seq #[Value.str (Str.ofString "block") 295, Value.str (Str.ofString "end") 296] }
noncomputable def ob_81 (P : Params) : Obj := { cls := Value.type "tuple", data := Data.seq #[] }
noncomputable def ob_82 (P : Params) : Obj := { cls := Value.none, data := Data.func { name := Str.ofString "followers", qualname := Str.ofString "followers", params := f4p, body := FuncBody.stmts f4b, scope := f4s, globals := 0, closure := [], defaults := Value.none, kwdefaults := Value.none } }
noncomputable def ob_83 (P : Params) : Obj := { cls := Value.type "code", data := Data.fields #[Value.str (Str.ofString "followers") 292, Value.str (Str.ofString "followers") 293, Value.str (Str.ofString "/claim/cut.py") 294, Value.int 27 0, Value.int 1 0, Value.int 0 0, Value.int 0 0, Value.int 3 0, Value.ref 78, Value.bool true, Value.int 181 0, Value.ref 79, Value.none, Value.ref 80, Value.ref 81, Value.ref 82, Value.int 297 0, Value.int 27 0, Value.str (Str.ofString "/claim/cut.py") 298] }
noncomputable def ob_84 (P : Params) : Obj := { cls := Value.type "function", data := Data.func { name := Str.ofString "followers", qualname := Str.ofString "followers", params := f4p, body := FuncBody.stmts f4b, scope := f4s, globals := 3, closure := [], defaults := Value.none, kwdefaults := Value.none, pyModule := Value.str (Str.ofString "corecc.code") 187, code := Value.ref 83 } }
noncomputable def ob_85 (P : Params) : Obj := { cls := Value.type "tuple", data := Data.seq #[] }
noncomputable def ob_86 (P : Params) : Obj := { cls := Value.none, data := Data.fields #[] }
noncomputable def ob_87 (P : Params) : Obj := { cls := Value.type "tuple", data := Data.seq #[Value.str (Str.ofString "func") 305, Value.str (Str.ofString "found") 306, Value.str (Str.ofString "seen") 307, Value.str (Str.ofString "stack") 308, Value.str (Str.ofString "top") 309, Value.str (Str.ofString "number") 310] }
noncomputable def ob_88 (P : Params) : Obj := { cls := Value.type "tuple", data := Data.seq #[] }
noncomputable def ob_89 (P : Params) : Obj := { cls := Value.none, data := Data.func { name := Str.ofString "postorder", qualname := Str.ofString "postorder", params := f6p, body := FuncBody.stmts f6b, scope := f6s, globals := 0, closure := [], defaults := Value.none, kwdefaults := Value.none } }
noncomputable def ob_90 (P : Params) : Obj := { cls := Value.type "code", data := Data.fields #[Value.str (Str.ofString "postorder") 302, Value.str (Str.ofString "postorder") 303, Value.str (Str.ofString "/claim/cut.py") 304, Value.int 37 0, Value.int 1 0, Value.int 0 0, Value.int 0 0, Value.int 3 0, Value.ref 85, Value.bool true, Value.int 181 0, Value.ref 86, Value.none, Value.ref 87, Value.ref 88, Value.ref 89, Value.int 311 0, Value.int 37 0, Value.str (Str.ofString "/claim/cut.py") 312] }
noncomputable def ob_91 (P : Params) : Obj := { cls := Value.type "function", data := Data.func { name := Str.ofString "postorder", qualname := Str.ofString "postorder", params := f6p, body := FuncBody.stmts f6b, scope := f6s, globals := 3, closure := [], defaults := Value.none, kwdefaults := Value.none, pyModule := Value.str (Str.ofString "corecc.flow") 300, code := Value.ref 90 } }
noncomputable def ob_92 (P : Params) : Obj := { cls := Value.type "tuple", data := Data.seq #[] }
noncomputable def ob_93 (P : Params) : Obj := { cls := Value.none, data := Data.fields #[] }
noncomputable def ob_94 (P : Params) : Obj := { cls := Value.type "tuple", data := Data.seq #[Value.str (Str.ofString "func") 317] }
noncomputable def ob_95 (P : Params) : Obj := { cls := Value.type "tuple", data := Data.seq #[] }
noncomputable def ob_96 (P : Params) : Obj := { cls := Value.none, data := Data.func { name := Str.ofString "order", qualname := Str.ofString "order", params := f7p, body := FuncBody.stmts f7b, scope := f7s, globals := 0, closure := [], defaults := Value.none, kwdefaults := Value.none } }
noncomputable def ob_97 (P : Params) : Obj := { cls := Value.type "code", data := Data.fields #[Value.str (Str.ofString "order") 314, Value.str (Str.ofString "order") 315, Value.str (Str.ofString "/claim/cut.py") 316, Value.int 53 0, Value.int 1 0, Value.int 0 0, Value.int 0 0, Value.int 3 0, Value.ref 92, Value.bool true, Value.int 181 0, Value.ref 93, Value.none, Value.ref 94, Value.ref 95, Value.ref 96, Value.int 318 0, Value.int 53 0, Value.str (Str.ofString "/claim/cut.py") 319] }
noncomputable def ob_98 (P : Params) : Obj := { cls := Value.type "function", data := Data.func { name := Str.ofString "order", qualname := Str.ofString "order", params := f7p, body := FuncBody.stmts f7b, scope := f7s, globals := 3, closure := [], defaults := Value.none, kwdefaults := Value.none, pyModule := Value.str (Str.ofString "corecc.flow") 300, code := Value.ref 97 } }
noncomputable def ob_99 (P : Params) : Obj := { cls := Value.type "dict", data := Data.dict #[{ hash := PyData.keyHash P (Str.ofString "load"), key := Value.str (Str.ofString "load") 325, val := Value.int 1 326 }, { hash := PyData.keyHash P (Str.ofString "store"), key := Value.str (Str.ofString "store") 327, val := Value.int 1 328 }, { hash := PyData.keyHash P (Str.ofString "move"), key := Value.str (Str.ofString "move") 329, val := Value.int 2 330 }] 3 }
noncomputable def ob_100 (P : Params) : Obj := { cls := Value.type "tuple", data := Data.seq #[] }
noncomputable def ob_101 (P : Params) : Obj := { cls := Value.none, data := Data.fields #[] }
noncomputable def ob_102 (P : Params) : Obj := { cls := Value.type "tuple", data := Data.seq #[Value.str (Str.ofString "func") 338, Value.str (Str.ofString "once") 339, Value.str (Str.ofString "more") 340, Value.str (Str.ofString "register") 341, Value.str (Str.ofString "block") 342, Value.str (Str.ofString "step") 343] }
noncomputable def ob_103 (P : Params) : Obj := { cls := Value.type "tuple", data := Data.seq #[] }
noncomputable def ob_104 (P : Params) : Obj := { cls := Value.none, data := Data.func { name := Str.ofString "set_once", qualname := Str.ofString "set_once", params := f11p, body := FuncBody.stmts f11b, scope := f11s, globals := 0, closure := [], defaults := Value.none, kwdefaults := Value.none } }
noncomputable def ob_105 (P : Params) : Obj := { cls := Value.type "code", data := Data.fields #[Value.str (Str.ofString "set_once") 335, Value.str (Str.ofString "set_once") 336, Value.str (Str.ofString "/claim/cut.py") 337, Value.int 58 0, Value.int 1 0, Value.int 0 0, Value.int 0 0, Value.int 3 0, Value.ref 100, Value.bool true, Value.int 181 0, Value.ref 101, Value.none, Value.ref 102, Value.ref 103, Value.ref 104, Value.int 344 0, Value.int 58 0, Value.str (Str.ofString "/claim/cut.py") 345] }
noncomputable def ob_106 (P : Params) : Obj := { cls := Value.type "function", data := Data.func { name := Str.ofString "set_once", qualname := Str.ofString "set_once", params := f11p, body := FuncBody.stmts f11b, scope := f11s, globals := 3, closure := [], defaults := Value.none, kwdefaults := Value.none, pyModule := Value.str (Str.ofString "corecc.values") 321, code := Value.ref 105 } }
noncomputable def ob_107 (P : Params) : Obj := { cls := Value.type "tuple", data := Data.seq #[] }
noncomputable def ob_108 (P : Params) : Obj := { cls := Value.none, data := Data.fields #[] }
noncomputable def ob_109 (P : Params) : Obj := { cls := Value.type "tuple", data := Data.seq #[Value.str (Str.ofString "step") 350, Value.str (Str.ofString "found") 351] }
noncomputable def ob_110 (P : Params) : Obj := { cls := Value.type "tuple", data := Data.seq #[] }
noncomputable def ob_111 (P : Params) : Obj := { cls := Value.none, data := Data.func { name := Str.ofString "slot_told", qualname := Str.ofString "slot_told", params := f12p, body := FuncBody.stmts f12b, scope := f12s, globals := 0, closure := [], defaults := Value.none, kwdefaults := Value.none } }
noncomputable def ob_112 (P : Params) : Obj := { cls := Value.type "code", data := Data.fields #[Value.str (Str.ofString "slot_told") 347, Value.str (Str.ofString "slot_told") 348, Value.str (Str.ofString "/claim/cut.py") 349, Value.int 71 0, Value.int 2 0, Value.int 0 0, Value.int 0 0, Value.int 3 0, Value.ref 107, Value.bool true, Value.int 181 0, Value.ref 108, Value.none, Value.ref 109, Value.ref 110, Value.ref 111, Value.int 352 0, Value.int 71 0, Value.str (Str.ofString "/claim/cut.py") 353] }
noncomputable def ob_113 (P : Params) : Obj := { cls := Value.type "function", data := Data.func { name := Str.ofString "slot_told", qualname := Str.ofString "slot_told", params := f12p, body := FuncBody.stmts f12b, scope := f12s, globals := 3, closure := [], defaults := Value.none, kwdefaults := Value.none, pyModule := Value.str (Str.ofString "corecc.values") 321, code := Value.ref 112 } }
noncomputable def ob_114 (P : Params) : Obj := { cls := Value.type "tuple", data := Data.seq #[] }
noncomputable def ob_115 (P : Params) : Obj := { cls := Value.none, data := Data.fields #[] }
noncomputable def ob_116 (P : Params) : Obj := { cls := Value.type "tuple", data := Data.seq #[Value.str (Str.ofString "func") 358, Value.str (Str.ofString "once") 359, Value.str (Str.ofString "found") 360, Value.str (Str.ofString "number") 361, Value.str (Str.ofString "step") 362, Value.str (Str.ofString "slot") 363] }
noncomputable def ob_117 (P : Params) : Obj := { cls := Value.type "tuple", data := Data.seq #[] }
noncomputable def ob_118 (P : Params) : Obj := { cls := Value.none, data := Data.func { name := Str.ofString "holders_of_slots", qualname := Str.ofString "holders_of_slots", params := f13p, body := FuncBody.stmts f13b, scope := f13s, globals := 0, closure := [], defaults := Value.none, kwdefaults := Value.none } }
noncomputable def ob_119 (P : Params) : Obj := { cls := Value.type "code", data := Data.fields #[Value.str (Str.ofString "holders_of_slots") 355, Value.str (Str.ofString "holders_of_slots") 356, Value.str (Str.ofString "/claim/cut.py") 357, Value.int 79 0, Value.int 2 0, Value.int 0 0, Value.int 0 0, Value.int 3 0, Value.ref 114, Value.bool true, Value.int 181 0, Value.ref 115, Value.none, Value.ref 116, Value.ref 117, Value.ref 118, Value.int 364 0, Value.int 79 0, Value.str (Str.ofString "/claim/cut.py") 365] }
noncomputable def ob_120 (P : Params) : Obj := { cls := Value.type "function", data := Data.func { name := Str.ofString "holders_of_slots", qualname := Str.ofString "holders_of_slots", params := f13p, body := FuncBody.stmts f13b, scope := f13s, globals := 3, closure := [], defaults := Value.none, kwdefaults := Value.none, pyModule := Value.str (Str.ofString "corecc.values") 321, code := Value.ref 119 } }
noncomputable def ob_121 (P : Params) : Obj := { cls := Value.type "tuple", data := Data.seq #[] }
noncomputable def ob_122 (P : Params) : Obj := { cls := Value.none, data := Data.fields #[] }
noncomputable def ob_123 (P : Params) : Obj := { cls := Value.type "tuple", data := Data.seq #[Value.str (Str.ofString "args") 370, Value.str (Str.ofString "holders") 371, Value.str (Str.ofString "private") 372, Value.str (Str.ofString "operand") 373] }
noncomputable def ob_124 (P : Params) : Obj := { cls := Value.type "tuple", data := Data.seq #[] }
noncomputable def ob_125 (P : Params) : Obj := { cls := Value.none, data := Data.func { name := Str.ofString "let_go", qualname := Str.ofString "let_go", params := f14p, body := FuncBody.stmts f14b, scope := f14s, globals := 0, closure := [], defaults := Value.none, kwdefaults := Value.none } }
noncomputable def ob_126 (P : Params) : Obj := { cls := Value.type "code", data := Data.fields #[Value.str (Str.ofString "let_go") 367, Value.str (Str.ofString "let_go") 368, Value.str (Str.ofString "/claim/cut.py") 369, Value.int 88 0, Value.int 3 0, Value.int 0 0, Value.int 0 0, Value.int 3 0, Value.ref 121, Value.bool true, Value.int 181 0, Value.ref 122, Value.none, Value.ref 123, Value.ref 124, Value.ref 125, Value.int 374 0, Value.int 88 0, Value.str (Str.ofString "/claim/cut.py") 375] }
noncomputable def ob_127 (P : Params) : Obj := { cls := Value.type "function", data := Data.func { name := Str.ofString "let_go", qualname := Str.ofString "let_go", params := f14p, body := FuncBody.stmts f14b, scope := f14s, globals := 3, closure := [], defaults := Value.none, kwdefaults := Value.none, pyModule := Value.str (Str.ofString "corecc.values") 321, code := Value.ref 126 } }
noncomputable def ob_128 (P : Params) : Obj := { cls := Value.type "tuple", data := Data.seq #[] }
noncomputable def ob_129 (P : Params) : Obj := { cls := Value.none, data := Data.fields #[] }
noncomputable def ob_130 (P : Params) : Obj := { cls := Value.type "tuple", data := Data.seq #[Value.str (Str.ofString "func") 380, Value.str (Str.ofString "once") 381, Value.str (Str.ofString "private") 382, Value.str (Str.ofString "slot") 383, Value.str (Str.ofString "holders") 384, Value.str (Str.ofString "block") 385, Value.str (Str.ofString "step") 386] }
noncomputable def ob_131 (P : Params) : Obj := { cls := Value.type "tuple", data := Data.seq #[] }
noncomputable def ob_132 (P : Params) : Obj := { cls := Value.none, data := Data.func { name := Str.ofString "private_slots", qualname := Str.ofString "private_slots", params := f15p, body := FuncBody.stmts f15b, scope := f15s, globals := 0, closure := [], defaults := Value.none, kwdefaults := Value.none } }
noncomputable def ob_133 (P : Params) : Obj := { cls := Value.type "code", data := Data.fields #[Value.str (Str.ofString "private_slots") 377, Value.str (Str.ofString "private_slots") 378, Value.str (Str.ofString "/claim/cut.py") 379, Value.int 92 0, Value.int 2 0, Value.int 0 0, Value.int 0 0, Value.int 3 0, Value.ref 128, Value.bool true, Value.int 181 0, Value.ref 129, Value.none, Value.ref 130, Value.ref 131, Value.ref 132, Value.int 387 0, Value.int 92 0, Value.str (Str.ofString "/claim/cut.py") 388] }
noncomputable def ob_134 (P : Params) : Obj := { cls := Value.type "function", data := Data.func { name := Str.ofString "private_slots", qualname := Str.ofString "private_slots", params := f15p, body := FuncBody.stmts f15b, scope := f15s, globals := 3, closure := [], defaults := Value.none, kwdefaults := Value.none, pyModule := Value.str (Str.ofString "corecc.values") 321, code := Value.ref 133 } }
noncomputable def ob_135 (P : Params) : Obj := { cls := Value.type "tuple", data := Data.seq #[] }
noncomputable def ob_136 (P : Params) : Obj := { cls := Value.none, data := Data.fields #[] }
noncomputable def ob_137 (P : Params) : Obj := { cls := Value.type "tuple", data := Data.seq #[Value.str (Str.ofString "place") 393, Value.str (Str.ofString "slots") 394, Value.str (Str.ofString "base") 395, Value.str (Str.ofString "offset") 396, Value.str (Str.ofString "width") 397] }
noncomputable def ob_138 (P : Params) : Obj := { cls := Value.type "tuple", data := Data.seq #[] }
noncomputable def ob_139 (P : Params) : Obj := { cls := Value.none, data := Data.func { name := Str.ofString "is_inside", qualname := Str.ofString "is_inside", params := f16p, body := FuncBody.stmts f16b, scope := f16s, globals := 0, closure := [], defaults := Value.none, kwdefaults := Value.none } }
noncomputable def ob_140 (P : Params) : Obj := { cls := Value.type "code", data := Data.fields #[Value.str (Str.ofString "is_inside") 390, Value.str (Str.ofString "is_inside") 391, Value.str (Str.ofString "/claim/cut.py") 392, Value.int 110 0, Value.int 2 0, Value.int 0 0, Value.int 0 0, Value.int 3 0, Value.ref 135, Value.bool true, Value.int 181 0, Value.ref 136, Value.none, Value.ref 137, Value.ref 138, Value.ref 139, Value.int 398 0, Value.int 110 0, Value.str (Str.ofString "/claim/cut.py") 399] }
noncomputable def ob_141 (P : Params) : Obj := { cls := Value.type "function", data := Data.func { name := Str.ofString "is_inside", qualname := Str.ofString "is_inside", params := f16p, body := FuncBody.stmts f16b, scope := f16s, globals := 3, closure := [], defaults := Value.none, kwdefaults := Value.none, pyModule := Value.str (Str.ofString "corecc.values") 321, code := Value.ref 140 } }
noncomputable def ob_142 (P : Params) : Obj := { cls := Value.type "tuple", data := Data.seq #[] }
noncomputable def ob_143 (P : Params) : Obj := { cls := Value.none, data := Data.fields #[] }
noncomputable def ob_144 (P : Params) : Obj := { cls := Value.type "tuple", data := Data.seq #[Value.str (Str.ofString "one") 404, Value.str (Str.ofString "other") 405, Value.str (Str.ofString "slots") 406, Value.str (Str.ofString "private") 407, Value.str (Str.ofString "behind") 408, Value.str (Str.ofString "first") 409, Value.str (Str.ofString "second") 410] }
noncomputable def ob_145 (P : Params) : Obj := { cls := Value.type "tuple", data := Data.seq #[] }
noncomputable def ob_146 (P : Params) : Obj := { cls := Value.none, data := Data.func { name := Str.ofString "may_meet", qualname := Str.ofString "may_meet", params := f17p, body := FuncBody.stmts f17b, scope := f17s, globals := 0, closure := [], defaults := Value.none, kwdefaults := Value.none } }
noncomputable def ob_147 (P : Params) : Obj := { cls := Value.type "code", data := Data.fields #[Value.str (Str.ofString "may_meet") 401, Value.str (Str.ofString "may_meet") 402, Value.str (Str.ofString "/claim/cut.py") 403, Value.int 115 0, Value.int 4 0, Value.int 0 0, Value.int 0 0, Value.int 3 0, Value.ref 142, Value.bool true, Value.int 181 0, Value.ref 143, Value.none, Value.ref 144, Value.ref 145, Value.ref 146, Value.int 411 0, Value.int 115 0, Value.str (Str.ofString "/claim/cut.py") 412] }
noncomputable def ob_148 (P : Params) : Obj := { cls := Value.type "function", data := Data.func { name := Str.ofString "may_meet", qualname := Str.ofString "may_meet", params := f17p, body := FuncBody.stmts f17b, scope := f17s, globals := 3, closure := [], defaults := Value.none, kwdefaults := Value.none, pyModule := Value.str (Str.ofString "corecc.values") 321, code := Value.ref 147 } }
noncomputable def ob_149 (P : Params) : Obj := { cls := Value.type "tuple", data := Data.seq #[] }
noncomputable def ob_150 (P : Params) : Obj := { cls := Value.none, data := Data.fields #[] }
noncomputable def ob_151 (P : Params) : Obj := { cls := Value.type "tuple", data := Data.seq #[] }
noncomputable def ob_152 (P : Params) : Obj := { cls := Value.type "tuple", data := Data.seq #[] }
noncomputable def ob_153 (P : Params) : Obj := { cls := Value.none, data := Data.func { name := Str.ofString "_law_homes", qualname := Str.ofString "_law_homes", params := f20p, body := FuncBody.stmts f20b, scope := f20s, globals := 0, closure := [], defaults := Value.none, kwdefaults := Value.none } }
noncomputable def ob_154 (P : Params) : Obj := { cls := Value.type "code", data := Data.fields #[Value.str (Str.ofString "_law_homes") 418, Value.str (Str.ofString "_law_homes") 419, Value.str (Str.ofString "/claim/cut.py") 420, Value.int 127 0, Value.int 0 0, Value.int 0 0, Value.int 0 0, Value.int 3 0, Value.ref 149, Value.bool true, Value.int 181 0, Value.ref 150, Value.none, Value.ref 151, Value.ref 152, Value.ref 153, Value.int 421 0, Value.int 127 0, Value.str (Str.ofString "/claim/cut.py") 422] }
noncomputable def ob_155 (P : Params) : Obj := { cls := Value.type "function", data := Data.func { name := Str.ofString "_law_homes", qualname := Str.ofString "_law_homes", params := f20p, body := FuncBody.stmts f20b, scope := f20s, globals := 3, closure := [], defaults := Value.none, kwdefaults := Value.none, pyModule := Value.str (Str.ofString "law_nm0008_01") 414, code := Value.ref 154 } }
noncomputable def ob_156 (P : Params) : Obj := { cls := Value.type "tuple", data := Data.seq #[] }
noncomputable def ob_157 (P : Params) : Obj := { cls := Value.none, data := Data.fields #[] }
noncomputable def ob_158 (P : Params) : Obj := { cls := Value.type "tuple", data := Data.seq #[Value.str (Str.ofString "well") 427, Value.str (Str.ofString "size") 428, Value.str (Str.ofString "cells") 429, Value.str (Str.ofString "spot") 430, Value.str (Str.ofString "cell") 431] }
noncomputable def ob_159 (P : Params) : Obj := { cls := Value.type "tuple", data := Data.seq #[] }
noncomputable def ob_160 (P : Params) : Obj := { cls := Value.none, data := Data.func { name := Str.ofString "_law_draw", qualname := Str.ofString "_law_draw", params := f21p, body := FuncBody.stmts f21b, scope := f21s, globals := 0, closure := [], defaults := Value.none, kwdefaults := Value.none } }
noncomputable def ob_161 (P : Params) : Obj := { cls := Value.type "code", data := Data.fields #[Value.str (Str.ofString "_law_draw") 424, Value.str (Str.ofString "_law_draw") 425, Value.str (Str.ofString "/claim/cut.py") 426, Value.int 129 0, Value.int 2 0, Value.int 0 0, Value.int 0 0, Value.int 3 0, Value.ref 156, Value.bool true, Value.int 181 0, Value.ref 157, Value.none, Value.ref 158, Value.ref 159, Value.ref 160, Value.int 432 0, Value.int 129 0, Value.str (Str.ofString "/claim/cut.py") 433] }
noncomputable def ob_162 (P : Params) : Obj := { cls := Value.type "function", data := Data.func { name := Str.ofString "_law_draw", qualname := Str.ofString "_law_draw", params := f21p, body := FuncBody.stmts f21b, scope := f21s, globals := 3, closure := [], defaults := Value.none, kwdefaults := Value.none, pyModule := Value.str (Str.ofString "law_nm0008_01") 414, code := Value.ref 161 } }
noncomputable def ob_163 (P : Params) : Obj := { cls := Value.type "tuple", data := Data.seq #[] }
noncomputable def ob_164 (P : Params) : Obj := { cls := Value.none, data := Data.fields #[] }
noncomputable def ob_165 (P : Params) : Obj := { cls := Value.type "tuple", data := Data.seq #[Value.str (Str.ofString "well") 438, Value.str (Str.ofString "menu") 439] }
noncomputable def ob_166 (P : Params) : Obj := { cls := Value.type "tuple", data := Data.seq #[] }
noncomputable def ob_167 (P : Params) : Obj := { cls := Value.none, data := Data.func { name := Str.ofString "_law_pick", qualname := Str.ofString "_law_pick", params := f22p, body := FuncBody.stmts f22b, scope := f22s, globals := 0, closure := [], defaults := Value.none, kwdefaults := Value.none } }
noncomputable def ob_168 (P : Params) : Obj := { cls := Value.type "code", data := Data.fields #[Value.str (Str.ofString "_law_pick") 435, Value.str (Str.ofString "_law_pick") 436, Value.str (Str.ofString "/claim/cut.py") 437, Value.int 135 0, Value.int 2 0, Value.int 0 0, Value.int 0 0, Value.int 3 0, Value.ref 163, Value.bool true, Value.int 181 0, Value.ref 164, Value.none, Value.ref 165, Value.ref 166, Value.ref 167, Value.int 440 0, Value.int 135 0, Value.str (Str.ofString "/claim/cut.py") 441] }
noncomputable def ob_169 (P : Params) : Obj := { cls := Value.type "function", data := Data.func { name := Str.ofString "_law_pick", qualname := Str.ofString "_law_pick", params := f22p, body := FuncBody.stmts f22b, scope := f22s, globals := 3, closure := [], defaults := Value.none, kwdefaults := Value.none, pyModule := Value.str (Str.ofString "law_nm0008_01") 414, code := Value.ref 168 } }
noncomputable def ob_170 (P : Params) : Obj := { cls := Value.type "tuple", data := Data.seq #[] }
noncomputable def ob_171 (P : Params) : Obj := { cls := Value.none, data := Data.fields #[] }
noncomputable def ob_172 (P : Params) : Obj := { cls := Value.type "tuple", data := Data.seq #[Value.str (Str.ofString "number") 446] }
noncomputable def ob_173 (P : Params) : Obj := { cls := Value.type "tuple", data := Data.seq #[] }
noncomputable def ob_174 (P : Params) : Obj := { cls := Value.none, data := Data.func { name := Str.ofString "_law_signed", qualname := Str.ofString "_law_signed", params := f23p, body := FuncBody.stmts f23b, scope := f23s, globals := 0, closure := [], defaults := Value.none, kwdefaults := Value.none } }
noncomputable def ob_175 (P : Params) : Obj := { cls := Value.type "code", data := Data.fields #[Value.str (Str.ofString "_law_signed") 443, Value.str (Str.ofString "_law_signed") 444, Value.str (Str.ofString "/claim/cut.py") 445, Value.int 137 0, Value.int 1 0, Value.int 0 0, Value.int 0 0, Value.int 3 0, Value.ref 170, Value.bool true, Value.int 181 0, Value.ref 171, Value.none, Value.ref 172, Value.ref 173, Value.ref 174, Value.int 447 0, Value.int 137 0, Value.str (Str.ofString "/claim/cut.py") 448] }
noncomputable def ob_176 (P : Params) : Obj := { cls := Value.type "function", data := Data.func { name := Str.ofString "_law_signed", qualname := Str.ofString "_law_signed", params := f23p, body := FuncBody.stmts f23b, scope := f23s, globals := 3, closure := [], defaults := Value.none, kwdefaults := Value.none, pyModule := Value.str (Str.ofString "law_nm0008_01") 414, code := Value.ref 175 } }
noncomputable def ob_177 (P : Params) : Obj := { cls := Value.type "tuple", data := Data.seq #[] }
noncomputable def ob_178 (P : Params) : Obj := { cls := Value.none, data := Data.fields #[] }
noncomputable def ob_179 (P : Params) : Obj := { cls := Value.type "tuple", data := Data.seq #[Value.str (Str.ofString "house") 453, Value.str (Str.ofString "number") 454] }
noncomputable def ob_180 (P : Params) : Obj := { cls := Value.type "tuple", data := Data.seq #[] }
noncomputable def ob_181 (P : Params) : Obj := { cls := Value.none, data := Data.func { name := Str.ofString "_law_fresh", qualname := Str.ofString "_law_fresh", params := f24p, body := FuncBody.stmts f24b, scope := f24s, globals := 0, closure := [], defaults := Value.none, kwdefaults := Value.none } }
noncomputable def ob_182 (P : Params) : Obj := { cls := Value.type "code", data := Data.fields #[Value.str (Str.ofString "_law_fresh") 450, Value.str (Str.ofString "_law_fresh") 451, Value.str (Str.ofString "/claim/cut.py") 452, Value.int 139 0, Value.int 2 0, Value.int 0 0, Value.int 0 0, Value.int 3 0, Value.ref 177, Value.bool true, Value.int 181 0, Value.ref 178, Value.none, Value.ref 179, Value.ref 180, Value.ref 181, Value.int 455 0, Value.int 139 0, Value.str (Str.ofString "/claim/cut.py") 456] }
noncomputable def ob_183 (P : Params) : Obj := { cls := Value.type "function", data := Data.func { name := Str.ofString "_law_fresh", qualname := Str.ofString "_law_fresh", params := f24p, body := FuncBody.stmts f24b, scope := f24s, globals := 3, closure := [], defaults := Value.none, kwdefaults := Value.none, pyModule := Value.str (Str.ofString "law_nm0008_01") 414, code := Value.ref 182 } }
noncomputable def ob_184 (P : Params) : Obj := { cls := Value.type "tuple", data := Data.seq #[] }
noncomputable def ob_185 (P : Params) : Obj := { cls := Value.none, data := Data.fields #[] }
noncomputable def ob_186 (P : Params) : Obj := { cls := Value.type "tuple", data := Data.seq #[Value.str (Str.ofString "well") 461, Value.str (Str.ofString "house") 462, Value.str (Str.ofString "again") 463] }
noncomputable def ob_187 (P : Params) : Obj := { cls := Value.type "tuple", data := Data.seq #[] }
noncomputable def ob_188 (P : Params) : Obj := { cls := Value.none, data := Data.func { name := Str.ofString "_law_goal", qualname := Str.ofString "_law_goal", params := f25p, body := FuncBody.stmts f25b, scope := f25s, globals := 0, closure := [], defaults := Value.none, kwdefaults := Value.none } }
noncomputable def ob_189 (P : Params) : Obj := { cls := Value.type "code", data := Data.fields #[Value.str (Str.ofString "_law_goal") 458, Value.str (Str.ofString "_law_goal") 459, Value.str (Str.ofString "/claim/cut.py") 460, Value.int 142 0, Value.int 2 0, Value.int 0 0, Value.int 0 0, Value.int 3 0, Value.ref 184, Value.bool true, Value.int 181 0, Value.ref 185, Value.none, Value.ref 186, Value.ref 187, Value.ref 188, Value.int 464 0, Value.int 142 0, Value.str (Str.ofString "/claim/cut.py") 465] }
noncomputable def ob_190 (P : Params) : Obj := { cls := Value.type "function", data := Data.func { name := Str.ofString "_law_goal", qualname := Str.ofString "_law_goal", params := f25p, body := FuncBody.stmts f25b, scope := f25s, globals := 3, closure := [], defaults := Value.none, kwdefaults := Value.none, pyModule := Value.str (Str.ofString "law_nm0008_01") 414, code := Value.ref 189 } }
noncomputable def ob_191 (P : Params) : Obj := { cls := Value.type "tuple", data := Data.seq #[] }
noncomputable def ob_192 (P : Params) : Obj := { cls := Value.none, data := Data.fields #[] }
noncomputable def ob_193 (P : Params) : Obj := { cls := Value.type "tuple", data := Data.seq #[Value.str (Str.ofString "house") 470, Value.str (Str.ofString "chest") 471, Value.str (Str.ofString "octets") 472, Value.str (Str.ofString "number") 473, Value.str (Str.ofString "ground") 474, Value.str (Str.ofString "offset") 475] }
noncomputable def ob_194 (P : Params) : Obj := { cls := Value.type "tuple", data := Data.seq #[] }
noncomputable def ob_195 (P : Params) : Obj := { cls := Value.none, data := Data.func { name := Str.ofString "_law_reached", qualname := Str.ofString "_law_reached", params := f26p, body := FuncBody.stmts f26b, scope := f26s, globals := 0, closure := [], defaults := Value.none, kwdefaults := Value.none } }
noncomputable def ob_196 (P : Params) : Obj := { cls := Value.type "code", data := Data.fields #[Value.str (Str.ofString "_law_reached") 467, Value.str (Str.ofString "_law_reached") 468, Value.str (Str.ofString "/claim/cut.py") 469, Value.int 148 0, Value.int 3 0, Value.int 0 0, Value.int 0 0, Value.int 3 0, Value.ref 191, Value.bool true, Value.int 181 0, Value.ref 192, Value.none, Value.ref 193, Value.ref 194, Value.ref 195, Value.int 476 0, Value.int 148 0, Value.str (Str.ofString "/claim/cut.py") 477] }
noncomputable def ob_197 (P : Params) : Obj := { cls := Value.type "function", data := Data.func { name := Str.ofString "_law_reached", qualname := Str.ofString "_law_reached", params := f26p, body := FuncBody.stmts f26b, scope := f26s, globals := 3, closure := [], defaults := Value.none, kwdefaults := Value.none, pyModule := Value.str (Str.ofString "law_nm0008_01") 414, code := Value.ref 196 } }
noncomputable def ob_198 (P : Params) : Obj := { cls := Value.type "tuple", data := Data.seq #[] }
noncomputable def ob_199 (P : Params) : Obj := { cls := Value.none, data := Data.fields #[] }
noncomputable def ob_200 (P : Params) : Obj := { cls := Value.type "tuple", data := Data.seq #[Value.str (Str.ofString "house") 482, Value.str (Str.ofString "number") 483, Value.str (Str.ofString "octets") 484, Value.str (Str.ofString "spot") 485] }
noncomputable def ob_201 (P : Params) : Obj := { cls := Value.type "tuple", data := Data.seq #[] }
noncomputable def ob_202 (P : Params) : Obj := { cls := Value.none, data := Data.func { name := Str.ofString "_law_cleared", qualname := Str.ofString "_law_cleared", params := f27p, body := FuncBody.stmts f27b, scope := f27s, globals := 0, closure := [], defaults := Value.none, kwdefaults := Value.none } }
noncomputable def ob_203 (P : Params) : Obj := { cls := Value.type "code", data := Data.fields #[Value.str (Str.ofString "_law_cleared") 479, Value.str (Str.ofString "_law_cleared") 480, Value.str (Str.ofString "/claim/cut.py") 481, Value.int 152 0, Value.int 3 0, Value.int 0 0, Value.int 0 0, Value.int 3 0, Value.ref 198, Value.bool true, Value.int 181 0, Value.ref 199, Value.none, Value.ref 200, Value.ref 201, Value.ref 202, Value.int 486 0, Value.int 152 0, Value.str (Str.ofString "/claim/cut.py") 487] }
noncomputable def ob_204 (P : Params) : Obj := { cls := Value.type "function", data := Data.func { name := Str.ofString "_law_cleared", qualname := Str.ofString "_law_cleared", params := f27p, body := FuncBody.stmts f27b, scope := f27s, globals := 3, closure := [], defaults := Value.none, kwdefaults := Value.none, pyModule := Value.str (Str.ofString "law_nm0008_01") 414, code := Value.ref 203 } }
noncomputable def ob_205 (P : Params) : Obj := { cls := Value.type "tuple", data := Data.seq #[] }
noncomputable def ob_206 (P : Params) : Obj := { cls := Value.none, data := Data.fields #[] }
noncomputable def ob_207 (P : Params) : Obj := { cls := Value.type "tuple", data := Data.seq #[Value.str (Str.ofString "house") 492, Value.str (Str.ofString "registers") 493, Value.str (Str.ofString "chest") 494, Value.str (Str.ofString "ground") 495] }
noncomputable def ob_208 (P : Params) : Obj := { cls := Value.type "tuple", data := Data.seq #[] }
noncomputable def ob_209 (P : Params) : Obj := { cls := Value.none, data := Data.func { name := Str.ofString "_law_handed", qualname := Str.ofString "_law_handed", params := f28p, body := FuncBody.stmts f28b, scope := f28s, globals := 0, closure := [], defaults := Value.none, kwdefaults := Value.none } }
noncomputable def ob_210 (P : Params) : Obj := { cls := Value.type "code", data := Data.fields #[Value.str (Str.ofString "_law_handed") 489, Value.str (Str.ofString "_law_handed") 490, Value.str (Str.ofString "/claim/cut.py") 491, Value.int 156 0, Value.int 2 0, Value.int 0 0, Value.int 0 0, Value.int 3 0, Value.ref 205, Value.bool true, Value.int 181 0, Value.ref 206, Value.none, Value.ref 207, Value.ref 208, Value.ref 209, Value.int 496 0, Value.int 156 0, Value.str (Str.ofString "/claim/cut.py") 497] }
noncomputable def ob_211 (P : Params) : Obj := { cls := Value.type "function", data := Data.func { name := Str.ofString "_law_handed", qualname := Str.ofString "_law_handed", params := f28p, body := FuncBody.stmts f28b, scope := f28s, globals := 3, closure := [], defaults := Value.none, kwdefaults := Value.none, pyModule := Value.str (Str.ofString "law_nm0008_01") 414, code := Value.ref 210 } }
noncomputable def ob_212 (P : Params) : Obj := { cls := Value.type "tuple", data := Data.seq #[] }
noncomputable def ob_213 (P : Params) : Obj := { cls := Value.none, data := Data.fields #[] }
noncomputable def ob_214 (P : Params) : Obj := { cls := Value.type "tuple", data := Data.seq #[Value.str (Str.ofString "well") 502, Value.str (Str.ofString "house") 503, Value.str (Str.ofString "way") 504, Value.str (Str.ofString "at") 505, Value.str (Str.ofString "found") 506, Value.str (Str.ofString "value") 507, Value.str (Str.ofString "name") 508, Value.str (Str.ofString "more") 509, Value.str (Str.ofString "chest") 510, Value.str (Str.ofString "number") 511, Value.str (Str.ofString "ground") 512, Value.str (Str.ofString "offset") 513, Value.str (Str.ofString "goal") 514] }
noncomputable def ob_215 (P : Params) : Obj := { cls := Value.type "tuple", data := Data.seq #[] }
noncomputable def ob_216 (P : Params) : Obj := { cls := Value.none, data := Data.func { name := Str.ofString "_law_address", qualname := Str.ofString "_law_address", params := f29p, body := FuncBody.stmts f29b, scope := f29s, globals := 0, closure := [], defaults := Value.none, kwdefaults := Value.none } }
noncomputable def ob_217 (P : Params) : Obj := { cls := Value.type "code", data := Data.fields #[Value.str (Str.ofString "_law_address") 499, Value.str (Str.ofString "_law_address") 500, Value.str (Str.ofString "/claim/cut.py") 501, Value.int 161 0, Value.int 3 0, Value.int 0 0, Value.int 0 0, Value.int 3 0, Value.ref 212, Value.bool true, Value.int 181 0, Value.ref 213, Value.none, Value.ref 214, Value.ref 215, Value.ref 216, Value.int 515 0, Value.int 161 0, Value.str (Str.ofString "/claim/cut.py") 516] }
noncomputable def ob_218 (P : Params) : Obj := { cls := Value.type "function", data := Data.func { name := Str.ofString "_law_address", qualname := Str.ofString "_law_address", params := f29p, body := FuncBody.stmts f29b, scope := f29s, globals := 3, closure := [], defaults := Value.none, kwdefaults := Value.none, pyModule := Value.str (Str.ofString "law_nm0008_01") 414, code := Value.ref 217 } }
noncomputable def ob_219 (P : Params) : Obj := { cls := Value.type "tuple", data := Data.seq #[] }
noncomputable def ob_220 (P : Params) : Obj := { cls := Value.none, data := Data.fields #[] }
noncomputable def ob_221 (P : Params) : Obj := { cls := Value.type "tuple", data := Data.seq #[Value.str (Str.ofString "well") 521, Value.str (Str.ofString "house") 522, Value.str (Str.ofString "chest") 523, Value.str (Str.ofString "octets") 524, Value.str (Str.ofString "operand") 525, Value.str (Str.ofString "number") 526] }
noncomputable def ob_222 (P : Params) : Obj := { cls := Value.type "tuple", data := Data.seq #[] }
noncomputable def ob_223 (P : Params) : Obj := { cls := Value.none, data := Data.func { name := Str.ofString "_law_stored", qualname := Str.ofString "_law_stored", params := f30p, body := FuncBody.stmts f30b, scope := f30s, globals := 0, closure := [], defaults := Value.none, kwdefaults := Value.none } }
noncomputable def ob_224 (P : Params) : Obj := { cls := Value.type "code", data := Data.fields #[Value.str (Str.ofString "_law_stored") 518, Value.str (Str.ofString "_law_stored") 519, Value.str (Str.ofString "/claim/cut.py") 520, Value.int 180 0, Value.int 2 0, Value.int 0 0, Value.int 0 0, Value.int 3 0, Value.ref 219, Value.bool true, Value.int 181 0, Value.ref 220, Value.none, Value.ref 221, Value.ref 222, Value.ref 223, Value.int 527 0, Value.int 180 0, Value.str (Str.ofString "/claim/cut.py") 528] }
noncomputable def ob_225 (P : Params) : Obj := { cls := Value.type "function", data := Data.func { name := Str.ofString "_law_stored", qualname := Str.ofString "_law_stored", params := f30p, body := FuncBody.stmts f30b, scope := f30s, globals := 3, closure := [], defaults := Value.none, kwdefaults := Value.none, pyModule := Value.str (Str.ofString "law_nm0008_01") 414, code := Value.ref 224 } }
noncomputable def ob_226 (P : Params) : Obj := { cls := Value.type "tuple", data := Data.seq #[] }
noncomputable def ob_227 (P : Params) : Obj := { cls := Value.none, data := Data.fields #[] }
noncomputable def ob_228 (P : Params) : Obj := { cls := Value.type "tuple", data := Data.seq #[Value.str (Str.ofString "well") 533, Value.str (Str.ofString "house") 534, Value.str (Str.ofString "chest") 535, Value.str (Str.ofString "octets") 536, Value.str (Str.ofString "number") 537, Value.str (Str.ofString "value") 538, Value.str (Str.ofString "goal") 539] }
noncomputable def ob_229 (P : Params) : Obj := { cls := Value.type "tuple", data := Data.seq #[] }
noncomputable def ob_230 (P : Params) : Obj := { cls := Value.none, data := Data.func { name := Str.ofString "_law_loaded", qualname := Str.ofString "_law_loaded", params := f31p, body := FuncBody.stmts f31b, scope := f31s, globals := 0, closure := [], defaults := Value.none, kwdefaults := Value.none } }
noncomputable def ob_231 (P : Params) : Obj := { cls := Value.type "code", data := Data.fields #[Value.str (Str.ofString "_law_loaded") 530, Value.str (Str.ofString "_law_loaded") 531, Value.str (Str.ofString "/claim/cut.py") 532, Value.int 191 0, Value.int 2 0, Value.int 0 0, Value.int 0 0, Value.int 3 0, Value.ref 226, Value.bool true, Value.int 181 0, Value.ref 227, Value.none, Value.ref 228, Value.ref 229, Value.ref 230, Value.int 540 0, Value.int 191 0, Value.str (Str.ofString "/claim/cut.py") 541] }
noncomputable def ob_232 (P : Params) : Obj := { cls := Value.type "function", data := Data.func { name := Str.ofString "_law_loaded", qualname := Str.ofString "_law_loaded", params := f31p, body := FuncBody.stmts f31b, scope := f31s, globals := 3, closure := [], defaults := Value.none, kwdefaults := Value.none, pyModule := Value.str (Str.ofString "law_nm0008_01") 414, code := Value.ref 231 } }
noncomputable def ob_233 (P : Params) : Obj := { cls := Value.type "tuple", data := Data.seq #[] }
noncomputable def ob_234 (P : Params) : Obj := { cls := Value.none, data := Data.fields #[] }
noncomputable def ob_235 (P : Params) : Obj := { cls := Value.none, data := Data.func { name := Str.ofString "_law_moved", qualname := Str.ofString "_law_moved", params := f32p, body := FuncBody.stmts f32b, scope := f32s, globals := 0, closure := [], defaults := Value.none, kwdefaults := Value.none } }
noncomputable def ob_236 (P : Params) : Obj := { cls := Value.type "code", data := Data.fields #[Value.str (Str.ofString "_law_moved") 543, Value.str (Str.ofString "_law_moved") 544, Value.str (Str.ofString "/claim/cut.py") 545, Value.int 198 0, Value.int 2 0, Value.int 0 0, Value.int 0 0, Value.int 3 0, Value.ref 233, Value.bool true, Value.int 181 0, Value.ref 234, Value.none, Value.none, Value.none, Value.ref 235, Value.int 546 0, Value.int 198 0, Value.str (Str.ofString "/claim/cut.py") 547] }
noncomputable def ob_237 (P : Params) : Obj := { cls := Value.type "function", data := Data.func { name := Str.ofString "_law_moved", qualname := Str.ofString "_law_moved", params := f32p, body := FuncBody.stmts f32b, scope := f32s, globals := 3, closure := [], defaults := Value.none, kwdefaults := Value.none, pyModule := Value.str (Str.ofString "law_nm0008_01") 414, code := Value.ref 236 } }
noncomputable def ob_238 (P : Params) : Obj := { cls := Value.type "tuple", data := Data.seq #[] }
noncomputable def ob_239 (P : Params) : Obj := { cls := Value.none, data := Data.fields #[] }
noncomputable def ob_240 (P : Params) : Obj := { cls := Value.none, data := Data.func { name := Str.ofString "_law_other", qualname := Str.ofString "_law_other", params := f33p, body := FuncBody.stmts f33b, scope := f33s, globals := 0, closure := [], defaults := Value.none, kwdefaults := Value.none } }
noncomputable def ob_241 (P : Params) : Obj := { cls := Value.type "code", data := Data.fields #[Value.str (Str.ofString "_law_other") 549, Value.str (Str.ofString "_law_other") 550, Value.str (Str.ofString "/claim/cut.py") 551, Value.int 207 0, Value.int 3 0, Value.int 0 0, Value.int 0 0, Value.int 3 0, Value.ref 238, Value.bool true, Value.int 181 0, Value.ref 239, Value.none, Value.none, Value.none, Value.ref 240, Value.int 552 0, Value.int 207 0, Value.str (Str.ofString "/claim/cut.py") 553] }
noncomputable def ob_242 (P : Params) : Obj := { cls := Value.type "function", data := Data.func { name := Str.ofString "_law_other", qualname := Str.ofString "_law_other", params := f33p, body := FuncBody.stmts f33b, scope := f33s, globals := 3, closure := [], defaults := Value.none, kwdefaults := Value.none, pyModule := Value.str (Str.ofString "law_nm0008_01") 414, code := Value.ref 241 } }
noncomputable def ob_243 (P : Params) : Obj := { cls := Value.type "tuple", data := Data.seq #[] }
noncomputable def ob_244 (P : Params) : Obj := { cls := Value.none, data := Data.fields #[] }
noncomputable def ob_245 (P : Params) : Obj := { cls := Value.none, data := Data.func { name := Str.ofString "_law_done", qualname := Str.ofString "_law_done", params := f34p, body := FuncBody.stmts f34b, scope := f34s, globals := 0, closure := [], defaults := Value.none, kwdefaults := Value.none } }
noncomputable def ob_246 (P : Params) : Obj := { cls := Value.type "code", data := Data.fields #[Value.str (Str.ofString "_law_done") 555, Value.str (Str.ofString "_law_done") 556, Value.str (Str.ofString "/claim/cut.py") 557, Value.int 218 0, Value.int 2 0, Value.int 0 0, Value.int 0 0, Value.int 3 0, Value.ref 243, Value.bool true, Value.int 181 0, Value.ref 244, Value.none, Value.none, Value.none, Value.ref 245, Value.int 558 0, Value.int 218 0, Value.str (Str.ofString "/claim/cut.py") 559] }
noncomputable def ob_247 (P : Params) : Obj := { cls := Value.type "function", data := Data.func { name := Str.ofString "_law_done", qualname := Str.ofString "_law_done", params := f34p, body := FuncBody.stmts f34b, scope := f34s, globals := 3, closure := [], defaults := Value.none, kwdefaults := Value.none, pyModule := Value.str (Str.ofString "law_nm0008_01") 414, code := Value.ref 246 } }
noncomputable def ob_248 (P : Params) : Obj := { cls := Value.type "tuple", data := Data.seq #[] }
noncomputable def ob_249 (P : Params) : Obj := { cls := Value.none, data := Data.fields #[] }
noncomputable def ob_250 (P : Params) : Obj := { cls := Value.none, data := Data.func { name := Str.ofString "_law_function", qualname := Str.ofString "_law_function", params := f35p, body := FuncBody.stmts f35b, scope := f35s, globals := 0, closure := [], defaults := Value.none, kwdefaults := Value.none } }
noncomputable def ob_251 (P : Params) : Obj := { cls := Value.type "code", data := Data.fields #[Value.str (Str.ofString "_law_function") 561, Value.str (Str.ofString "_law_function") 562, Value.str (Str.ofString "/claim/cut.py") 563, Value.int 230 0, Value.int 4 0, Value.int 0 0, Value.int 0 0, Value.int 3 0, Value.ref 248, Value.bool true, Value.int 181 0, Value.ref 249, Value.none, Value.none, Value.none, Value.ref 250, Value.int 564 0, Value.int 230 0, Value.str (Str.ofString "/claim/cut.py") 565] }
noncomputable def ob_252 (P : Params) : Obj := { cls := Value.type "function", data := Data.func { name := Str.ofString "_law_function", qualname := Str.ofString "_law_function", params := f35p, body := FuncBody.stmts f35b, scope := f35s, globals := 3, closure := [], defaults := Value.none, kwdefaults := Value.none, pyModule := Value.str (Str.ofString "law_nm0008_01") 414, code := Value.ref 251 } }
noncomputable def ob_253 (P : Params) : Obj := { cls := Value.type "tuple", data := Data.seq #[] }
noncomputable def ob_254 (P : Params) : Obj := { cls := Value.none, data := Data.fields #[] }
noncomputable def ob_255 (P : Params) : Obj := { cls := Value.none, data := Data.func { name := Str.ofString "_law_singles", qualname := Str.ofString "_law_singles", params := f36p, body := FuncBody.stmts f36b, scope := f36s, globals := 0, closure := [], defaults := Value.none, kwdefaults := Value.none } }
noncomputable def ob_256 (P : Params) : Obj := { cls := Value.type "code", data := Data.fields #[Value.str (Str.ofString "_law_singles") 567, Value.str (Str.ofString "_law_singles") 568, Value.str (Str.ofString "/claim/cut.py") 569, Value.int 241 0, Value.int 1 0, Value.int 0 0, Value.int 0 0, Value.int 3 0, Value.ref 253, Value.bool true, Value.int 181 0, Value.ref 254, Value.none, Value.none, Value.none, Value.ref 255, Value.int 570 0, Value.int 241 0, Value.str (Str.ofString "/claim/cut.py") 571] }
noncomputable def ob_257 (P : Params) : Obj := { cls := Value.type "function", data := Data.func { name := Str.ofString "_law_singles", qualname := Str.ofString "_law_singles", params := f36p, body := FuncBody.stmts f36b, scope := f36s, globals := 3, closure := [], defaults := Value.none, kwdefaults := Value.none, pyModule := Value.str (Str.ofString "law_nm0008_01") 414, code := Value.ref 256 } }
noncomputable def ob_258 (P : Params) : Obj := { cls := Value.type "tuple", data := Data.seq #[] }
noncomputable def ob_259 (P : Params) : Obj := { cls := Value.none, data := Data.fields #[] }
noncomputable def ob_260 (P : Params) : Obj := { cls := Value.type "tuple", data := Data.seq #[Value.str (Str.ofString "rows") 576, Value.str (Str.ofString "once") 577, Value.str (Str.ofString "found") 578, Value.str (Str.ofString "row") 579] }
noncomputable def ob_261 (P : Params) : Obj := { cls := Value.type "tuple", data := Data.seq #[] }
noncomputable def ob_262 (P : Params) : Obj := { cls := Value.none, data := Data.func { name := Str.ofString "_law_holders", qualname := Str.ofString "_law_holders", params := f37p, body := FuncBody.stmts f37b, scope := f37s, globals := 0, closure := [], defaults := Value.none, kwdefaults := Value.none } }
noncomputable def ob_263 (P : Params) : Obj := { cls := Value.type "code", data := Data.fields #[Value.str (Str.ofString "_law_holders") 573, Value.str (Str.ofString "_law_holders") 574, Value.str (Str.ofString "/claim/cut.py") 575, Value.int 251 0, Value.int 2 0, Value.int 0 0, Value.int 0 0, Value.int 3 0, Value.ref 258, Value.bool true, Value.int 181 0, Value.ref 259, Value.none, Value.ref 260, Value.ref 261, Value.ref 262, Value.int 580 0, Value.int 251 0, Value.str (Str.ofString "/claim/cut.py") 581] }
noncomputable def ob_264 (P : Params) : Obj := { cls := Value.type "function", data := Data.func { name := Str.ofString "_law_holders", qualname := Str.ofString "_law_holders", params := f37p, body := FuncBody.stmts f37b, scope := f37s, globals := 3, closure := [], defaults := Value.none, kwdefaults := Value.none, pyModule := Value.str (Str.ofString "law_nm0008_01") 414, code := Value.ref 263 } }
noncomputable def ob_265 (P : Params) : Obj := { cls := Value.type "tuple", data := Data.seq #[] }
noncomputable def ob_266 (P : Params) : Obj := { cls := Value.none, data := Data.fields #[] }
noncomputable def ob_267 (P : Params) : Obj := { cls := Value.none, data := Data.func { name := Str.ofString "_law_private", qualname := Str.ofString "_law_private", params := f38p, body := FuncBody.stmts f38b, scope := f38s, globals := 0, closure := [], defaults := Value.none, kwdefaults := Value.none } }
noncomputable def ob_268 (P : Params) : Obj := { cls := Value.type "code", data := Data.fields #[Value.str (Str.ofString "_law_private") 583, Value.str (Str.ofString "_law_private") 584, Value.str (Str.ofString "/claim/cut.py") 585, Value.int 259 0, Value.int 5 0, Value.int 0 0, Value.int 0 0, Value.int 3 0, Value.ref 265, Value.bool true, Value.int 181 0, Value.ref 266, Value.none, Value.none, Value.none, Value.ref 267, Value.int 586 0, Value.int 259 0, Value.str (Str.ofString "/claim/cut.py") 587] }
noncomputable def ob_269 (P : Params) : Obj := { cls := Value.type "function", data := Data.func { name := Str.ofString "_law_private", qualname := Str.ofString "_law_private", params := f38p, body := FuncBody.stmts f38b, scope := f38s, globals := 3, closure := [], defaults := Value.none, kwdefaults := Value.none, pyModule := Value.str (Str.ofString "law_nm0008_01") 414, code := Value.ref 268 } }
noncomputable def ob_270 (P : Params) : Obj := { cls := Value.type "tuple", data := Data.seq #[] }
noncomputable def ob_271 (P : Params) : Obj := { cls := Value.none, data := Data.fields #[] }
noncomputable def ob_272 (P : Params) : Obj := { cls := Value.type "tuple", data := Data.seq #[Value.str (Str.ofString "place") 592, Value.str (Str.ofString "sizes") 593, Value.str (Str.ofString "ground") 594, Value.str (Str.ofString "offset") 595, Value.str (Str.ofString "octets") 596] }
noncomputable def ob_273 (P : Params) : Obj := { cls := Value.type "tuple", data := Data.seq #[] }
noncomputable def ob_274 (P : Params) : Obj := { cls := Value.none, data := Data.func { name := Str.ofString "_law_within", qualname := Str.ofString "_law_within", params := f39p, body := FuncBody.stmts f39b, scope := f39s, globals := 0, closure := [], defaults := Value.none, kwdefaults := Value.none } }
noncomputable def ob_275 (P : Params) : Obj := { cls := Value.type "code", data := Data.fields #[Value.str (Str.ofString "_law_within") 589, Value.str (Str.ofString "_law_within") 590, Value.str (Str.ofString "/claim/cut.py") 591, Value.int 273 0, Value.int 2 0, Value.int 0 0, Value.int 0 0, Value.int 3 0, Value.ref 270, Value.bool true, Value.int 181 0, Value.ref 271, Value.none, Value.ref 272, Value.ref 273, Value.ref 274, Value.int 597 0, Value.int 273 0, Value.str (Str.ofString "/claim/cut.py") 598] }
noncomputable def ob_276 (P : Params) : Obj := { cls := Value.type "function", data := Data.func { name := Str.ofString "_law_within", qualname := Str.ofString "_law_within", params := f39p, body := FuncBody.stmts f39b, scope := f39s, globals := 3, closure := [], defaults := Value.none, kwdefaults := Value.none, pyModule := Value.str (Str.ofString "law_nm0008_01") 414, code := Value.ref 275 } }
noncomputable def ob_277 (P : Params) : Obj := { cls := Value.type "tuple", data := Data.seq #[] }
noncomputable def ob_278 (P : Params) : Obj := { cls := Value.none, data := Data.fields #[] }
noncomputable def ob_279 (P : Params) : Obj := { cls := Value.none, data := Data.func { name := Str.ofString "_law_meets", qualname := Str.ofString "_law_meets", params := f40p, body := FuncBody.stmts f40b, scope := f40s, globals := 0, closure := [], defaults := Value.none, kwdefaults := Value.none } }
noncomputable def ob_280 (P : Params) : Obj := { cls := Value.type "code", data := Data.fields #[Value.str (Str.ofString "_law_meets") 600, Value.str (Str.ofString "_law_meets") 601, Value.str (Str.ofString "/claim/cut.py") 602, Value.int 276 0, Value.int 5 0, Value.int 0 0, Value.int 0 0, Value.int 3 0, Value.ref 277, Value.bool true, Value.int 181 0, Value.ref 278, Value.none, Value.none, Value.none, Value.ref 279, Value.int 603 0, Value.int 276 0, Value.str (Str.ofString "/claim/cut.py") 604] }
noncomputable def ob_281 (P : Params) : Obj := { cls := Value.type "function", data := Data.func { name := Str.ofString "_law_meets", qualname := Str.ofString "_law_meets", params := f40p, body := FuncBody.stmts f40b, scope := f40s, globals := 3, closure := [], defaults := Value.none, kwdefaults := Value.none, pyModule := Value.str (Str.ofString "law_nm0008_01") 414, code := Value.ref 280 } }
noncomputable def ob_282 (P : Params) : Obj := { cls := Value.type "tuple", data := Data.seq #[] }
noncomputable def ob_283 (P : Params) : Obj := { cls := Value.none, data := Data.fields #[] }
noncomputable def ob_284 (P : Params) : Obj := { cls := Value.none, data := Data.func { name := Str.ofString "law", qualname := Str.ofString "law", params := f41p, body := FuncBody.stmts f41b, scope := f41s, globals := 0, closure := [], defaults := Value.none, kwdefaults := Value.none } }
noncomputable def ob_285 (P : Params) : Obj := { cls := Value.type "code", data := Data.fields #[Value.str (Str.ofString "law") 606, Value.str (Str.ofString "law") 607, Value.str (Str.ofString "/claim/cut.py") 608, Value.int 289 0, Value.int 1 0, Value.int 0 0, Value.int 0 0, Value.int 3 0, Value.ref 282, Value.bool true, Value.int 181 0, Value.ref 283, Value.none, Value.none, Value.none, Value.ref 284, Value.int 609 0, Value.int 289 0, Value.str (Str.ofString "/claim/cut.py") 610] }
noncomputable def ob_286 (P : Params) : Obj := { cls := Value.type "function", data := Data.func { name := Str.ofString "law", qualname := Str.ofString "law", params := f41p, body := FuncBody.stmts f41b, scope := f41s, globals := 3, closure := [], defaults := Value.none, kwdefaults := Value.none, pyModule := Value.str (Str.ofString "law_nm0008_01") 414, code := Value.ref 285 } }
noncomputable def ob12 (P : Params) : Obj := { cls := Value.none, data := Data.fields #[] }
noncomputable def h46 (P : Params) : Heap := ⟨⟨[boot_o_0 P, boot_o_1 P, boot_o_2 P, boot_o_3 P, boot_o_4 P, boot_o_5 P, boot_o_6 P, boot_o_7 P, boot_o_8 P, boot_o_9 P, boot_o_10 P, ob_11 P, ob12 P, ob_13 P, ob_14 P]⟩, {}⟩
noncomputable def t47 (P : Params) : BT := (.node (boot_o_0 P) (.node (boot_o_1 P) (.node (boot_o_3 P) (.node (boot_o_7 P) .nil .nil) (.node (ob_11 P) .nil .nil)) (.node (boot_o_5 P) (.node (boot_o_9 P) .nil .nil) (.node (ob_13 P) .nil .nil))) (.node (boot_o_2 P) (.node (boot_o_4 P) (.node (boot_o_8 P) .nil .nil) (.node (ob12 P) .nil .nil)) (.node (boot_o_6 P) (.node (boot_o_10 P) .nil .nil) (.node (ob_14 P) .nil .nil))))
noncomputable def hEnd (P : Params) : Heap := ⟨⟨[boot_o_0 P, boot_o_1 P, boot_o_2 P, ob_3 P, boot_o_4 P, boot_o_5 P, boot_o_6 P, boot_o_7 P, boot_o_8 P, boot_o_9 P, boot_o_10 P, ob_11 P, ob_12 P, ob_13 P, ob_14 P, ob_15 P, ob_16 P, ob_17 P, ob_18 P, ob_19 P, ob_20 P, ob_21 P, ob_22 P, ob_23 P, ob_24 P, ob_25 P, ob_26 P, ob_27 P, ob_28 P, ob_29 P, ob_30 P, ob_31 P, ob_32 P, ob_33 P, ob_34 P, ob_35 P, ob_36 P, ob_37 P, ob_38 P, ob_39 P, ob_40 P, ob_41 P, ob_42 P, ob_43 P, ob_44 P, ob_45 P, ob_46 P, ob_47 P, ob_48 P, ob_49 P, ob_50 P, ob_51 P, ob_52 P, ob_53 P, ob_54 P, ob_55 P, ob_56 P, ob_57 P, ob_58 P, ob_59 P, ob_60 P, ob_61 P, ob_62 P, ob_63 P, ob_64 P, ob_65 P, ob_66 P, ob_67 P, ob_68 P, ob_69 P, ob_70 P, ob_71 P, ob_72 P, ob_73 P, ob_74 P, ob_75 P, ob_76 P, ob_77 P, ob_78 P, ob_79 P, ob_80 P, ob_81 P, ob_82 P, ob_83 P, ob_84 P, ob_85 P, ob_86 P, ob_87 P, ob_88 P, ob_89 P, ob_90 P, ob_91 P, ob_92 P, ob_93 P, ob_94 P, ob_95 P, ob_96 P, ob_97 P, ob_98 P, ob_99 P, ob_100 P, ob_101 P, ob_102 P, ob_103 P, ob_104 P, ob_105 P, ob_106 P, ob_107 P, ob_108 P, ob_109 P, ob_110 P, ob_111 P, ob_112 P, ob_113 P, ob_114 P, ob_115 P, ob_116 P, ob_117 P, ob_118 P, ob_119 P, ob_120 P, ob_121 P, ob_122 P, ob_123 P, ob_124 P, ob_125 P, ob_126 P, ob_127 P, ob_128 P, ob_129 P, ob_130 P, ob_131 P, ob_132 P, ob_133 P, ob_134 P, ob_135 P, ob_136 P, ob_137 P, ob_138 P, ob_139 P, ob_140 P, ob_141 P, ob_142 P, ob_143 P, ob_144 P, ob_145 P, ob_146 P, ob_147 P, ob_148 P, ob_149 P, ob_150 P, ob_151 P, ob_152 P, ob_153 P, ob_154 P, ob_155 P, ob_156 P, ob_157 P, ob_158 P, ob_159 P, ob_160 P, ob_161 P, ob_162 P, ob_163 P, ob_164 P, ob_165 P, ob_166 P, ob_167 P, ob_168 P, ob_169 P, ob_170 P, ob_171 P, ob_172 P, ob_173 P, ob_174 P, ob_175 P, ob_176 P, ob_177 P, ob_178 P, ob_179 P, ob_180 P, ob_181 P, ob_182 P, ob_183 P, ob_184 P, ob_185 P, ob_186 P, ob_187 P, ob_188 P, ob_189 P, ob_190 P, ob_191 P, ob_192 P, ob_193 P, ob_194 P, ob_195 P, ob_196 P, ob_197 P, ob_198 P, ob_199 P, ob_200 P, ob_201 P, ob_202 P, ob_203 P, ob_204 P, ob_205 P, ob_206 P, ob_207 P, ob_208 P, ob_209 P, ob_210 P, ob_211 P, ob_212 P, ob_213 P, ob_214 P, ob_215 P, ob_216 P, ob_217 P, ob_218 P, ob_219 P, ob_220 P, ob_221 P, ob_222 P, ob_223 P, ob_224 P, ob_225 P, ob_226 P, ob_227 P, ob_228 P, ob_229 P, ob_230 P, ob_231 P, ob_232 P, ob_233 P, ob_234 P, ob_235 P, ob_236 P, ob_237 P, ob_238 P, ob_239 P, ob_240 P, ob_241 P, ob_242 P, ob_243 P, ob_244 P, ob_245 P, ob_246 P, ob_247 P, ob_248 P, ob_249 P, ob_250 P, ob_251 P, ob_252 P, ob_253 P, ob_254 P, ob_255 P, ob_256 P, ob_257 P, ob_258 P, ob_259 P, ob_260 P, ob_261 P, ob_262 P, ob_263 P, ob_264 P, ob_265 P, ob_266 P, ob_267 P, ob_268 P, ob_269 P, ob_270 P, ob_271 P, ob_272 P, ob_273 P, ob_274 P, ob_275 P, ob_276 P, ob_277 P, ob_278 P, ob_279 P, ob_280 P, ob_281 P, ob_282 P, ob_283 P, ob_284 P, ob_285 P, ob_286 P]⟩, {}⟩
noncomputable def tEnd (P : Params) : BT := (.node (boot_o_0 P) (.node (boot_o_1 P) (.node (ob_3 P) (.node (boot_o_7 P) (.node (ob_15 P) (.node (ob_31 P) (.node (ob_63 P) (.node (ob_127 P) (.node (ob_255 P) .nil .nil) .nil) (.node (ob_191 P) .nil .nil)) (.node (ob_95 P) (.node (ob_159 P) .nil .nil) (.node (ob_223 P) .nil .nil))) (.node (ob_47 P) (.node (ob_79 P) (.node (ob_143 P) (.node (ob_271 P) .nil .nil) .nil) (.node (ob_207 P) .nil .nil)) (.node (ob_111 P) (.node (ob_175 P) .nil .nil) (.node (ob_239 P) .nil .nil)))) (.node (ob_23 P) (.node (ob_39 P) (.node (ob_71 P) (.node (ob_135 P) (.node (ob_263 P) .nil .nil) .nil) (.node (ob_199 P) .nil .nil)) (.node (ob_103 P) (.node (ob_167 P) .nil .nil) (.node (ob_231 P) .nil .nil))) (.node (ob_55 P) (.node (ob_87 P) (.node (ob_151 P) (.node (ob_279 P) .nil .nil) .nil) (.node (ob_215 P) .nil .nil)) (.node (ob_119 P) (.node (ob_183 P) .nil .nil) (.node (ob_247 P) .nil .nil))))) (.node (ob_11 P) (.node (ob_19 P) (.node (ob_35 P) (.node (ob_67 P) (.node (ob_131 P) (.node (ob_259 P) .nil .nil) .nil) (.node (ob_195 P) .nil .nil)) (.node (ob_99 P) (.node (ob_163 P) .nil .nil) (.node (ob_227 P) .nil .nil))) (.node (ob_51 P) (.node (ob_83 P) (.node (ob_147 P) (.node (ob_275 P) .nil .nil) .nil) (.node (ob_211 P) .nil .nil)) (.node (ob_115 P) (.node (ob_179 P) .nil .nil) (.node (ob_243 P) .nil .nil)))) (.node (ob_27 P) (.node (ob_43 P) (.node (ob_75 P) (.node (ob_139 P) (.node (ob_267 P) .nil .nil) .nil) (.node (ob_203 P) .nil .nil)) (.node (ob_107 P) (.node (ob_171 P) .nil .nil) (.node (ob_235 P) .nil .nil))) (.node (ob_59 P) (.node (ob_91 P) (.node (ob_155 P) (.node (ob_283 P) .nil .nil) .nil) (.node (ob_219 P) .nil .nil)) (.node (ob_123 P) (.node (ob_187 P) .nil .nil) (.node (ob_251 P) .nil .nil)))))) (.node (boot_o_5 P) (.node (boot_o_9 P) (.node (ob_17 P) (.node (ob_33 P) (.node (ob_65 P) (.node (ob_129 P) (.node (ob_257 P) .nil .nil) .nil) (.node (ob_193 P) .nil .nil)) (.node (ob_97 P) (.node (ob_161 P) .nil .nil) (.node (ob_225 P) .nil .nil))) (.node (ob_49 P) (.node (ob_81 P) (.node (ob_145 P) (.node (ob_273 P) .nil .nil) .nil) (.node (ob_209 P) .nil .nil)) (.node (ob_113 P) (.node (ob_177 P) .nil .nil) (.node (ob_241 P) .nil .nil)))) (.node (ob_25 P) (.node (ob_41 P) (.node (ob_73 P) (.node (ob_137 P) (.node (ob_265 P) .nil .nil) .nil) (.node (ob_201 P) .nil .nil)) (.node (ob_105 P) (.node (ob_169 P) .nil .nil) (.node (ob_233 P) .nil .nil))) (.node (ob_57 P) (.node (ob_89 P) (.node (ob_153 P) (.node (ob_281 P) .nil .nil) .nil) (.node (ob_217 P) .nil .nil)) (.node (ob_121 P) (.node (ob_185 P) .nil .nil) (.node (ob_249 P) .nil .nil))))) (.node (ob_13 P) (.node (ob_21 P) (.node (ob_37 P) (.node (ob_69 P) (.node (ob_133 P) (.node (ob_261 P) .nil .nil) .nil) (.node (ob_197 P) .nil .nil)) (.node (ob_101 P) (.node (ob_165 P) .nil .nil) (.node (ob_229 P) .nil .nil))) (.node (ob_53 P) (.node (ob_85 P) (.node (ob_149 P) (.node (ob_277 P) .nil .nil) .nil) (.node (ob_213 P) .nil .nil)) (.node (ob_117 P) (.node (ob_181 P) .nil .nil) (.node (ob_245 P) .nil .nil)))) (.node (ob_29 P) (.node (ob_45 P) (.node (ob_77 P) (.node (ob_141 P) (.node (ob_269 P) .nil .nil) .nil) (.node (ob_205 P) .nil .nil)) (.node (ob_109 P) (.node (ob_173 P) .nil .nil) (.node (ob_237 P) .nil .nil))) (.node (ob_61 P) (.node (ob_93 P) (.node (ob_157 P) (.node (ob_285 P) .nil .nil) .nil) (.node (ob_221 P) .nil .nil)) (.node (ob_125 P) (.node (ob_189 P) .nil .nil) (.node (ob_253 P) .nil .nil))))))) (.node (boot_o_2 P) (.node (boot_o_4 P) (.node (boot_o_8 P) (.node (ob_16 P) (.node (ob_32 P) (.node (ob_64 P) (.node (ob_128 P) (.node (ob_256 P) .nil .nil) .nil) (.node (ob_192 P) .nil .nil)) (.node (ob_96 P) (.node (ob_160 P) .nil .nil) (.node (ob_224 P) .nil .nil))) (.node (ob_48 P) (.node (ob_80 P) (.node (ob_144 P) (.node (ob_272 P) .nil .nil) .nil) (.node (ob_208 P) .nil .nil)) (.node (ob_112 P) (.node (ob_176 P) .nil .nil) (.node (ob_240 P) .nil .nil)))) (.node (ob_24 P) (.node (ob_40 P) (.node (ob_72 P) (.node (ob_136 P) (.node (ob_264 P) .nil .nil) .nil) (.node (ob_200 P) .nil .nil)) (.node (ob_104 P) (.node (ob_168 P) .nil .nil) (.node (ob_232 P) .nil .nil))) (.node (ob_56 P) (.node (ob_88 P) (.node (ob_152 P) (.node (ob_280 P) .nil .nil) .nil) (.node (ob_216 P) .nil .nil)) (.node (ob_120 P) (.node (ob_184 P) .nil .nil) (.node (ob_248 P) .nil .nil))))) (.node (ob_12 P) (.node (ob_20 P) (.node (ob_36 P) (.node (ob_68 P) (.node (ob_132 P) (.node (ob_260 P) .nil .nil) .nil) (.node (ob_196 P) .nil .nil)) (.node (ob_100 P) (.node (ob_164 P) .nil .nil) (.node (ob_228 P) .nil .nil))) (.node (ob_52 P) (.node (ob_84 P) (.node (ob_148 P) (.node (ob_276 P) .nil .nil) .nil) (.node (ob_212 P) .nil .nil)) (.node (ob_116 P) (.node (ob_180 P) .nil .nil) (.node (ob_244 P) .nil .nil)))) (.node (ob_28 P) (.node (ob_44 P) (.node (ob_76 P) (.node (ob_140 P) (.node (ob_268 P) .nil .nil) .nil) (.node (ob_204 P) .nil .nil)) (.node (ob_108 P) (.node (ob_172 P) .nil .nil) (.node (ob_236 P) .nil .nil))) (.node (ob_60 P) (.node (ob_92 P) (.node (ob_156 P) (.node (ob_284 P) .nil .nil) .nil) (.node (ob_220 P) .nil .nil)) (.node (ob_124 P) (.node (ob_188 P) .nil .nil) (.node (ob_252 P) .nil .nil)))))) (.node (boot_o_6 P) (.node (boot_o_10 P) (.node (ob_18 P) (.node (ob_34 P) (.node (ob_66 P) (.node (ob_130 P) (.node (ob_258 P) .nil .nil) .nil) (.node (ob_194 P) .nil .nil)) (.node (ob_98 P) (.node (ob_162 P) .nil .nil) (.node (ob_226 P) .nil .nil))) (.node (ob_50 P) (.node (ob_82 P) (.node (ob_146 P) (.node (ob_274 P) .nil .nil) .nil) (.node (ob_210 P) .nil .nil)) (.node (ob_114 P) (.node (ob_178 P) .nil .nil) (.node (ob_242 P) .nil .nil)))) (.node (ob_26 P) (.node (ob_42 P) (.node (ob_74 P) (.node (ob_138 P) (.node (ob_266 P) .nil .nil) .nil) (.node (ob_202 P) .nil .nil)) (.node (ob_106 P) (.node (ob_170 P) .nil .nil) (.node (ob_234 P) .nil .nil))) (.node (ob_58 P) (.node (ob_90 P) (.node (ob_154 P) (.node (ob_282 P) .nil .nil) .nil) (.node (ob_218 P) .nil .nil)) (.node (ob_122 P) (.node (ob_186 P) .nil .nil) (.node (ob_250 P) .nil .nil))))) (.node (ob_14 P) (.node (ob_22 P) (.node (ob_38 P) (.node (ob_70 P) (.node (ob_134 P) (.node (ob_262 P) .nil .nil) .nil) (.node (ob_198 P) .nil .nil)) (.node (ob_102 P) (.node (ob_166 P) .nil .nil) (.node (ob_230 P) .nil .nil))) (.node (ob_54 P) (.node (ob_86 P) (.node (ob_150 P) (.node (ob_278 P) .nil .nil) .nil) (.node (ob_214 P) .nil .nil)) (.node (ob_118 P) (.node (ob_182 P) .nil .nil) (.node (ob_246 P) .nil .nil)))) (.node (ob_30 P) (.node (ob_46 P) (.node (ob_78 P) (.node (ob_142 P) (.node (ob_270 P) .nil .nil) .nil) (.node (ob_206 P) .nil .nil)) (.node (ob_110 P) (.node (ob_174 P) .nil .nil) (.node (ob_238 P) .nil .nil))) (.node (ob_62 P) (.node (ob_94 P) (.node (ob_158 P) (.node (ob_286 P) .nil .nil) .nil) (.node (ob_222 P) .nil .nil)) (.node (ob_126 P) (.node (ob_190 P) .nil .nil) (.node (ob_254 P) .nil .nil))))))))
end Hd
noncomputable def hd.heap_39 (P : Params) : Frag := [(2, boot_o_2 P), (3, Hd.ob_3 P), (22, Hd.ob_22 P), (24, Hd.ob_24 P), (25, Hd.ob_25 P), (27, Hd.ob_27 P), (28, Hd.ob_28 P), (29, Hd.ob_29 P), (30, Hd.ob_30 P), (31, Hd.ob_31 P), (32, Hd.ob_32 P), (33, Hd.ob_33 P), (43, Hd.ob_43 P), (45, Hd.ob_45 P), (46, Hd.ob_46 P), (48, Hd.ob_48 P), (49, Hd.ob_49 P), (50, Hd.ob_50 P), (51, Hd.ob_51 P), (52, Hd.ob_52 P), (53, Hd.ob_53 P), (54, Hd.ob_54 P), (64, Hd.ob_64 P), (66, Hd.ob_66 P), (67, Hd.ob_67 P), (69, Hd.ob_69 P), (70, Hd.ob_70 P), (71, Hd.ob_71 P), (72, Hd.ob_72 P), (73, Hd.ob_73 P), (74, Hd.ob_74 P), (75, Hd.ob_75 P), (78, Hd.ob_78 P), (80, Hd.ob_80 P), (81, Hd.ob_81 P), (83, Hd.ob_83 P), (84, Hd.ob_84 P), (85, Hd.ob_85 P), (87, Hd.ob_87 P), (88, Hd.ob_88 P), (90, Hd.ob_90 P), (91, Hd.ob_91 P), (92, Hd.ob_92 P), (94, Hd.ob_94 P), (95, Hd.ob_95 P), (97, Hd.ob_97 P), (98, Hd.ob_98 P), (99, Hd.ob_99 P), (100, Hd.ob_100 P), (102, Hd.ob_102 P), (103, Hd.ob_103 P), (105, Hd.ob_105 P), (106, Hd.ob_106 P), (107, Hd.ob_107 P), (109, Hd.ob_109 P), (110, Hd.ob_110 P), (112, Hd.ob_112 P), (113, Hd.ob_113 P), (114, Hd.ob_114 P), (116, Hd.ob_116 P), (117, Hd.ob_117 P), (119, Hd.ob_119 P), (120, Hd.ob_120 P), (121, Hd.ob_121 P), (123, Hd.ob_123 P), (124, Hd.ob_124 P), (126, Hd.ob_126 P), (127, Hd.ob_127 P), (128, Hd.ob_128 P), (130, Hd.ob_130 P), (131, Hd.ob_131 P), (133, Hd.ob_133 P), (134, Hd.ob_134 P), (135, Hd.ob_135 P), (137, Hd.ob_137 P), (138, Hd.ob_138 P), (140, Hd.ob_140 P), (141, Hd.ob_141 P), (142, Hd.ob_142 P), (144, Hd.ob_144 P), (145, Hd.ob_145 P), (147, Hd.ob_147 P), (148, Hd.ob_148 P), (149, Hd.ob_149 P), (151, Hd.ob_151 P), (152, Hd.ob_152 P), (154, Hd.ob_154 P), (155, Hd.ob_155 P), (156, Hd.ob_156 P), (158, Hd.ob_158 P), (159, Hd.ob_159 P), (161, Hd.ob_161 P), (162, Hd.ob_162 P), (163, Hd.ob_163 P), (165, Hd.ob_165 P), (166, Hd.ob_166 P), (168, Hd.ob_168 P), (169, Hd.ob_169 P), (170, Hd.ob_170 P), (172, Hd.ob_172 P), (173, Hd.ob_173 P), (175, Hd.ob_175 P), (176, Hd.ob_176 P), (177, Hd.ob_177 P), (179, Hd.ob_179 P), (180, Hd.ob_180 P), (182, Hd.ob_182 P), (183, Hd.ob_183 P), (184, Hd.ob_184 P), (186, Hd.ob_186 P), (187, Hd.ob_187 P), (189, Hd.ob_189 P), (190, Hd.ob_190 P), (191, Hd.ob_191 P), (193, Hd.ob_193 P), (194, Hd.ob_194 P), (196, Hd.ob_196 P), (197, Hd.ob_197 P), (198, Hd.ob_198 P), (200, Hd.ob_200 P), (201, Hd.ob_201 P), (203, Hd.ob_203 P), (204, Hd.ob_204 P), (205, Hd.ob_205 P), (207, Hd.ob_207 P), (208, Hd.ob_208 P), (210, Hd.ob_210 P), (211, Hd.ob_211 P), (212, Hd.ob_212 P), (214, Hd.ob_214 P), (215, Hd.ob_215 P), (217, Hd.ob_217 P), (218, Hd.ob_218 P), (219, Hd.ob_219 P), (221, Hd.ob_221 P), (222, Hd.ob_222 P), (224, Hd.ob_224 P), (225, Hd.ob_225 P), (226, Hd.ob_226 P), (228, Hd.ob_228 P), (229, Hd.ob_229 P), (231, Hd.ob_231 P), (232, Hd.ob_232 P), (233, Hd.ob_233 P), (236, Hd.ob_236 P), (237, Hd.ob_237 P), (238, Hd.ob_238 P), (241, Hd.ob_241 P), (242, Hd.ob_242 P), (243, Hd.ob_243 P), (246, Hd.ob_246 P), (247, Hd.ob_247 P), (248, Hd.ob_248 P), (251, Hd.ob_251 P), (252, Hd.ob_252 P), (253, Hd.ob_253 P), (256, Hd.ob_256 P), (257, Hd.ob_257 P), (258, Hd.ob_258 P), (260, Hd.ob_260 P), (261, Hd.ob_261 P), (263, Hd.ob_263 P), (264, Hd.ob_264 P), (265, Hd.ob_265 P), (268, Hd.ob_268 P), (269, Hd.ob_269 P), (270, Hd.ob_270 P), (272, Hd.ob_272 P), (273, Hd.ob_273 P), (275, Hd.ob_275 P), (276, Hd.ob_276 P), (277, Hd.ob_277 P), (280, Hd.ob_280 P), (281, Hd.ob_281 P), (282, Hd.ob_282 P), (285, Hd.ob_285 P), (286, Hd.ob_286 P)]
namespace Hd
noncomputable def envT : Env := { scope := PW.main.scope, locals := mainNs, globals := mainNs, cells := [], code := .ref 13, frame := some 14 }
noncomputable abbrev bE : List Stmt := behindTheImports PW
noncomputable abbrev cE : Code := .body bE envT
abbrev p0 : Pos := { line := 0, col := 0, endLine := 0, endCol := 0 }
abbrev p9 : Pos := { line := 289, col := 0, endLine := 313, endCol := 15 }
noncomputable abbrev sE (w : World) (os : OsState) : Shared := ⟨hEnd w.params, ⟨[]⟩, {}, 612, os⟩
theorem pre (w : World) : (fun os => topGo treeTable PW w 11 (some (.ref 6)) 12 ⟨boot_heap w.params, ⟨[]⟩, boot_drawn, boot_toks, os⟩ (topStub PW)) = fun os => some (⟨h46 w.params, ⟨[]⟩, {}, 187, os⟩, ⟨denote treeTable cE, cE, p0, [topFrame p0]⟩) := by
  rw [PySem.W.Fast.te15667345088766844465, PySem.W.Fast.te14364793385576792824, PySem.W.Fast.te11892475500146522536]
  kernel_rfl
theorem blk (w : World) : (fun os => segRun treeTable PW w 11 (some (.ref 6)) 1 1 ⟨h46 w.params, ⟨[]⟩, {}, 187, os⟩ (blockOf bE envT cE p0 [topFrame p0])) = fun os => some (.next, SharedT.abs ⟨t47 w.params, 15, {}, ⟨[]⟩, {}, 187, os⟩, cE, p0) := by
  rw [PySem.W.Fast.te14374325043358763698, PySem.W.Fast.te14364793385576792824]
  kernel_rfl
theorem mainF (w : World) : (fun os => segRunT treeTable PW (w.withFollow "special-get-raises" false) 11 (some (.ref 6)) 1 1800 ⟨t47 (w.withFollow "special-get-raises" false).params, 15, {}, ⟨[]⟩, {}, 187, os⟩ (piecesOf bE envT cE p0 [topFrame p0]))
   = fun os => some (.next, ⟨tEnd (w.withFollow "special-get-raises" false).params, 287, {}, ⟨[]⟩, {}, 612, os⟩, cE, p9) := by
  rw [PySem.W.Fast.te10110043849684766642, PySem.W.Fast.te14364793385576792824]
  kernel_rfl
theorem mainT (w : World) : (fun os => segRunT treeTable PW (w.withFollow "special-get-raises" true) 11 (some (.ref 6)) 1 1800 ⟨t47 (w.withFollow "special-get-raises" true).params, 15, {}, ⟨[]⟩, {}, 187, os⟩ (piecesOf bE envT cE p0 [topFrame p0]))
   = fun os => some (.next, ⟨tEnd (w.withFollow "special-get-raises" true).params, 287, {}, ⟨[]⟩, {}, 612, os⟩, cE, p9) := by
  rw [PySem.W.Fast.te10110043849684766642, PySem.W.Fast.te14364793385576792824]
  kernel_rfl
theorem main_ : ∀ w : World, (fun os => segRunT treeTable PW w 11 (some (.ref 6)) 1 1800 ⟨t47 w.params, 15, {}, ⟨[]⟩, {}, 187, os⟩ (piecesOf bE envT cE p0 [topFrame p0]))
   = fun os => some (.next, ⟨tEnd w.params, 287, {}, ⟨[]⟩, {}, 612, os⟩, cE, p9) := byRow2 "special-get-raises" mainF mainT
theorem fin_ (w : World) : (fun os => topRun treeTable PW w 11 (some (.ref 6)) 2 (SharedT.abs ⟨tEnd w.params, 287, {}, ⟨[]⟩, {}, 612, os⟩) (restOf [] envT cE p9 [topFrame p0])) = fun os => some (sE w os) := by
  rw [PySem.W.Fast.te14082659384304107361, PySem.W.Fast.te14364793385576792824]
  kernel_rfl
theorem run_ (w : World) (os : OsState) : topRun treeTable PW w 11 (some (.ref 6)) (12 + (1 + (1800 + 2))) ⟨boot_heap w.params, ⟨[]⟩, boot_drawn, boot_toks, os⟩ (topStub PW) = some (sE w os) := by
  refine go_top (congrFun (pre w) os) ?_
  refine piece_block (congrFun (blk w) os) ?_
  have e := piece_app (rest := []) (segRun_of (congrFun (main_ w) os)) (congrFun (fin_ w) os)
  rw [List.append_nil] at e
  exact e
theorem size_ (w : World) : ((boot_heap w.params).isNs mainGlobals && (⟨[]⟩ : Array GenState).size == 0, (boot_heap w.params).objs.size, (boot_heap w.params).nsMap mainGlobals "__annotations__") = (true, 11, some (.ref 6)) := by kernel_rfl
theorem open_ : ∀ w : World, (fencedOpening treeTable PW w 3684).map (fun s => (s.heap, s.gens, s.drawn, s.toks)) = some (boot_heap w.params, ⟨[]⟩, boot_drawn, boot_toks) :=
  boot_open (by kernel_rfl) (by decide) (fun s => by kernel_rfl)
theorem okLaw : PySem.Challenge.rw_nm0008_01.wellSaid = true := by kernel_rfl
noncomputable def vw : Program := view PW [1, 2, 3, 4, 6, 7, 9, 10, 11, 12, 13, 14, 15, 16, 17, 19, 20, 21, 22, 23, 24, 25, 26, 27, 28, 29, 30, 31, 32, 33, 34, 35, 36, 37, 38, 39, 40, 41]
noncomputable abbrev hk : Hook := kHook hd.heap_39 [2, 3, 22, 24, 25, 27, 28, 29, 30, 31, 32, 33, 43, 45, 46, 48, 49, 50, 51, 52, 53, 54, 64, 66, 67, 69, 70, 71, 72, 73, 74, 75, 78, 80, 81, 83, 84, 85, 87, 88, 90, 91, 92, 94, 95, 97, 98, 99, 100, 102, 103, 105, 106, 107, 109, 110, 112, 113, 114, 116, 117, 119, 120, 121, 123, 124, 126, 127, 128, 130, 131, 133, 134, 135, 137, 138, 140, 141, 142, 144, 145, 147, 148, 149, 151, 152, 154, 155, 156, 158, 159, 161, 162, 163, 165, 166, 168, 169, 170, 172, 173, 175, 176, 177, 179, 180, 182, 183, 184, 186, 187, 189, 190, 191, 193, 194, 196, 197, 198, 200, 201, 203, 204, 205, 207, 208, 210, 211, 212, 214, 215, 217, 218, 219, 221, 222, 224, 225, 226, 228, 229, 231, 232, 233, 236, 237, 238, 241, 242, 243, 246, 247, 248, 251, 252, 253, 256, 257, 258, 260, 261, 263, 264, 265, 268, 269, 270, 272, 273, 275, 276, 277, 280, 281, 282, 285, 286] (fun _ => by kernel_rfl)
noncomputable abbrev xt (s : Shared) : Bool := xlAt vw [] s && recOk (RowW.records PySem.Challenge.rw_nm0008_01.row.toRowW) s
theorem look1 (w : World) : (fun os => staticsOk (importedModules PW.main.body) (boot_heap w.params) (hEnd w.params) && namesBound PW (hEnd w.params) && gensDone (sE w os) && laidKept (boot_heap w.params) (hEnd w.params)) = fun _ => true := by kernel_rfl
theorem look2 (w : World) : (fun os => openSeen vw ["ADDRESSED"] (importedModules PW.main.body) xt true (sE w os)) = fun _ => openGood vw ["ADDRESSED"] := by
  rw [PySem.W.Fast.te4187177175401517315]
  kernel_rfl
theorem look3 (w : World) : (fun os => hk.obs (sE w os)) = fun _ => hk.val w := by kernel_rfl
theorem left_ : LeftO PW vw ["ADDRESSED"] xt hk.obs hk.val 3684 :=
  LeftO.of_pieces (H₁ := hEnd) (gs₁ := ⟨[]⟩) (d₁ := {}) (k₁ := 612) (M := 12 + (1 + (1800 + 2))) open_ size_ run_ (by decide) fun w => by
    funext os
    have e1 := congrFun (look1 w) os
    have e2 := congrFun (look2 w) os
    have e3 := congrFun (look3 w) os
    exact looks_pair e1 (looks_pair e2 e3)
end Hd
open Hd in
theorem hd (hc : WalkO vw ["ADDRESSED"] (XL vw []) hk.says PySem.Challenge.rw_nm0008_01.row.toRowW { name := "law", params := f41p, body := f41b, scope := f41s, pos := p9 } [] fun f vs => PySem.call f vs) : PySem.Challenge.rw_nm0008_01.Holds :=
  holds_law okLaw fun said => PySem.W.holds_open (q := vw) (loose := ["ADDRESSED"]) (Xt := xt) (XP := XL vw []) (Yf := hk.obs) (Ya := hk.val) (YP := hk.says) (N := 3684) left_ hk.of hk.keeps (fun s e => xl_of s (Bool.and_eq_true_iff.mp e).1) XL.keeps
    (by kernel_rfl) (by kernel_rfl) (by kernel_rfl) (fun s e => recFacts_of (Bool.and_eq_true_iff.mp e).2) rfl said (by decide +kernel) ⟨rfl, rfl, rfl, rfl, rfl, by decide +kernel⟩ (by w_witness2) hc
open PySem.Calls
structure Bs (w : World) (B : Heap) : Prop where
  X : (hd.heap_39 w.params).In B
  lim : B.NoLimit
  gl : ∃ mg mb, B.Ns mainGlobals mg ∧ B.Ns builtinsNs mb ∧ (∀ x v, nsIn (hd.heap_39 w.params) mainGlobals x = some (some v) → mg x = some v) ∧
    (∀ x, nsIn (hd.heap_39 w.params) mainGlobals x = some none → mg x = none) ∧ (∀ x v, bootBuiltins x = some v → x ≠ "__name__" → mb x = some v)
  sz : 1 < B.objs.size
structure Room (A : Around) (n : Nat) : Prop where
  d : A.depth + n < recursionLimit
  u : A.units + 3 * n + 100 < cLine
  hh : A.handled = none
theorem Room.deeper {A : Around} {n : Nat} (r : Room A (n + 1)) (e : Env) : Room (A.deeper e) n :=
  ⟨by have := r.d; show A.depth + 1 + n < _; lia, by have := r.u; show A.units + 3 + 3 * n + 100 < _; lia, r.hh⟩
theorem Room.less {A : Around} {n k : Nat} (r : Room A n) (h : k ≤ n) : Room A k := ⟨by have := r.d; lia, by have := r.u; lia, r.hh⟩
theorem Room.l {A : Around} {n k d : Nat} (r : Room A (n + d)) (h : k ≤ d := by decide) : Room A k := r.less (Nat.le_trans h (Nat.le_add_left d n))
theorem Room.dd {A : Around} {n : Nat} (r : Room A n) : A.depth < recursionLimit := by have := r.d; lia
def sh (s : Shared) (h : Heap) (t : Nat) : Shared := { s with heap := h, toks := t }
section
variable {w : World} {A : Around} {E : Value → Shared → Prop} {s : Shared} {h h' : Heap} {t : Nat} {K : Ent} {L : Addr} {m m' : Loc} {g : Frz} {Γ Γ' : List (Addr × Cell)} {env : Env}
theorem nm_l {x : Str} {pos : Pos} {v : Value} {Q : Value → Shared → Prop} (S : St w K L m g Γ h) (k : Lk m x v) (q : Q v (sh s h t))
    (hL : env.locals = L) (hx : env.kindOf x = some .local) (hk : env.scope.kind = .function := by rfl) (hd : (x == ("__debug__" : Str)) = false := by kernel_rfl) :
    wpAny (model PG w) A (eval (.Name x pos) env) Q E (sh s h t) := let ⟨_, n, z⟩ := S.ns; wpAny_Name (wpAny_loadName_local hk hx (hL ▸ n) (z _ _ k.lookup) q) hd
theorem st_l {x : Str} {v : Value} {Q : Unit → Shared → Prop} (S : St w K L m g Γ h) (k : FSet m x v m') (q : ∀ h' t', St w K L m' g Γ h' → Q () (sh s h' t'))
    (hL : env.locals = L) (hx : env.kindOf x = some .local) (hk : env.scope.kind = .function := by rfl) :
    wpAny (model PG w) A (storeName env x v) Q E (sh s h t) :=
  let ⟨_, n, z⟩ := S.ns
  wpAny_storeName_local hx (hL ▸ n) (fun h' hn hs => q h' _ (S.name ⟨_, (hL ▸ hn), fun y u e => by
    have e : (if y = x then some v else m.lookup y) = some u := (congrFun k y).trans e
    split
    · rename_i q; rw [if_pos q] at e; exact e
    · rename_i q; rw [if_neg q] at e; exact z y u e⟩ (hL ▸ hs)))
    (by rw [hk]; rfl)
theorem nm_g {x : Str} {pos : Pos} {v : Value} {Q : Value → Shared → Prop} (S : St w K L m g Γ h) (bs : Bs w K.B) (e : nsIn (hd.heap_39 w.params) mainGlobals x = some (some v)) (q : Q v (sh s h t))
    (hk : env.scope.kind = .function := by rfl) (hg : env.globals = mainGlobals := by rfl) (hx : env.kindOf x = some .globalImplicit := by kernel_rfl) (hd : (x == ("__debug__" : Str)) = false := by kernel_rfl) :
    wpAny (model PG w) A (eval (.Name x pos) env) Q E (sh s h t) :=
  let ⟨_, _, h1, _, h3, _⟩ := bs.gl
  Name_function_global hk hx (loadGlobal_global (hg ▸ h1.keeps S.base) (h3 _ _ e) q) hd
theorem nm_b {x : Str} {pos : Pos} {v : Value} {Q : Value → Shared → Prop} (S : St w K L m g Γ h) (bs : Bs w K.B) (e : nsIn (hd.heap_39 w.params) mainGlobals x = some none) (hv : bootBuiltins x = some v) (hn : x ≠ "__name__") (q : Q v (sh s h t))
    (hk : env.scope.kind = .function := by rfl) (hg : env.globals = mainGlobals := by rfl) (hb : env.builtins = builtinsNs := by rfl) (hx : env.kindOf x = some .globalImplicit := by kernel_rfl) (hd : (x == ("__debug__" : Str)) = false := by kernel_rfl) :
    wpAny (model PG w) A (eval (.Name x pos) env) Q E (sh s h t) :=
  let ⟨_, _, h1, h2, _, h4, h5⟩ := bs.gl
  Name_function_global hk hx (loadGlobal_builtin (hg ▸ h1.keeps S.base) (h4 _ e) (hb ▸ h2.keeps S.base) (h5 _ _ hv hn) q) hd
theorem St.enter {ΓD : List (Addr × Cell)} {h h₁ : Heap} {binds : Loc} (S : St w K L m g (ΓD ++ Γ) h) (hn : h₁.Ns h.objs.size fun y => binds.lookup y) (hk : ∀ b o, h.get? b = some o → h₁.get? b = some o) (hs : h.objs.size ≤ h₁.objs.size) :
    St w ⟨K.B, h, ΓD.map (·.1), g⟩ h.objs.size binds g ΓD h₁ where
  ns := .of hn
  base b o e := hk b o (S.base b o e)
  frz b o e := have z := S.frz b o e; ⟨hk b o z.1, Nat.ne_of_lt (Heap.lt_size z.1), fun y => z.2.2 (by rw [List.map_append]; exact List.mem_append_left _ y)⟩
  led p hp := (S.led p (List.mem_append_left _ hp)).mono hk
  off p hp := have z := S.off p (List.mem_append_left _ hp); ⟨Nat.ne_of_lt (S.led p (List.mem_append_left _ hp)).lt, z.2.1, .inl (List.mem_map_of_mem hp)⟩
  nd := by have := S.nd; rw [List.map_append] at this; exact (List.nodup_append.mp this).1
  keeps b o _ e := hk b o e
  lf := ⟨Nat.le_refl _, S.bsize⟩
  grow := hs
  gmono _ _ e := e
  gnew _ _ e := .inl e
  gB := S.gB
theorem St.back {ΓD ΓD' Λx Λ : List (Addr × Cell)} {h h' : Heap} {L' : Addr} {m' : Loc} {g' : Frz} (S : St w K L m g (ΓD ++ Γ) h) (S' : St w ⟨K.B, h, ΓD.map (·.1), g⟩ L' m' g' (ΓD' ++ (Λx ++ Λ)) h') (hD : ΓD'.map (·.1) = ΓD.map (·.1)) :
    St w K L m g' (ΓD' ++ (Λx ++ Γ)) h' := by
  have nd := S.nd
  rw [List.map_append] at nd
  obtain ⟨_, nd2, nd3⟩ := List.nodup_append.mp nd
  have Ln : L ∉ ΓD.map (·.1) := fun y => by
    obtain ⟨p, hp, e⟩ := List.mem_map.mp y
    exact (S.off p (List.mem_append_left _ hp)).1 e
  have Γn : ∀ p ∈ Γ, p.1 ∉ ΓD.map (·.1) := fun p hp y => nd3 _ y _ (List.mem_map_of_mem hp) rfl
  have xf : ∀ p ∈ Λx, h.objs.size ≤ p.1 := fun p hp => S'.freshL hD.symm (List.mem_append_left _ hp)
  have oldD : ∀ p ∈ ΓD', ∃ q ∈ ΓD, q.1 = p.1 := fun p hp => by
    have : p.1 ∈ ΓD.map (·.1) := hD ▸ List.mem_map_of_mem hp
    obtain ⟨q, hq, e⟩ := List.mem_map.mp this
    exact ⟨q, hq, e⟩
  have nd' := S'.nd
  rw [List.map_append, List.map_append] at nd'
  obtain ⟨nd4, nd5, nd6⟩ := List.nodup_append.mp nd'
  refine ⟨?_, S'.base, fun b o e => ⟨(S'.frz b o e).1, ?_, fun y => ?_⟩, fun p hp => ?_, fun p hp => ?_, ?_, fun b o hb e => ?_, S.lf, Nat.le_trans S.grow S'.grow, fun b o e => S'.gmono b o (S.gmono b o e), fun b o e => ?_, S'.gB⟩
  · exact S.ns.move fun o ho => S'.keeps _ _ Ln ho
  · rcases S'.gnew b o e with z | z
    · exact (S.frz b o z).2.1
    · exact fun q => Nat.lt_irrefl _ (Nat.lt_of_lt_of_le (q ▸ S.ns.lt) z)
  · obtain ⟨p, hp, q⟩ := List.mem_map.mp y
    rcases List.mem_append.mp hp with hp | hp
    · exact (S'.frz b o e).2.2 (List.mem_map.mpr ⟨p, List.mem_append_left _ hp, q⟩)
    · rcases List.mem_append.mp hp with hp | hp
      · exact (S'.frz b o e).2.2 (List.mem_map.mpr ⟨p, List.mem_append_right _ (List.mem_append_left _ hp), q⟩)
      · rcases S'.gnew b o e with z | z
        · exact (S.frz b o z).2.2 (List.mem_map.mpr ⟨p, List.mem_append_right _ hp, q⟩)
        · exact Nat.lt_irrefl _ (Nat.lt_of_lt_of_le (q ▸ (S.led p (List.mem_append_right _ hp)).lt) z)
  · rcases List.mem_append.mp hp with hp | hp
    · exact S'.led p (List.mem_append_left _ hp)
    · rcases List.mem_append.mp hp with hp | hp
      · exact S'.led p (List.mem_append_right _ (List.mem_append_left _ hp))
      · obtain ⟨o, e, r⟩ := S.led p (List.mem_append_right _ hp)
        exact ⟨o, S'.keeps _ _ (Γn p hp) e, r⟩
  · rcases List.mem_append.mp hp with hp | hp
    · obtain ⟨q, hq, e⟩ := oldD p hp
      rw [← e]; exact S.off q (List.mem_append_left _ hq)
    · rcases List.mem_append.mp hp with hp | hp
      · have z := xf p hp
        exact ⟨fun q => Nat.lt_irrefl _ (Nat.lt_of_lt_of_le S.ns.lt (q ▸ z)), Nat.le_trans S.bsize z, .inr (Nat.le_trans S.grow z)⟩
      · exact S.off p (List.mem_append_right _ hp)
  · rw [List.map_append, List.map_append]
    refine List.nodup_append.mpr ⟨nd4, List.nodup_append.mpr ⟨(List.nodup_append.mp nd5).1, nd2, fun a ha b hb q => ?_⟩, fun a ha b hb q => ?_⟩
    · obtain ⟨p, hp, e⟩ := List.mem_map.mp ha
      obtain ⟨p', hp', e'⟩ := List.mem_map.mp hb
      have := (S.led p' (List.mem_append_right _ hp')).lt
      exact Nat.lt_irrefl _ (Nat.lt_of_lt_of_le this (by rw [e', ← q, ← e]; exact xf p hp))
    · rcases List.mem_append.mp hb with hb | hb
      · exact nd6 _ ha _ (List.mem_append_left _ hb) q
      · exact nd3 _ (hD ▸ ha) _ hb q
  · refine S'.keeps b o (fun y => ?_) (S.keeps b o hb e)
    obtain ⟨p, hp, q⟩ := List.mem_map.mp y
    rcases (S.off p (List.mem_append_left _ hp)).2.2 with z | z
    · exact hb (q ▸ z)
    · exact Nat.lt_irrefl _ (Nat.lt_of_lt_of_le (Heap.lt_size e) (q ▸ z))
  · rcases S'.gnew b o e with z | z
    · exact S.gnew b o z
    · exact .inr (Nat.le_trans S.grow z)
def Rt (P : Value → Shared → Prop) (f : Flow) (s' : Shared) : Prop := P (match f with | .ret v => v | _ => .none) s'
theorem call_code {R : Result → Shared → Prop} {name qual : Str} {params : Arguments} {body : List Stmt} {scope : Scope} {dV kV doc pm cdv ct oc : Value} {an od : Option Addr} {osl : Array (Option Value)} {f : Addr} {args : List Value} {n : Nat}
    {Q : Value → Shared → Prop} (ΓD : List (Addr × Cell)) (m₀ : Loc) (S : St w K L m g (ΓD ++ Γ) h) (bs : Bs w K.B) (room : Room A (n + 1))
    (ho : (hd.heap_39 w.params).lookup f = some ⟨oc, od, .func (fnOf name qual params body scope dV kV doc pm an cdv ct), osl⟩) (hcd : codeIn (hd.heap_39 w.params) cdv qual = true)
    (hbind : bindArgs (fnOf name qual params body scope dV kV doc pm an cdv ct) ⟨args, []⟩ = pure m₀.reverse) (hloc : (m₀.all fun x => decide (scope.names.lookup x.1 = some .local)) = true)
    (q : ∀ L' h₁ tk A' K' P, K' = ⟨K.B, h, ΓD.map (·.1), g⟩ → Room A' n → (∀ {L'' : Addr} {m' : Loc} {g' : Frz} {ΓD' Λx Λ' : List (Addr × Cell)} {h' : Heap} {t' : Nat} {v : Value}, St w K' L'' m' g' (ΓD' ++ (Λx ++ Λ')) h' → (St w K L m g' (ΓD' ++ (Λx ++ Γ)) h' → Q v (sh s h' t')) → (hD : ΓD'.map (·.1) = ΓD.map (·.1) := by rfl) → P v (sh s h' t')) → St w K' L' m₀ g (ΓD ++ []) h₁ →
      wpAny (model PG w) A' (execs body (envOf qual scope L' f cdv)) (Rt P) (fun _ _ => False) (sh s h₁ tk))
    (hcell : ∀ x ∈ scope.names, x.2 ≠ .cell) (hco : scope.isCoroutine = false) (hgen : scope.isGenerator = false) (hk : scope.kind = .function) (hR : ∀ v s', Q v s' → R (.ok (.ret v)) s') : codeAny (model PG w) A (.call (.ref f) ⟨args, []⟩) R (sh s h t) := by
  have X := bs.X.keeps S.base
  refine codeAny_call_def (fd := fnOf name qual params body scope dV kV doc pm an cdv ct) (body := body) (binds := m₀.reverse) room.dd (X _ _ ho) rfl (bs.lim.keeps S.base) (codeRec_of X hcd) rfl (BindsTo.of_eq hbind) hcell (fun x hx => of_decide_eq_true (List.all_eq_true.mp hloc x (List.mem_reverse.mp hx))) (fun h₁ hns hk₁ => ?_) hco hgen hk
  have hs : h.objs.size ≤ h₁.objs.size := Nat.le_of_lt hns.lt
  rw [List.reverse_reverse] at hns
  exact wpAny_mono (q h.objs.size h₁ _ _ _ (fun v s' => R (.ok (.ret v)) s') rfl (room.deeper _) (fun S' k hD => hR _ _ (k (S.back S' hD))) ((List.append_nil ΓD).symm ▸ S.enter hns hk₁ hs)) (fun fl s' hl => hl) fun _ _ y => y.elim
theorem call_fn {name qual : Str} {params : Arguments} {body : List Stmt} {scope : Scope} {dV kV doc pm cdv ct oc : Value} {an od : Option Addr} {osl : Array (Option Value)} {f : Addr} {args : List Value} {n : Nat}
    {Q : Value → Shared → Prop} (ΓD : List (Addr × Cell)) (m₀ : Loc) (S : St w K L m g (ΓD ++ Γ) h) (bs : Bs w K.B) (room : Room A (n + 1))
    (ho : (hd.heap_39 w.params).lookup f = some ⟨oc, od, .func (fnOf name qual params body scope dV kV doc pm an cdv ct), osl⟩) (hcd : codeIn (hd.heap_39 w.params) cdv qual = true)
    (hbind : bindArgs (fnOf name qual params body scope dV kV doc pm an cdv ct) ⟨args, []⟩ = pure m₀.reverse) (hloc : (m₀.all fun x => decide (scope.names.lookup x.1 = some .local)) = true)
    (q : ∀ L' h₁ tk A' K' P, K' = ⟨K.B, h, ΓD.map (·.1), g⟩ → Room A' n → (∀ {L'' : Addr} {m' : Loc} {g' : Frz} {ΓD' Λx Λ' : List (Addr × Cell)} {h' : Heap} {t' : Nat} {v : Value}, St w K' L'' m' g' (ΓD' ++ (Λx ++ Λ')) h' → (St w K L m g' (ΓD' ++ (Λx ++ Γ)) h' → Q v (sh s h' t')) → (hD : ΓD'.map (·.1) = ΓD.map (·.1) := by rfl) → P v (sh s h' t')) → St w K' L' m₀ g (ΓD ++ []) h₁ →
      wpAny (model PG w) A' (execs body (envOf qual scope L' f cdv)) (Rt P) (fun _ _ => False) (sh s h₁ tk))
    (hcell : ∀ x ∈ scope.names, x.2 ≠ .cell) (hco : scope.isCoroutine = false) (hgen : scope.isGenerator = false) (hk : scope.kind = .function) : wpAny (model PG w) A (call (.ref f) args) Q E (sh s h t) :=
  wpAny_call (call_code (R := fun r s' => match r with | .ok (.ret v) => Q v s' | .ok _ => False | .error e => E e s') ΓD m₀ S bs room ho hcd hbind hloc q hcell hco hgen hk fun _ _ z => z)
end
theorem absG {P : Prop} (h : ∀ G : Prop, (P → G) → G) : P := h P id
theorem ite_b {c : Bool} {P Q : Prop} (h1 : c = true → P) (h2 : c = false → Q) : if c then P else Q := by cases c; exact h2 rfl; exact h1 rfl
theorem lkE_value : ∀ {l : List (Str × Value)} {x : Str} {v : Value}, lkE l x = some v → valueAt l x = some v
  | (y, u) :: r, x, v, e => by
    unfold lkE at e
    by_cases h : y = x
    · subst h
      rw [decide_eq_true rfl] at e
      cases e
      simp [PySem.valueAt]
    · rw [decide_eq_false h] at e
      have := lkE_value e
      simpa [PySem.valueAt, List.find?_cons, h] using this
theorem Lk.valueAt {l : Loc} {x : Str} {v : Value} (k : Lk l x v) : valueAt l x = some v := lkE_value k
theorem LSet.stored {l l' : Loc} {x : Str} {v : Value} (k : LSet l x v l') (nd : (l.map (·.1)).Nodup) : stored l x v = l' := by
  induction k with
  | nil => rfl
  | @here l x u v =>
    simp only [List.map_cons, List.nodup_cons] at nd
    have := map_store_of_not_mem l x v nd.1
    simp [PySem.stored, this]
  | @there l l' x y u v hn k ih =>
    have hne : ¬ y = x := fun e => by subst e; simp at hn
    simp only [List.map_cons, List.nodup_cons] at nd
    have := ih nd.2
    unfold PySem.stored at this ⊢
    simp only [List.any_cons, hne, decide_false, Bool.false_or, List.map_cons, if_false, List.cons_append]
    split <;> rename_i q
    · rw [if_pos q] at this; rw [this]
    · rw [if_neg q] at this; rw [this]
theorem At.dSnd {w : World} {h : Heap} {a : Addr} {kvs : List (Str × Value)} (c : At w h.get? a (.dS kvs)) : (kvs.map (·.1)).Nodup := let ⟨_, _, _, _, _, _, _, _, r⟩ := c; r
theorem At.dInd {w : World} {h : Heap} {a : Addr} {kvs : List (Int × Value)} (c : At w h.get? a (.dI kvs)) : (kvs.map (·.1)).Nodup := let ⟨_, _, _, _, _, _, _, _, r⟩ := c; r
section
variable {w : World} {A : Around} {E : Value → Shared → Prop} {s : Shared} {h h' : Heap} {t : Nat} {K : Ent} {L : Addr} {m m' : Loc} {g : Frz} {Γ Γ' ΓD Λ : List (Addr × Cell)} {env : Env} {value slice : Expr}
def Cnt (w : World) (A : Around) (rest : List Stmt) (env : Env) (Q : Flow → Shared → Prop) (E : Value → Shared → Prop) (f : Flow) (s' : Shared) : Prop :=
  match f with | .next => wpAny (model PG w) A (execs rest env) Q E s' | f => Q f s'
theorem ex_cons {st : Stmt} {rest : List Stmt} {Q : Flow → Shared → Prop} (h : wpAny (model PG w) A (exec st env) (Cnt w A rest env Q E) E s) : wpAny (model PG w) A (execs (st :: rest) env) Q E s :=
  wpAny_execs_cons (wpAny_mono h (fun f s' h' => by cases f <;> exact h') fun _ _ e => e)
theorem ex_nil {Q : Flow → Shared → Prop} (h : Q .next s) : wpAny (model PG w) A (execs [] env) Q E s := wpAny_execs_nil h
theorem cnt_next {rest : List Stmt} {Q : Flow → Shared → Prop} (h : wpAny (model PG w) A (execs rest env) Q E s) : Cnt w A rest env Q E .next s := h
theorem cnt_ret {rest : List Stmt} {Q : Flow → Shared → Prop} {v : Value} (h : Q (.ret v) s) : Cnt w A rest env Q E (.ret v) s := h
theorem cnt_cont {rest : List Stmt} {Q : Flow → Shared → Prop} (h : Q .cont s) : Cnt w A rest env Q E .cont s := h
theorem rt_ret {P : Value → Shared → Prop} {v : Value} (h : P v s) : Rt P (.ret v) s := h
theorem rt_next {P : Value → Shared → Prop} (h : P .none s) : Rt P .next s := h
theorem sub_tp {a : Addr} {vs : List Value} {k : Int} {u : Tok} {j : Nat} {x : Value} {Q : Value → Shared → Prop} (c : At w h.get? a (.tp vs)) (hj : seqIndex? k vs.length = some j) (hx : vs[j]? = some x) (q : Q x (sh s h t))
    (hlo : -(2 ^ 63) ≤ k := by decide) (hhi : k < 2 ^ 63 := by decide) (hs : subscripted slice false (.ref a) (.int k u) = operate [.ref a, .int k u] (getItem (.ref a) (.int k u)) := by with_unfolding_all rfl) :
    wpAny (model PG w) A (subscriptTail value slice (.ref a) (.int k u)) Q E (sh s h t) := item_tupleT c.tup hlo hhi hj hx q hs
theorem sub_ls {a : Addr} {vs : List Value} {k : Int} {u : Tok} {x : Value} {Q : Value → Shared → Prop} (c : At w h.get? a (.ls vs)) (h0 : 0 ≤ k) (hx : vs[k.toNat]? = some x) (q : Q x (sh s h t))
    (hhi : k < 2 ^ 63) (hs : subscripted slice false (.ref a) (.int k u) = operate [.ref a, .int k u] (getItem (.ref a) (.int k u)) := by with_unfolding_all rfl) :
    wpAny (model PG w) A (subscriptTail value slice (.ref a) (.int k u)) Q E (sh s h t) :=
  tail_any c.list.typeIs slot_list_getitem.lookup (wpAny_getItem_list c.list h0 hhi (by simpa using hx) q) hs
theorem sub_dI {a : Addr} {kvs : List (Int × Value)} {k : Int} {u : Tok} {x : Value} {Q : Value → Shared → Prop} (c : At w h.get? a (.dI kvs)) (hx : valueAt kvs k = some x) (q : Q x (sh s h (t + 1)))
    (hs : subscripted slice false (.ref a) (.int k u) = operate [.ref a, .int k u] (getItem (.ref a) (.int k u)) := by with_unfolding_all rfl) :
    wpAny (model PG w) A (subscriptTail value slice (.ref a) (.int k u)) Q E (sh s h t) :=
  tail_any c.dictI.typeIs slot_dict_getitem.lookup (wpAny_getItem_of (intKind_is PG w k u) c.dictI.mapOf hx q) hs
theorem sub_dS {a : Addr} {kvs : List (Str × Value)} {k : Str} {u : Tok} {x : Value} {Q : Value → Shared → Prop} (c : At w h.get? a (.dS kvs)) (hx : Lk kvs k x) (q : Q x (sh s h (t + 1)))
    (hs : subscripted slice false (.ref a) (.str k u) = operate [.ref a, .str k u] (getItem (.ref a) (.str k u)) := by with_unfolding_all rfl) :
    wpAny (model PG w) A (subscriptTail value slice (.ref a) (.str k u)) Q E (sh s h t) :=
  tail_any c.dictS.typeIs slot_dict_getitem.lookup (wpAny_getItem_of (strKind_is PG w k u) c.dictS.mapOf hx.valueAt q) hs
theorem set_ls {a : Addr} {vs : List Value} {k : Int} {u : Tok} {v : Value} {Q : Unit → Shared → Prop} (S : St w K L m g Γ h) (up : Upd a (.ls vs) (.ls (vs.set k.toNat v)) Γ Γ') (h0 : 0 ≤ k) (hn : k < vs.length) (q : ∀ h', St w K L m g Γ' h' → Q () (sh s h' t))
    (hhi : k < 2 ^ 63) : wpAny (model PG w) A (setItem (.ref a) (.int k u) v) Q E (sh s h t) :=
  wpAny_setItem_list (S.rd up.old).list h0 hhi (by simpa using hn) fun h' hl hs => q h' (S.upd up hs (At.ofList (by simpa using hl)))
theorem set_dI {a : Addr} {kvs : List (Int × Value)} {k : Int} {u : Tok} {v : Value} {Q : Unit → Shared → Prop} (S : St w K L m g Γ h) (up : Upd a (.dI kvs) (.dI (stored kvs k v)) Γ Γ') (hz : kvs.length ≤ sizeLine)
    (q : ∀ h', St w K L m g Γ' h' → Q () (sh s h' (t + 1))) : wpAny (model PG w) A (setItem (.ref a) (.int k u) v) Q E (sh s h t) :=
  wpAny_setItem_pairs (intKind_is PG w k u) (S.rd up.old).dictI (fun h' hl hs => q h' (S.upd up hs (At.ofDictI hl))) hz
theorem set_dS {a : Addr} {kvs kvs' : List (Str × Value)} {k : Str} {u : Tok} {v : Value} {Q : Unit → Shared → Prop} (S : St w K L m g Γ h) (up : Upd a (.dS kvs) (.dS kvs') Γ Γ') (ks : LSet kvs k v kvs') (hz : kvs.length ≤ sizeLine)
    (q : ∀ h', St w K L m g Γ' h' → Q () (sh s h' (t + 1))) : wpAny (model PG w) A (setItem (.ref a) (.str k u) v) Q E (sh s h t) :=
  wpAny_setItem_pairs (strKind_is PG w k u) (S.rd up.old).dictS (fun h' hl hs => q h' (S.upd up hs (At.ofDictS (ks.stored (S.rd up.old).dSnd ▸ hl)))) hz
theorem new_tp {vs : List Value} {Q : Value → Shared → Prop} (S : St w K L m g (ΓD ++ Λ) h) (q : ∀ a h', St w K L m g (ΓD ++ (a, .tp vs) :: Λ) h' → Q (.ref a) (sh s h' t)) (hsz : vs.length ≤ sizeLine := by size_fits) :
    wpAny (model PG w) A (newTuple vs) Q E (sh s h t) := wpAny_newObj_type (q _ _ (S.pushL ⟨rfl, 0, rfl⟩ rfl)) (by show vs.toArray.size ≤ sizeLine; rw [List.size_toArray]; exact hsz)
theorem new_ls {vs : List Value} {Q : Value → Shared → Prop} (S : St w K L m g (ΓD ++ Λ) h) (q : ∀ a h', St w K L m g (ΓD ++ (a, .lx vs) :: Λ) h' → Q (.ref a) (sh s h' t)) (hsz : vs.length ≤ sizeLine := by size_fits) :
    wpAny (model PG w) A (newList vs) Q E (sh s h t) := wpAny_newObj_type (q _ _ (S.pushL ⟨0, rfl⟩ rfl)) (by show vs.toArray.size ≤ sizeLine; rw [List.size_toArray]; exact hsz)
theorem ev_tuple {elts : List Expr} {k : Nat} {pos : Pos} {Q : Value → Shared → Prop}
    (q : wpAny (model PG w) A (spliced (backTo pos (starEach elts env))) (fun vs s₁ => wpAny (model PG w) A (newTuple vs) Q E s₁) E (sh s h t)) : wpAny (model PG w) A (eval (.Tuple elts k pos) env) Q E (sh s h t) := Tuple_ q
theorem ev_list {elts : List Expr} {pos : Pos} {Q : Value → Shared → Prop}
    (q : wpAny (model PG w) A (spliced (backTo pos (starEach elts env))) (fun vs s₁ => wpAny (model PG w) A (newList vs) Q E s₁) E (sh s h t)) : wpAny (model PG w) A (eval (.List elts pos) env) Q E (sh s h t) := List_ q
theorem unpack_tp {elts : List Expr} {k : Nat} {pos : Pos} {a : Addr} {vs : List Value} {Q : Unit → Shared → Prop} (S : St w K L m g Γ h) (c : At w h.get? a (.tp vs)) (hh : A.handled = none)
    (hn : (assignEach elts env).length = vs.length) (hstar : (assignEach elts env).findIdx? (·.1) = none)
    (q : ∀ h', St w K L m g Γ h' → wpAny (model PG w) A (assignInOrder ((assignEach elts env).map (·.2)) vs) Q E (sh s h' t)) : wpAny (model PG w) A (assign (.Tuple elts k pos) env (.ref a)) Q E (sh s h t) :=
  assign_Tuple_tuple hh c.tup (by simpa using hn) hstar fun h' he => by rw [List.toList_toArray]; exact q h' (S.extBut he (Nat.le_refl _))
theorem unpack_it {a : Addr} {vs : List Value} {n : Nat} {Q : List Value → Shared → Prop} (S : St w K L m g Γ h) (c : At w h.get? a (.tp vs)) (hh : A.handled = none) (hn : n = vs.length)
    (q : ∀ h', St w K L m g Γ h' → Q vs (sh s h' t)) : wpAny (model PG w) A (unpackItems (.ref a) n none) Q E (sh s h t) := by
  subst hn
  have := @unpackItems_tuple PG w A E (sh s h t) a vs.toArray Q hh c.tup fun h' he => by rw [List.toList_toArray]; exact q h' (S.extBut he (Nat.le_refl _))
  rw [List.size_toArray] at this
  exact this
theorem unpE {a : Addr} {vs : List Value} {n : Nat} {Q : List Value → Shared → Prop} (S : St w K L m g (ΓD ++ (a, .tp vs) :: Λ) h) (hh : A.handled = none) (hn : n = vs.length)
    (q : ∀ h', St w K L m g (ΓD ++ Λ) h' → Q vs (sh s h' t)) : wpAny (model PG w) A (unpackItems (.ref a) n none) Q E (sh s h t) :=
  unpack_it S (S.rd (List.mem_append_right _ (List.Mem.head _))) hh hn fun h' S => q h' S.drop
theorem len_ls {a : Addr} {vs : List Value} {Q : Value → Shared → Prop} (c : At w h.get? a (.ls vs)) (hz : vs.length < 2 ^ 63) (q : Q (.int vs.length (t + 1)) (sh s h (t + 1 + 1))) :
    wpAny (model PG w) A (call (.builtin "len") [.ref a]) Q E (sh s h t) := call_len_list c.list (by simp; lia) (by rw [List.size_toArray]; exact q)
theorem call_def_node {x : Str} {p pos : Pos} {e : Expr} {rest : List Expr} {f : Addr} {Q : Value → Shared → Prop} (S : St w K L m g Γ h) (bs : Bs w K.B)
    (hx : nsIn (hd.heap_39 w.params) mainGlobals x = some (some (.ref f))) (hf : keepIn (hd.heap_39 w.params) (.ref f) = true)
    (q : wpAny (model PG w) A (spliced (backTo pos (starEach (e :: rest) env))) (fun vs s₁ => (∀ b o, K.B.get? b = some o → s₁.heap.get? b = some o) ∧ wpAny (model PG w) A (call (.ref f) vs) Q E s₁) E (sh s h t))
    (hk : env.scope.kind = .function := by rfl) (hg : env.globals = mainGlobals := by rfl) (hxk : env.kindOf x = some .globalImplicit := by kernel_rfl) (hd : (x == ("__debug__" : Str)) = false := by kernel_rfl)
    (he : starEach (e :: rest) env = (false, eval e env) :: starEach rest env := by rfl) (hplain : (backTo pos (starEach rest env)).any (·.1) = false := by rfl) :
    wpAny (model PG w) A (eval (.Call (.Name x p) (e :: rest) [] pos) env) Q E (sh s h t) :=
  Call_Name rfl (nm_g S bs hx (callWith_K (h₀ := K.B) bs.X hf (wpAny_mono q (fun _ s₁ h₁ => ⟨bs.X.keeps h₁.1, h₁.2⟩) fun _ _ x => x) he hplain) hk hg hxk hd)
theorem call_def_node0 {x : Str} {p pos : Pos} {f : Addr} {Q : Value → Shared → Prop} (S : St w K L m g Γ h) (bs : Bs w K.B)
    (hx : nsIn (hd.heap_39 w.params) mainGlobals x = some (some (.ref f))) (hf : keepIn (hd.heap_39 w.params) (.ref f) = true)
    (q : wpAny (model PG w) A (call (.ref f) []) Q E (sh s h t))
    (hk : env.scope.kind = .function := by rfl) (hg : env.globals = mainGlobals := by rfl) (hxk : env.kindOf x = some .globalImplicit := by kernel_rfl) (hd : (x == ("__debug__" : Str)) = false := by kernel_rfl) :
    wpAny (model PG w) A (eval (.Call (.Name x p) [] [] pos) env) Q E (sh s h t) :=
  Call_Name rfl (nm_g S bs hx (callWith_K0 (bs.X.keeps S.base) hf q) hk hg hxk hd)
theorem call_bi_node {x : Str} {p pos : Pos} {e : Expr} {rest : List Expr} {id : String} {Q : Value → Shared → Prop} (S : St w K L m g Γ h) (bs : Bs w K.B)
    (hx : nsIn (hd.heap_39 w.params) mainGlobals x = some none) (hv : bootBuiltins x = some (.builtin id)) (hn : x ≠ "__name__")
    (q : wpAny (model PG w) A (spliced (backTo pos (starEach (e :: rest) env))) (fun vs s₁ => wpAny (model PG w) A (call (.builtin id) vs) Q E s₁) E (sh s h t))
    (hk : env.scope.kind = .function := by rfl) (hg : env.globals = mainGlobals := by rfl) (hb : env.builtins = builtinsNs := by rfl) (hxk : env.kindOf x = some .globalImplicit := by kernel_rfl) (hd : (x == ("__debug__" : Str)) = false := by kernel_rfl)
    (he : starEach (e :: rest) env = (false, eval e env) :: starEach rest env := by rfl) (hplain : (backTo pos (starEach rest env)).any (·.1) = false := by rfl) :
    wpAny (model PG w) A (eval (.Call (.Name x p) (e :: rest) [] pos) env) Q E (sh s h t) :=
  Call_Name rfl (nm_b S bs hx hv hn (callWith_builtin1 q he hplain) hk hg hb hxk hd)
theorem call_ty_node {x : Str} {p pos : Pos} {e : Expr} {rest : List Expr} {id : String} {Q : Value → Shared → Prop} (S : St w K L m g Γ h) (bs : Bs w K.B)
    (hx : nsIn (hd.heap_39 w.params) mainGlobals x = some none) (hv : bootBuiltins x = some (.type id)) (hn : x ≠ "__name__")
    (q : wpAny (model PG w) A (spliced (backTo pos (starEach (e :: rest) env))) (fun vs s₁ => wpAny (model PG w) A (call (.type id) vs) Q E s₁) E (sh s h t))
    (hk : env.scope.kind = .function := by rfl) (hg : env.globals = mainGlobals := by rfl) (hb : env.builtins = builtinsNs := by rfl) (hxk : env.kindOf x = some .globalImplicit := by kernel_rfl) (hd : (x == ("__debug__" : Str)) = false := by kernel_rfl)
    (he : starEach (e :: rest) env = (false, eval e env) :: starEach rest env := by rfl) (hplain : (backTo pos (starEach rest env)).any (·.1) = false := by rfl) :
    wpAny (model PG w) A (eval (.Call (.Name x p) (e :: rest) [] pos) env) Q E (sh s h t) :=
  Call_Name rfl (nm_b S bs hx hv hn (PyProof.Rows.callWith_type1 q he hplain) hk hg hb hxk hd)
end
theorem ite_t {P Q : Prop} (h : P) : if (true = true) then P else Q := h
theorem ite_f {P Q : Prop} (h : Q) : if (false = true) then P else Q := h
section
variable {w : World} {A : Around} {E : Value → Shared → Prop} {s : Shared} {h h' : Heap} {t : Nat} {K : Ent} {L : Addr} {m m' : Loc} {g : Frz} {Γ Γ' ΓD Λ : List (Addr × Cell)} {env : Env} {a b : Int} {ta tb : Tok}
theorem k_int {i : Int} {k : Nat} {pos : Pos} {Q : Value → Shared → Prop} (q : Q (.int i t) (sh s h (t + 1))) : wpAny (model PG w) A (eval (.Constant (.int i) k pos) env) Q E (sh s h t) := wpAny_Constant_int q
theorem k_str {x : Str} {k : Nat} {pos : Pos} {Q : Value → Shared → Prop} (q : Q (.str x t) (sh s h (t + 1))) : wpAny (model PG w) A (eval (.Constant (.str x) k pos) env) Q E (sh s h t) := wpAny_Constant_str q
theorem i_add {Q : Value → Shared → Prop} (q : Q (.int (a + b) t) (sh s h (t + 1))) : wpAny (model PG w) A (binaryOp .Add (.int a ta) (.int b tb)) Q E (sh s h t) := P.add_int q
theorem i_sub {Q : Value → Shared → Prop} (q : Q (.int (a - b) t) (sh s h (t + 1))) : wpAny (model PG w) A (binaryOp .Sub (.int a ta) (.int b tb)) Q E (sh s h t) := P.sub_int q
theorem i_mul {Q : Value → Shared → Prop} (q : Q (.int (a * b) t) (sh s h (t + 1))) (hm : IntMulOk a b := by first | exact IntMulOk.of_right (by decide +kernel) | exact IntMulOk.of_left (by decide +kernel)) : wpAny (model PG w) A (binaryOp .Mult (.int a ta) (.int b tb)) Q E (sh s h t) := P.mul_int q hm
theorem i_mod {Q : Value → Shared → Prop} (hb : 0 < b) (q : Q (.int (a % b) t) (sh s h (t + 1))) : wpAny (model PG w) A (binaryOp .Mod (.int a ta) (.int b tb)) Q E (sh s h t) :=
  mod_int' (by lia) (by rw [Int.fmod_eq_emod_of_nonneg a (by lia)]; exact q)
theorem i_fdiv {Q : Value → Shared → Prop} (hb : 0 < b) (q : Q (.int (a / b) t) (sh s h (t + 1))) (hs : b < 1073741824 := by lia) : wpAny (model PG w) A (binaryOp .FloorDiv (.int a ta) (.int b tb)) Q E (sh s h t) :=
  floordiv_int (by lia) (by rw [Int.fdiv_eq_ediv_of_nonneg a (by lia)]; exact q) (.inl (PyProof.noPylong_small (by lia)))
theorem sub_ints {c : Addr} {vs : List Value} {k : Int} {u : Tok} {P : Int → Prop} {value slice : Expr} {Q : Value → Shared → Prop} (at_ : At w h.get? c (.ls vs)) (hP : ∀ v ∈ vs, ∃ i t, v = .int i t ∧ P i) (h0 : 0 ≤ k) (hlt : k < vs.length) (hhi : k < 2 ^ 63)
    (q : ∀ i t', P i → Q (.int i t') (sh s h t)) (hs : subscripted slice false (.ref c) (.int k u) = operate [.ref c, .int k u] (getItem (.ref c) (.int k u)) := by with_unfolding_all rfl) :
    wpAny (model PG w) A (subscriptTail value slice (.ref c) (.int k u)) Q E (sh s h t) := by
  have hk : k.toNat < vs.length := by lia
  obtain ⟨i, t', e, hp⟩ := hP _ (List.getElem_mem hk)
  exact sub_ls at_ h0 (by rw [List.getElem?_eq_getElem hk, e]) (q i t' hp) hhi hs
end
section
variable {w : World} {A : Around} {E : Value → Shared → Prop} {s : Shared} {h h' : Heap} {t : Nat} {K : Ent} {L : Addr} {m m' : Loc} {g : Frz} {Γ Γ' ΓD Λ : List (Addr × Cell)} {env : Env}
theorem isStr_fun (name : Str) : (fun e : DictEntry => (strKind PG w).is name e.key) = fun e => e.key.isStr name := funext fun e => (isStr_of name e.key).symm
theorem At.inst {x d C : Addr} {kvs : List (Str × Value)} (c : At w h.get? x (.ins C d)) (e : At w h.get? d (.dS kvs)) :
    ∃ ox es n, InstAt h x ox C (some (dictOf es n)) ∧ ox.dict = some d ∧ h.get? d = some (dictOf es n) ∧ KeysOf (strKind PG w) es.toArray ∧ Pairs (strKind PG w) es kvs ∧ (kvs.map (·.1)).Nodup := by
  obtain ⟨ox, e1, h1, h2, h3⟩ := c
  obtain ⟨⟨oc, od, oda, osl⟩, e2, es, n, ⟨q1, q2, q3⟩, hd, k1, k2, k3⟩ := e
  dsimp only at q1 q2 q3 hd
  subst q1 q2 q3 hd
  obtain ⟨es⟩ := es
  exact ⟨ox, es, n, ⟨e1, h1, h3, by rw [h2]; exact e2⟩, h2, e2, k1, k2, k3⟩
theorem getL_of {name : Str} {v : Value} {es : List DictEntry} {kvs : List (Str × Value)} (p : Pairs (strKind PG w) es kvs) (k : valueAt kvs name = some v) : getL name es = some (some v) := by
  have := p.find name
  rw [isStr_fun, k] at this
  unfold getL
  cases q : es.find? fun e => e.key.isStr name with
  | none => rw [q] at this; cases this
  | some e => rw [q] at this; cases this; rfl
theorem get_at {x d C : Addr} {kvs : List (Str × Value)} {name : Str} {v : Value} {attr : Option Value} {Q : Value → Shared → Prop} (S : St w K L m g Γ h) (bs : Bs w K.B) (c : At w h.get? x (.ins C d)) (e : At w h.get? d (.dS kvs))
    (hg : plainGet (hd.heap_39 w.params) C name = true) (hh : hasDictIn (hd.heap_39 w.params) C = true) (ha : findIn (hd.heap_39 w.params) (.ref C) name = some attr) (hn : noGet (hd.heap_39 w.params) attr = true)
    (k : Lk kvs name v) (hv : handedIn v = true) (q : Q v (sh s h (t + 1))) : wpAny (model PG w) A (getAttr (.ref x) name true) Q E (sh s h t) := by
  obtain ⟨ox, es, n, I, _, _, k1, k2, _⟩ := c.inst e
  obtain ⟨_, F⟩ := S.fr
  exact get_own (s := sh s h t) F bs.X I hg hh ha hn (getL_of k2 k.valueAt) hv q
theorem pairs_put {name : Str} {v : Value} {tk : Tok} {kvs kvs' : List (Str × Value)} (u : LSet kvs name v kvs') : ∀ {es : List DictEntry}, Pairs (strKind PG w) es kvs → Pairs (strKind PG w) (putL name (hashStr w name) (.str name tk) v es) kvs' := by
  induction u with
  | @nil x v =>
    intro es p
    cases p
    exact Pairs.cons (strKind_is PG w x tk) rfl .nil
  | @here l x u v =>
    intro es p
    cases p with
    | @cons e kv es kvs h1 h2 p =>
      have : e.key.isStr x = true := by rw [isStr_of]; exact h1
      unfold putL
      rw [if_pos this]
      exact Pairs.cons h1 rfl p
  | @there l l' x y u v hn k ih =>
    intro es p
    cases p with
    | @cons e kv es kvs h1 h2 p =>
      have : ¬ e.key.isStr x = true := fun z => by
        rw [isStr_of] at z
        have := (strKind PG w).inj _ _ _ h1 z
        subst this; simp at hn
      unfold putL
      rw [if_neg this]
      exact Pairs.cons h1 h2 (ih p)
theorem keys_put {name : Str} {v : Value} {tk : Tok} : ∀ {es : List DictEntry}, KeysOf (strKind PG w) es.toArray → KeysOf (strKind PG w) (putL name (hashStr w name) (.str name tk) v es).toArray
  | [], _ => fun e he => by
    simp only [putL, List.mem_toArray, List.mem_singleton] at he
    subst he
    exact ⟨name, strKind_is PG w name tk, rfl⟩
  | e :: r, k => by
    have k2 : KeysOf (strKind PG w) r.toArray := fun x hx => k x (by simp only [List.mem_toArray, List.mem_cons] at hx ⊢; exact .inr hx)
    have k1 := k e (by simp)
    unfold putL
    split
    · intro x hx
      simp only [List.mem_toArray, List.mem_cons] at hx
      rcases hx with rfl | hx
      · exact k1
      · exact k2 x (by simpa using hx)
    · intro x hx
      simp only [List.mem_toArray, List.mem_cons] at hx
      rcases hx with rfl | hx
      · exact k1
      · exact keys_put (tk := tk) (v := v) (name := name) k2 x (by simpa using hx)
theorem putL_len (name : Str) (hs : Int) (key v : Value) : ∀ es : List DictEntry, (putL name hs key v es).length ≤ es.length + 1
  | [] => Nat.le_refl _
  | e :: r => by unfold putL; split; simp; simpa using putL_len name hs key v r
theorem LSet.nodup {kvs kvs' : Loc} {x : Str} {v : Value} (u : LSet kvs x v kvs') (nd : (kvs.map (·.1)).Nodup) : (kvs'.map (·.1)).Nodup := by
  have := u.stored nd
  subst this
  unfold PySem.stored
  split
  · rw [keys_map_store]; exact nd
  · rename_i q
    rw [List.map_append, List.nodup_append]
    refine ⟨nd, by simp, fun a ha b hb e => ?_⟩
    simp only [List.map_cons, List.map_nil, List.mem_singleton] at hb
    subst hb e
    obtain ⟨kv, hkv, e⟩ := List.mem_map.mp ha
    exact q (List.any_eq_true.mpr ⟨kv, hkv, by simpa using e⟩)
theorem set_at {x d C : Addr} {kvs kvs' : List (Str × Value)} {name : Str} {v : Value} {Q : Unit → Shared → Prop} (S : St w K L m g Γ h) (bs : Bs w K.B) (c : At w h.get? x (.ins C d)) (u : Upd d (.dS kvs) (.dS kvs') Γ Γ') (k : LSet kvs name v kvs')
    (hs : findIn (hd.heap_39 w.params) (.ref C) "__setattr__" = some (some (.builtin "object.__setattr__"))) (hp : plainOver (hd.heap_39 w.params) C = true) (ht : takerIn (hd.heap_39 w.params) C name = some none) (hh : hasDictIn (hd.heap_39 w.params) C = true)
    (hz : kvs.length ≤ 500) (q : ∀ h' t', St w K L m g Γ' h' → Q () (sh s h' t')) : wpAny (model PG w) A (setAttr (.ref x) name v) Q E (sh s h t) := by
  have X := bs.X.keeps S.base
  obtain ⟨ox, es, n, I, hd1, hd2, k1, k2, k3⟩ := c.inst (S.rd u.old)
  have hes : es.length = kvs.length := k2.length
  refine set_plain (s := sh s h t) X I hs (osa_open (s := sh s h (t + 1)) X I hp ht fun b => ?_)
  obtain ⟨cd, hc, hd'⟩ := any_some hh
  have I' := I
  obtain ⟨hx, hcl, hn, -⟩ := I
  obtain ⟨oc, odi, oda, osl⟩ := ox
  dsimp only at hcl hd1
  subst hcl hd1
  refine wpAny_bind (wpAny_pure (wpAny_bind (wpAny_bind (wpAny_loadPart (s := sh s h (t + 1)) hx (wpAny_bind ((looks_clsIn X hc).here ?_))))))
  rw [hd']
  refine wpAny_pure (a := some d) (wpAny_bind (wpAny_pure (wpAny_bind ?_)))
  unfold nsSet
  refine wpAny_bind (wpAny_bind (wpAny_askSetting (wpAny_pure (wpAny_bind (wpAny_mkText (wpAny_bind (wpAny_loadPart (o := dictOf es n) hd2 ?_)))))))
  dsimp only [dictOf]
  have nr : es.any (·.refKey) = false := by
    rw [List.any_eq_false]
    intro e he
    obtain ⟨y, hy, _⟩ := k1 e (by simpa using he)
    obtain ⟨t, ht⟩ := Value.isStrOf_shape hy
    simp [DictEntry.refKey, ht]
  have c2 : (!es.toArray.any (·.key.isStr name) && es.toArray.any (·.refKey)) = false := by
    rw [← Array.any_toList, ← Array.any_toList, nr, Bool.and_false]
  rw [aRefKeyMayBeTheName_at, c2]
  have pn := putName_dict name (PyData.keyHash w.params name) (.str name (t + 1)) v es n
  have D' : (h.update d (Obj.putName name (PyData.keyHash w.params name) (.str name (t + 1)) v)).get? d = some (dictOf (putL name (PyData.keyHash w.params name) (.str name (t + 1)) v es) (putN name es n)) := by
    rw [← pn]
    exact Heap.get?_update_self _ hd2 (by rw [pn]; rfl)
  refine wpAny_updatePart (o := dictOf es n) hd2 ?_
  refine wpAny_bind (wpAny_lookBehind D' (pastItsLine_dict (by rw [List.size_toArray, sizeLine_eq]; have := putL_len name (PyData.keyHash w.params name) (.str name (t + 1)) v es; lia)) ?_)
  exact wpAny_pure (q _ _ (S.upd u (Heap.SameBut.update ..) ⟨_, D', _, _, ⟨rfl, rfl, rfl⟩, rfl, keys_put k1, pairs_put k k2, k.nodup k3⟩))
end
def lsIter (l : Addr) (i : Nat) : Cell := .an fun o => o.cls = .type "list_iterator" ∧ o.data = .fields #[.ref l, .int i 0]
def tpIter (l : Addr) (i : Nat) : Cell := .an fun o => o.cls = .type "tuple_iterator" ∧ o.data = .fields #[.ref l, .int i 0]
def rgIter (x left step : Int) : Cell := .an fun o => o = { cls := .type "range_iterator", dict := none, data := .fields #[rawInt x, rawInt left, rawInt step], slots := #[] }
def kyIter (d : Addr) (i n ep : Nat) : Cell := .an fun o => o.cls = .type "dict_keyiterator" ∧ o.data = .fields #[.ref d, .int i 0, .int n 0, .int ep 0]
def rgObj (a b c : Int) : Cell := .an fun o => ∃ t u v, o = { cls := .type "range", dict := none, data := .fields #[.int a t, .int b u, .int c v], slots := #[] }
def dIe (w : World) (kvs : List (Int × Value)) (ep : Nat) : Cell := .an fun o => ∃ es, o.ExactDict ∧ o.data = .dict es ep ∧ KeysOf (intKind PG w) es ∧ Pairs (intKind PG w) es.toList kvs ∧ (kvs.map (·.1)).Nodup
structure Src (w : World) (A : Around) (it : Addr) (n : Nat) (P : Nat → Value → Prop) (Ic : Nat → Cell) (Ok : Heap → Prop) : Prop where
  item : ∀ {i : Nat} {s : Shared} {h : Heap} {t : Nat} {Q : Option Value → Shared → Prop} {E : Value → Shared → Prop}, i < n → At w h.get? it (Ic i) → Ok h →
    (∀ v h' t', P i v → At w h'.get? it (Ic (i + 1)) → Heap.ExtBut it h h' → Q (some v) (sh s h' t')) → wpAny (model PG w) A (pyNext (.ref it)) Q E (sh s h t)
  done : ∀ {s : Shared} {h : Heap} {t : Nat} {Q : Option Value → Shared → Prop} {E : Value → Shared → Prop}, At w h.get? it (Ic n) → Ok h →
    (∀ h' t', Heap.ExtBut it h h' → Q none (sh s h' t')) → wpAny (model PG w) A (pyNext (.ref it)) Q E (sh s h t)
  go : ∀ {i : Nat} {elts : List Expr} {k : Nat} {pos : Pos} {v : Value} {s : Shared} {h : Heap} {t : Nat} {Q : Unit → Shared → Prop} {E : Value → Shared → Prop} {j : Nat}, At w h.get? it (Ic i) → P j v → (∃ T, v = .ref T) → Q () (sh s h t) →
    wpAny (model PG w) A (letOwnedTupleGo (.Tuple elts k pos) (.ref it) v) Q E (sh s h t)
  self : ∀ {i : Nat} {s : Shared} {h : Heap} {t : Nat} {Q : Value → Shared → Prop} {E : Value → Shared → Prop}, At w h.get? it (Ic i) → Q (.ref it) (sh s h t) → wpAny (model PG w) A (pyIter (.ref it)) Q E (sh s h t)
section
variable {w : World} {A : Around} {E : Value → Shared → Prop} {s : Shared} {h h' : Heap} {t : Nat} {K : Ent} {L : Addr} {m m' : Loc} {g : Frz} {Γ Γ' ΓD Λ : List (Addr × Cell)} {env : Env}
theorem src_ls (hh : A.handled = none) (it l : Addr) (vs : List Value) : Src w A it vs.length (fun i v => vs[i]? = some v) (fun i => lsIter l i) (fun h => At w h.get? l (.ls vs)) where
  item := fun {i s h t Q E} hi hit hl q => by
    refine wpAny_pyNext_list_item (s := sh s h t) hit hl.list (x := vs[i]) (by simp [hi]) fun h' hit' hs => ?_
    exact q _ h' t (by simp [hi]) hit' hs.extBut
  done := fun {s h t Q E} hit hl q => wpAny_pyNext_list_end (s := sh s h t) hh hit hl.list (by simp) fun h' he => q h' t he
  go := fun hit _ hv q => by obtain ⟨T, rfl⟩ := hv; exact wpAny_letOwnedTupleGo_listiter hit q
  self := fun hit q => wpAny_pyIter_listiter hit q
theorem iter_ls {l : Addr} {vs : List Value} {Q : Value → Shared → Prop} (S : St w K L m g (ΓD ++ Λ) h) (c : At w h.get? l (.ls vs)) (q : ∀ it h', St w K L m g (ΓD ++ (it, lsIter l 0) :: Λ) h' → Q (.ref it) (sh s h' t)) :
    wpAny (model PG w) A (pyIter (.ref l)) Q E (sh s h t) :=
  wpAny_pyIter_list (s := sh s h t) c.list (q _ _ (S.pushL (c := lsIter l 0) ⟨rfl, rfl⟩ rfl))
structure LpK (w : World) (K : Ent) (L it : Addr) (c : Cell) (J : Loc → Frz → List (Addr × Cell) → List (Addr × Cell) → Prop) (s : Shared) (Q P : Flow → Shared → Prop) : Prop where
  next : ∀ {m g ΓD Λ h t}, St w K L m g (ΓD ++ (it, c) :: Λ) h → J m g ΓD Λ → P .next (sh s h t)
  cont : ∀ {m g ΓD Λ h t}, St w K L m g (ΓD ++ (it, c) :: Λ) h → J m g ΓD Λ → P .cont (sh s h t)
  ret : ∀ {v s₂}, Q (.ret v) s₂ → P (.ret v) s₂
theorem lp_ret {it : Addr} {c : Cell} {J : Loc → Frz → List (Addr × Cell) → List (Addr × Cell) → Prop} {Q P : Flow → Shared → Prop} {v : Value} {s₂ : Shared} (X : LpK w K L it c J s Q P) (q : Q (.ret v) s₂) : P (.ret v) s₂ := X.ret q
def ForR (w : World) (A : Around) (env : Env) (Q : Flow → Shared → Prop) (E : Value → Shared → Prop) : Result → Shared → Prop := fun r s' => match r with | .ok f => Q f s' | .error e => cameBackBy (model PG w) A env E e s'
theorem for_ex {target iter : Expr} {body : List Stmt} {pos : Pos} {Q : Flow → Shared → Prop}
    (q : wpAny (model PG w) A (eval iter env) (fun x s₁ => wpAny (model PG w) A (pyIter x) (fun it s₂ => codeAny (model PG w) A (.forLoop target it body [] env) (ForR w A env Q E) s₂) E s₁) E s)
    (hs : ∀ x, foldedSetIterable iter env x = pure x) : wpAny (model PG w) A (exec (.For target iter body [] pos) env) Q E s := wpAny_For q hs
theorem for_go {target : Expr} {body : List Stmt} {it : Addr} {n : Nat} {P : Nat → Value → Prop} {Ic : Nat → Cell} {Ok : Heap → Prop} {Q : Flow → Shared → Prop}
    (J : Nat → Loc → Frz → List (Addr × Cell) → List (Addr × Cell) → Prop) (sr : Src w A it n P Ic Ok) (S : St w K L m g (ΓD ++ (it, Ic 0) :: Λ) h) (j0 : J 0 m g ΓD Λ)
    (ok : ∀ i m g ΓD Λ h, J i m g ΓD Λ → St w K L m g (ΓD ++ (it, Ic i) :: Λ) h → Ok h)
    (hg : (∃ x p, target = .Name x p) ∨ (∃ elts k p, target = .Tuple elts k p ∧ ∀ i v, P i v → ∃ T, v = .ref T))
    (step : ∀ i v m g ΓD Λ h t P', i < n → P i v → J i m g ΓD Λ → LpK w K L it (Ic (i + 1)) (J (i + 1)) s Q P' → St w K L m g (ΓD ++ (it, Ic (i + 1)) :: Λ) h →
      wpAny (model PG w) A (assign target env v) (fun _ s₁ => wpAny (model PG w) A (execs body env) P' (fun _ _ => False) s₁) (fun _ _ => False) (sh s h t))
    (done : ∀ m g ΓD Λ h t, J n m g ΓD Λ → St w K L m g (ΓD ++ Λ) h → Q .next (sh s h t)) :
    codeAny (model PG w) A (.forLoop target (.ref it) body [] env) (ForR w A env Q E) (sh s h t) := by
  refine codeAny_forLoop_any (fun k s' => ∀ R : Shared → Prop, (∀ i m g ΓD Λ h t, i + k = n → J i m g ΓD Λ → St w K L m g (ΓD ++ (it, Ic i) :: Λ) h → R (sh s h t)) → R s') (fun k s' hI => ?_) n fun R r => r 0 m g ΓD Λ h t (Nat.zero_add n) j0 S
  refine hI _ fun i m g ΓD Λ h t hi j S => ?_
  have hat := S.rd (List.mem_append_right _ (List.Mem.head _))
  by_cases hk : k = 0
  · subst hk
    obtain rfl : i = n := by lia
    refine sr.done hat (ok _ _ _ _ _ _ j S) fun h' t' he => ?_
    exact wpAny_execs_nil (done _ _ _ _ _ _ j (S.forget he))
  · refine sr.item (by lia) hat (ok _ _ _ _ _ _ j S) fun v h' t' hv hat' he => ?_
    have S' := S.updE (Upd.right Upd.here) he hat'
    have go : ∀ {Q' : Unit → Shared → Prop} {E' : Value → Shared → Prop}, Q' () (sh s h' t') → wpAny (model PG w) A (letOwnedTupleGo target (.ref it) v) Q' E' (sh s h' t') := fun {Q' E'} q => by
      rcases hg with ⟨x, p, rfl⟩ | ⟨elts, k, p, rfl, ht⟩
      · exact wpAny_pure q
      · exact sr.go hat' hv (ht _ _ hv) q
    refine go (wpAny_mono (step i v m g ΓD Λ h' t' _ (by lia) hv j ⟨fun S j => ?_, fun S j => ?_, fun q => ?_⟩ S') (fun _ s₁ q => wpAny_mono q (fun f s₂ q => q) fun _ _ e => e.elim) fun _ _ e => e.elim)
    · exact ⟨k - 1, by lia, fun R r => r (i + 1) _ _ _ _ _ _ (by lia) j S⟩
    · exact ⟨k - 1, by lia, fun R r => r (i + 1) _ _ _ _ _ _ (by lia) j S⟩
    · exact q
theorem src_rg (hh : A.handled = none) (it : Addr) (a c : Int) (n : Nat) : Src w A it n (fun i v => ∃ t, v = .int (a + i * c) t) (fun i => rgIter (a + (i : Nat) * c) ((n : Int) - (i : Nat)) c) (fun _ => True) where
  item := fun {i s h t Q E} hi hit _ q => by
    obtain ⟨o, e, rfl⟩ := hit
    refine wpAny_pyNext_range_item (s := sh s h t) (x := a + (i : Nat) * c) (left := (n : Int) - (i : Nat)) (step := c) e (by lia) fun h' hit' hs => ?_
    refine q _ h' _ ⟨_, rfl⟩ ⟨_, hit', ?_⟩ hs.extBut
    have e1 : a + ((i + 1 : Nat) : Int) * c = a + (i : Int) * c + c := by push_cast; rw [Int.add_mul, Int.one_mul, Int.add_assoc]
    have e2 : (n : Int) - ((i + 1 : Nat) : Int) = (n : Int) - (i : Int) - 1 := by push_cast; lia
    show _ = _
    rw [e1, e2]
  done := fun {s h t Q E} hit _ q => by
    obtain ⟨o, e, rfl⟩ := hit
    exact wpAny_pyNext_range_end (s := sh s h t) hh e (by lia) fun h' he => q h' t he
  go := fun _ hp hv _ => by obtain ⟨T, rfl⟩ := hv; obtain ⟨_, e⟩ := hp; cases e
  self := fun hit q => by obtain ⟨o, e, rfl⟩ := hit; exact wpAny_pyIter_rangeiter e q
theorem rng1 {n : Int} {tn : Tok} {Q : Value → Shared → Prop} (S : St w K L m g (ΓD ++ Λ) h) (q : ∀ a h' t', St w K L m g (ΓD ++ (a, rgObj 0 n 1) :: Λ) h' → Q (.ref a) (sh s h' t')) :
    wpAny (model PG w) A (call (.type "range") [.int n tn]) Q E (sh s h t) := call_range_1 (q _ _ _ (S.pushL (c := rgObj 0 n 1) ⟨_, _, _, rfl⟩ rfl))
theorem rng3 {a b c : Int} {ta tb tc : Tok} {Q : Value → Shared → Prop} (hc : c ≠ 0) (hs : c.natAbs < 1073741824) (S : St w K L m g (ΓD ++ Λ) h) (q : ∀ r h' t', St w K L m g (ΓD ++ (r, rgObj a b c) :: Λ) h' → Q (.ref r) (sh s h' t')) :
    wpAny (model PG w) A (call (.type "range") [.int a ta, .int b tb, .int c tc]) Q E (sh s h t) :=
  call_range_3 hc (q _ _ _ (S.pushL (c := rgObj a b c) ⟨_, _, _, rfl⟩ rfl)) (.inl (PyProof.noPylong_small hs))
theorem iter_rg {r : Addr} {a b c : Int} {n : Nat} {Q : Value → Shared → Prop} (S : St w K L m g (ΓD ++ Λ) h) (x : At w h.get? r (rgObj a b c)) (hn : Builtin.Range.rangeSize a b c = (n : Int)) (hs : Builtin.Range.small a b c = true)
    (q : ∀ it h', St w K L m g (ΓD ++ (it, rgIter (a + (0 : Nat) * c) ((n : Int) - (0 : Nat)) c) :: Λ) h' → Q (.ref it) (sh s h' t)) : wpAny (model PG w) A (pyIter (.ref r)) Q E (sh s h t) := by
  obtain ⟨o, e, ta, tb, tc, rfl⟩ := x
  refine wpAny_pyIter_range (s := sh s h t) e hs (q _ _ (S.pushL (c := rgIter (a + (0 : Nat) * c) ((n : Int) - (0 : Nat)) c) ?_ rfl))
  show _ = _
  rw [hn]; simp
theorem range_n {n : Int} (h : 0 ≤ n) : Builtin.Range.rangeSize 0 n 1 = (n.toNat : Int) := by
  rw [show Builtin.Range.rangeSize 0 n 1 = if (0 : Int) < n then n - 0 else 0 from rangeSize_one 0 n]
  split <;> lia
theorem src_ky (hh : A.handled = none) (it d : Addr) (hne : d ≠ it) (kvs : List (Int × Value)) (ep : Nat) : Src w A it kvs.length (fun i v => ∃ k x t, kvs[i]? = some (k, x) ∧ v = .int k t) (fun i => kyIter d i kvs.length ep) (fun h => At w h.get? d (dIe w kvs ep)) where
  item := fun {i s h t Q E} hi hit hd q => by
    obtain ⟨o, ho, es, r⟩ := hd
    obtain ⟨⟨k, x⟩, hx⟩ : ∃ p, kvs[i]? = some p := ⟨kvs[i], by simp [hi]⟩
    refine wpAny_pyNext_dict_item (knd := intKind PG w) (s := sh s h t) hit ⟨o, es, ho, r⟩ hx fun key h' hkey hit' hs => ?_
    obtain ⟨tk, rfl⟩ := Value.isInt_shape hkey
    exact q _ h' t ⟨k, x, tk, hx, rfl⟩ hit' hs.extBut
  done := fun {s h t Q E} hit hd q => by
    obtain ⟨o, ho, es, r⟩ := hd
    exact wpAny_pyNext_dict_end (knd := intKind PG w) (s := sh s h t) hh hit ⟨o, es, ho, r⟩ (by simp) fun h' he => q h' t he
  go := fun _ hp hv _ => by obtain ⟨T, rfl⟩ := hv; obtain ⟨_, _, _, _, e⟩ := hp; cases e
  self := fun hit q => wpAny_pyIter_keyiter hit q
theorem At.dIe {d : Addr} {kvs : List (Int × Value)} (c : At w g d (.dI kvs)) : ∃ ep, At w g d (dIe w kvs ep) := let ⟨o, e, es, ep, r⟩ := c; ⟨ep, o, e, es, r⟩
theorem iter_dI {d : Addr} {kvs : List (Int × Value)} {ep : Nat} {Q : Value → Shared → Prop} (S : St w K L m g (ΓD ++ Λ) h) (x : At w h.get? d (dIe w kvs ep)) (hd : (d == sysModules) = false)
    (q : ∀ it h', d ≠ it → St w K L m g (ΓD ++ (it, kyIter d 0 kvs.length ep) :: Λ) h' → Q (.ref it) (sh s h' t)) : wpAny (model PG w) A (pyIter (.ref d)) Q E (sh s h t) := by
  have hlt := x.lt
  obtain ⟨o, ho, es, r⟩ := x
  exact wpAny_pyIter_dict (knd := intKind PG w) (s := sh s h t) hd ⟨o, es, ho, r⟩ (q _ _ (Nat.ne_of_lt hlt) (S.pushL (c := kyIter d 0 kvs.length ep) ⟨rfl, rfl⟩ rfl))
theorem St.notSys {a : Addr} {c : Cell} (S : St w K L m g Γ h) (bs : Bs w K.B) (e : (a, c) ∈ Γ) : (a == sysModules) = false := by
  have h1 := (S.off _ e).2.1
  have h2 := bs.sz
  dsimp only at h1
  have h3 : (1 : Nat) < a := Nat.lt_of_lt_of_le h2 h1
  exact beq_eq_false_iff_ne.mpr (Nat.ne_of_gt h3)
theorem St.notSysG {a : Addr} {c : Cell} (S : St w K L m g Γ h) (bs : Bs w K.B) (e : At w g a c) : (a == sysModules) = false := by
  obtain ⟨o, e, _⟩ := e
  have h1 := S.gB a o e
  have h2 := bs.sz
  have h3 : (1 : Nat) < a := Nat.lt_of_lt_of_le h2 h1
  exact beq_eq_false_iff_ne.mpr (Nat.ne_of_gt h3)
theorem app_lx {l : Addr} {vs : List Value} {x : Value} {Q : Value → Shared → Prop} (S : St w K L m g Γ h) (u : Upd l (.lx vs) (.lx (vs ++ [x])) Γ Γ') (hz : vs.length ≤ sizeLine) (q : ∀ h', St w K L m g Γ' h' → Q .none (sh s h' t)) :
    wpAny (model PG w) A (call (.builtin "list.append") [.ref l, x]) Q E (sh s h t) := by
  obtain ⟨o, ho, n, rfl⟩ := S.rd u.old
  refine wpAny_call_entry slot_list_append ⟨_, ho, rfl⟩ entry_list_append ?_ (args_list_append _ _)
  show wpAny _ _ (updateSeq l (·.push x) >>= fun _ => ret .none) _ _ _
  refine wpAny_bind ?_
  refine wpAny_updateSeq (s := sh s h t) ho rfl (wpAny_pure ⟨.none, rfl, q _ (S.upd u (Heap.SameBut.update ..) ?_)⟩) (by simpa using hz) (by simp; lia)
  refine ⟨_, Heap.get?_update_self _ ho rfl, ?_⟩
  have e : vs.toArray.push x = (vs ++ [x]).toArray := by rw [List.push_toArray]
  exact ⟨_, by rw [← e]; rfl⟩
def CmpU (w : World) (A : Around) (E : Value → Shared → Prop) (elt target iter : Expr) (ifs : List Expr) (scope : Scope) (pos : Pos) (cl : List (Str × Addr)) (env : Env) (use : Option (Value → Sem Unit)) (Q : Value → Shared → Prop) (it acc : Value) (s₃ : Shared) : Prop :=
  wpAny (model PG w) A (newFunctionEnv scope env.globals cl [] env.qual none .none (some env)) (fun cenv s₄ =>
    codeAny (model PG w) A (.compStart (.ListComp elt [⟨target, iter, ifs, 0⟩] scope pos) 0 it acc { cenv with scope := relabel scope env }) (compPost (model PG w) A E use Q acc cenv.locals) s₄) E s₃
theorem comp_ex {elt target iter : Expr} {ifs : List Expr} {scope : Scope} {pos : Pos} {cl : List (Str × Addr)} {Q : Value → Shared → Prop}
    (q : wpAny (model PG w) A (eval iter env) (fun x s₁ => wpAny (model PG w) A (pyIter x) (fun it s₂ => wpAny (model PG w) A (newList []) (fun acc s₃ => CmpU w A E elt target iter ifs scope pos cl env none Q it acc s₃) E s₂) E s₁) E s)
    (hs : ∀ x, foldedSetIterable iter env x = pure x) (hclos : closureFor scope env = pure cl) (hkind : scope.kind = .function) (hnames : ∀ x ∈ scope.names, x.2 = .local → scope.names.lookup x.1 = some .local) :
    wpAny (model PG w) A (eval (.ListComp elt [⟨target, iter, ifs, 0⟩] scope pos) env) Q E s :=
  wpAny_comprehension_free (e := .ListComp elt [⟨target, iter, ifs, 0⟩] scope pos) rfl hs hclos hkind hnames q
theorem comp_core {use : Option (Value → Sem Unit)} {elt target iter : Expr} {ifs : List Expr} {scope : Scope} {pos : Pos} {cl : List (Str × Addr)} {it ac : Addr} {n : Nat} {P : Nat → Value → Prop} {Ic : Nat → Cell} {Ok : Heap → Prop} {Q : Value → Shared → Prop}
    (J : Nat → List Value → Frz → List (Addr × Cell) → List (Addr × Cell) → Prop) (sr : Src w A it n P Ic Ok) (S : St w K L m g (ΓD ++ (ac, .lx []) :: (it, Ic 0) :: Λ) h) (hn : n ≤ 1000) (j0 : J 0 [] g ΓD [])
    (ok : ∀ K2 C i vs g₁ ΓD₁ N h₁, J i vs g₁ ΓD₁ N → g.le g₁ → St w K2 C [] g₁ ((ΓD₁ ++ (ac, .lx vs) :: (it, Ic i) :: Λ) ++ N) h₁ → Ok h₁)
    (keys : ∀ i vs g₁ ΓD₁ N, J i vs g₁ ΓD₁ N → ΓD₁.map (·.1) = ΓD.map (·.1) ∧ vs.length ≤ i)
    (ht : ∀ v, letOwnedTupleGo target (.ref it) v = pure ())
    (step : ∀ K2 C i v vs g₁ ΓD₁ N h₁ t₁ (PE : Value → Shared → Prop) (PF : Shared → Prop), K2 = ⟨K.B, h, (ΓD ++ (ac, .lx []) :: (it, Ic 0) :: Λ).map (·.1), g⟩ → i < n → P i v → J i vs g₁ ΓD₁ N →
      (∀ x m g₂ ΓD₂ N₂ h₂ t₂, St w K2 C m g₂ ((ΓD₂ ++ (ac, .lx vs) :: (it, Ic (i + 1)) :: Λ) ++ N₂) h₂ → J (i + 1) (vs ++ [x]) g₂ ΓD₂ N₂ → PE x (sh s h₂ t₂)) →
      (∀ m g₂ ΓD₂ N₂ h₂ t₂, St w K2 C m g₂ ((ΓD₂ ++ (ac, .lx vs) :: (it, Ic (i + 1)) :: Λ) ++ N₂) h₂ → J (i + 1) vs g₂ ΓD₂ N₂ → PF (sh s h₂ t₂)) →
      St w K2 C [] g₁ ((ΓD₁ ++ (ac, .lx vs) :: (it, Ic (i + 1)) :: Λ) ++ N) h₁ →
      wpAny (model PG w) A (assign target (compEnvC scope cl C env) v) (fun _ s₂ =>
        wpAny (model PG w) A (forIn ifs true fun c r => if r = true then do let ok ← isTrue c (compEnvC scope cl C env) (eval c (compEnvC scope cl C env)); pure (ForInStep.yield ok) else pure (ForInStep.yield r)) (fun ok s₃ =>
          if ok = true then wpAny (model PG w) A (eval elt (compEnvC scope cl C env)) PE (fun _ _ => False) s₃ else PF s₃) (fun _ _ => False) s₂) (fun _ _ => False) (sh s h₁ t₁))
    (post : ∀ vs g₁ ΓD₁ N h₂ t₂ f fl, J n vs g₁ ΓD₁ N → g.le g₁ → h₂.Ns h.objs.size f → St w K L m g₁ (ΓD₁ ++ (ac, .lx vs) :: (Λ ++ N)) h₂ → h.objs.size ≠ L → h.objs.size ∉ (ΓD₁ ++ (ac, Cell.lx vs) :: (Λ ++ N)).map (fun p => p.1) → g₁ h.objs.size = none →
      compPost (model PG w) A E use Q (.ref ac) h.objs.size (.ok fl) (sh s h₂ t₂))
    (hcell : ∀ x ∈ scope.names, x.2 ≠ .cell) (hk : scope.kind = .function) :
    CmpU w A E elt target iter ifs scope pos cl env use Q (.ref it) (.ref ac) (sh s h t) := by
  refine wpAny_newFunctionEnv (s := sh s h t) hcell (fun x hx => nomatch hx) (fun h' hns hsb => ?_) hk
  have hold : ∀ b o, h.get? b = some o → h'.get? b = some o := fun b o e => hsb.extBut b o (Nat.ne_of_lt (Heap.lt_size e)) (Heap.get?_push_of_some _ e)
  obtain ⟨K2, hK⟩ : ∃ K2 : Ent, K2 = ⟨K.B, h, (ΓD ++ (ac, .lx []) :: (it, Ic 0) :: Λ).map (·.1), g⟩ := ⟨_, rfl⟩
  have Sc : St w K2 h.objs.size [] g (ΓD ++ (ac, .lx []) :: (it, Ic 0) :: Λ) h' := by
    rw [hK]; exact St.enter (Γ := []) (by rw [List.append_nil]; exact S) hns hold (Nat.le_of_lt hns.lt)
  show codeAny (model PG w) A (.compStart (.ListComp elt [⟨target, iter, ifs, 0⟩] scope pos) 0 (.ref it) (.ref ac) (compEnvC scope cl h.objs.size env)) (compPost (model PG w) A E use Q (.ref ac) h.objs.size) _
  have loop : ∀ t', codeAny (model PG w) A (.compLoop (.ListComp elt [⟨target, iter, ifs, 0⟩] scope pos) 0 (.ref it) (.ref ac) (compEnvC scope cl h.objs.size env)) (compPost (model PG w) A E use Q (.ref ac) h.objs.size) (sh s h' t') := fun t' => by
    refine codeAny_compLoop_tests (fun k s' => ∀ R : Shared → Prop, (∀ i vs g₁ ΓD₁ N h₁ t₁, i + k = n → J i vs g₁ ΓD₁ N → St w K2 h.objs.size [] g₁ ((ΓD₁ ++ (ac, .lx vs) :: (it, Ic i) :: Λ) ++ N) h₁ → R (sh s h₁ t₁)) → R s')
      (fun k s' hI => ?_) n (fun R r => r 0 [] g ΓD [] h' t' (Nat.zero_add n) j0 (by rw [List.append_nil]; exact Sc)) ht
    refine hI _ fun i vs g₁ ΓD₁ N h₁ t₁ hi j S₁ => ?_
    have hat := S₁.rd (List.mem_append_left _ (List.mem_append_right _ (List.Mem.tail _ (List.Mem.head _))))
    obtain ⟨kD, hvs⟩ := keys _ _ _ _ _ j
    have hgl : g.le g₁ := by have := S₁.gmono; rw [hK] at this; exact this
    cases k with
    | zero =>
      obtain rfl : i = n := hi
      refine sr.done hat (ok _ _ _ _ _ _ _ _ j hgl S₁) fun h₂ t₂ he => ?_
      obtain ⟨_, nsC, _⟩ := ((S₁.perm (Γ' := (ΓD₁ ++ [(ac, .lx vs)]) ++ (it, Ic i) :: (Λ ++ N)) (by simp)).forget he).ns
      have B2 := ((St.back (ΓD := ΓD ++ (ac, .lx []) :: (it, Ic 0) :: Λ) (Γ := []) (ΓD' := ΓD₁ ++ (ac, .lx vs) :: (it, Ic i) :: Λ) (Λx := N) (Λ := []) (by rw [List.append_nil]; exact S) (by rw [List.append_nil, ← hK]; exact S₁) (by simp [kD])).perm
        (Γ' := (ΓD₁ ++ [(ac, .lx vs)]) ++ (it, Ic i) :: (Λ ++ N)) (by simp)).forget he
      refine post vs g₁ ΓD₁ N h₂ t₂ _ _ j hgl nsC (by simpa using B2) (Nat.ne_of_gt S.ns.lt) (fun y => ?_) ?_
      · obtain ⟨p, hp, e⟩ := List.mem_map.mp y
        refine (S₁.off p ?_).1 e
        simp only [List.mem_append, List.mem_cons] at hp ⊢
        rcases hp with hp | hp | hp | hp
        · exact .inl (.inl hp)
        · exact .inl (.inr (.inl hp))
        · exact .inl (.inr (.inr (.inr hp)))
        · exact .inr hp
      · cases q : g₁ h.objs.size with
        | none => rfl
        | some o => exact absurd rfl (S₁.frz _ o q).2.1
    | succ k =>
      have hin : i < n := by lia
      refine sr.item hin hat (ok _ _ _ _ _ _ _ _ j hgl S₁) fun v h₂ t₂ hv hat' he => ?_
      refine wpAny_mono (step K2 _ i v vs g₁ ΓD₁ N h₂ t₂ (fun x s₄ => ∀ R : Shared → Prop, (∀ m₂ g₂ ΓD₂ N₂ h₂ t₂, J (i + 1) (vs ++ [x]) g₂ ΓD₂ N₂ → St w K2 h.objs.size m₂ g₂ ((ΓD₂ ++ (ac, .lx vs) :: (it, Ic (i + 1)) :: Λ) ++ N₂) h₂ → R (sh s h₂ t₂)) → R s₄) (fun s₄ => ∀ R : Shared → Prop, (∀ m₂ g₂ ΓD₂ N₂ h₂ t₂, J (i + 1) vs g₂ ΓD₂ N₂ → St w K2 h.objs.size m₂ g₂ ((ΓD₂ ++ (ac, .lx vs) :: (it, Ic (i + 1)) :: Λ) ++ N₂) h₂ → R (sh s h₂ t₂)) → R s₄) hK hin hv j (fun x m g₂ ΓD₂ N₂ h₅ t₅ S₅ j' R r => r _ _ _ _ _ _ j' S₅)
        (fun m g₂ ΓD₂ N₂ h₅ t₅ S₅ j' R r => r _ _ _ _ _ _ j' S₅) (S₁.updE (Upd.left (Upd.right (.there .here))) he hat'))
        (fun _ s₃ q => wpAny_mono q (fun b s₄ q => ?_) fun _ _ e => e.elim) fun _ _ e => e.elim
      cases b with
      | true =>
        rw [if_pos rfl] at q ⊢
        refine wpAny_mono q (fun x s₅ q => ?_) fun _ _ e => e.elim
        refine q _ fun m₂ g₂ ΓD₂ N₂ h₅ t₅ j' S₅ => ?_
        refine app_lx S₅ (Upd.left (Upd.right .here)) (by rw [sizeLine_eq]; lia) fun h₆ S₆ => ?_
        exact ⟨k, by lia, fun R r => r (i + 1) _ g₂ ΓD₂ N₂ h₆ t₅ (by lia) j' (S₆.weak .nil)⟩
      | false =>
        rw [if_neg (by decide)] at q ⊢
        exact ⟨k, by lia, fun R r => q R fun m₂ g₂ ΓD₂ N₂ h₅ t₅ j' S₅ => r (i + 1) _ g₂ ΓD₂ N₂ h₅ t₅ (by lia) j' (S₅.weak .nil)⟩
  refine codeAny_compStart_list (loop _) ?_
  exact sr.self (s := s) (h := h') (Sc.rd (List.mem_append_right _ (List.Mem.tail _ (List.Mem.head _)))) (loop _)
theorem comp_D0 {use : Option (Value → Sem Unit)} {elt target iter : Expr} {ifs : List Expr} {scope : Scope} {pos : Pos} {cl : List (Str × Addr)} {it ac : Addr} {n : Nat} {P : Nat → Value → Prop} {Ic : Nat → Cell} {Ok : Heap → Prop} {Q : Value → Shared → Prop}
    (J : Nat → List Value → Frz → List (Addr × Cell) → Prop) (sr : Src w A it n P Ic Ok) (S : St w K L m g (ΓD ++ (ac, .lx []) :: (it, Ic 0) :: Λ) h) (hn : n ≤ 1000) (j0 : J 0 [] g ΓD)
    (ok : ∀ K2 C i vs g₁ ΓD₁ h₁, J i vs g₁ ΓD₁ → g.le g₁ → St w K2 C [] g₁ (ΓD₁ ++ (ac, .lx vs) :: (it, Ic i) :: Λ) h₁ → Ok h₁)
    (keys : ∀ i vs g₁ ΓD₁, J i vs g₁ ΓD₁ → ΓD₁.map (·.1) = ΓD.map (·.1) ∧ vs.length ≤ i)
    (ht : ∀ v, letOwnedTupleGo target (.ref it) v = pure ())
    (step : ∀ K2 C i v vs g₁ ΓD₁ h₁ t₁ (PE : Value → Shared → Prop) (PF : Shared → Prop), K2 = ⟨K.B, h, (ΓD ++ (ac, .lx []) :: (it, Ic 0) :: Λ).map (·.1), g⟩ → i < n → P i v → J i vs g₁ ΓD₁ →
      (∀ {x m g₂ ΓD₂ h₂ t₂}, St w K2 C m g₂ (ΓD₂ ++ (ac, .lx vs) :: (it, Ic (i + 1)) :: Λ) h₂ → J (i + 1) (vs ++ [x]) g₂ ΓD₂ → PE x (sh s h₂ t₂)) →
      (∀ {m g₂ ΓD₂ h₂ t₂}, St w K2 C m g₂ (ΓD₂ ++ (ac, .lx vs) :: (it, Ic (i + 1)) :: Λ) h₂ → J (i + 1) vs g₂ ΓD₂ → PF (sh s h₂ t₂)) →
      St w K2 C [] g₁ (ΓD₁ ++ (ac, .lx vs) :: (it, Ic (i + 1)) :: Λ) h₁ →
      wpAny (model PG w) A (assign target (compEnvC scope cl C env) v) (fun _ s₂ =>
        wpAny (model PG w) A (forIn ifs true fun c r => if r = true then do let ok ← isTrue c (compEnvC scope cl C env) (eval c (compEnvC scope cl C env)); pure (ForInStep.yield ok) else pure (ForInStep.yield r)) (fun ok s₃ =>
          if ok = true then wpAny (model PG w) A (eval elt (compEnvC scope cl C env)) PE (fun _ _ => False) s₃ else PF s₃) (fun _ _ => False) s₂) (fun _ _ => False) (sh s h₁ t₁))
    (post : ∀ vs g₁ ΓD₁ h₂ t₂ f fl, J n vs g₁ ΓD₁ → g.le g₁ → h₂.Ns h.objs.size f → St w K L m g₁ (ΓD₁ ++ (ac, .lx vs) :: Λ) h₂ → h.objs.size ≠ L → h.objs.size ∉ (ΓD₁ ++ (ac, Cell.lx vs) :: Λ).map (fun p => p.1) → g₁ h.objs.size = none →
      compPost (model PG w) A E use Q (.ref ac) h.objs.size (.ok fl) (sh s h₂ t₂))
    (hcell : ∀ x ∈ scope.names, x.2 ≠ .cell) (hk : scope.kind = .function) :
    CmpU w A E elt target iter ifs scope pos cl env use Q (.ref it) (.ref ac) (sh s h t) :=
  comp_core (J := fun i vs g₁ ΓD₁ N => N = [] ∧ J i vs g₁ ΓD₁) sr S hn ⟨rfl, j0⟩ (fun _ _ _ _ _ _ _ _ j hl S => ok _ _ _ _ _ _ _ j.2 hl (by rw [j.1, List.append_nil] at S; exact S)) (fun _ _ _ _ _ j => keys _ _ _ _ j.2) ht
    (fun _ _ _ _ _ _ _ _ _ _ _ _ hK hi hx j XE XF S => step _ _ _ _ _ _ _ _ _ _ _ hK hi hx j.2 (fun S j => XE _ _ _ _ [] _ _ (by rw [List.append_nil]; exact S) ⟨rfl, j⟩) (fun S j => XF _ _ _ [] _ _ (by rw [List.append_nil]; exact S) ⟨rfl, j⟩) (by rw [j.1, List.append_nil] at S; exact S))
    (fun _ _ _ _ _ _ _ _ j hl nsC S2 C1 C2 C3 => by rw [j.1, List.append_nil] at S2 C2; exact post _ _ _ _ _ _ _ j.2 hl nsC S2 C1 C2 C3) hcell hk
end
section
variable {w : World} {A : Around} {E : Value → Shared → Prop} {s : Shared} {h h' : Heap} {t : Nat} {K : Ent} {L : Addr} {m m' : Loc} {g : Frz} {Γ Γ' ΓD Λ : List (Addr × Cell)} {env : Env}
theorem len_dI {d : Addr} {kvs : List (Int × Value)} {Q : Value → Shared → Prop} (c : At w h.get? d (.dI kvs)) (hd : (d == sysModules) = false) (hz : kvs.length < 2 ^ 62) (q : ∀ t', Q (.int kvs.length t') (sh s h (t' + 1))) :
    wpAny (model PG w) A (call (.builtin "len") [.ref d]) Q E (sh s h t) := by
  refine call_len_dict (s := sh s h t) hd c.dictI (by lia) ?_
  exact q _
theorem in_dI {d : Addr} {kvs : List (Int × Value)} {k : Int} {tk : Tok} {Q : Value → Shared → Prop} (c : At w h.get? d (.dI kvs)) (hd : (d == sysModules) = false) (q : Q (.bool (valueAt kvs k).isSome) (sh s h (t + 1))) :
    wpAny (model PG w) A (compareOp .In (.int k tk) (.ref d)) Q E (sh s h t) := wpAny_in_of (s := sh s h t) (intKind_is PG w k tk) hd c.dictI.mapOf q
theorem notin_dI {d : Addr} {kvs : List (Int × Value)} {k : Int} {tk : Tok} {Q : Value → Shared → Prop} (c : At w h.get? d (.dI kvs)) (hd : (d == sysModules) = false) (q : Q (.bool (!(valueAt kvs k).isSome)) (sh s h (t + 1))) :
    wpAny (model PG w) A (compareOp .NotIn (.int k tk) (.ref d)) Q E (sh s h t) := wpAny_notIn_of (s := sh s h t) (intKind_is PG w k tk) hd c.dictI.mapOf q
theorem meth_node {o e : Expr} {rest : List Expr} {name : Str} {apos pos : Pos} {T id : String} {Q : Value → Shared → Prop} (pa : PlainAttrs T) (slot : Slot T name id) (hty : typeOf (.builtin id) = pure (.type "method_descriptor"))
    (q : wpAny (model PG w) A (eval o env) (fun ov s₁ => ∃ a, ov = .ref a ∧ (∃ ob, s₁.heap.get? a = some ob ∧ ob.cls = .type T ∧ ob.dict = none) ∧
      wpAny (model PG w) A (spliced (backTo pos (starEach (e :: rest) env))) (fun vs s₂ => wpAny (model PG w) A (call (.builtin id) ([.ref a] ++ vs)) Q E s₂) E s₁) E s)
    (hbase : attributeBase o name env (eval o env) = eval o env) (hfew : ((backTo pos (starEach (e :: rest) env)).all (fun x => !x.1) && (backToKw pos (keywordEach [] env)).all (fun x => x.1.isSome)
      && decide ((e :: rest).length + ([] : List Keyword).length + (if ([] : List Keyword).isEmpty then 0 else 1) < 30)) = true) (hline : (apos.endLine == pos.line) = true)
    (he : starEach (e :: rest) env = (false, eval e env) :: starEach rest env) (hplain : (backTo pos (starEach rest env)).any (·.1) = false) :
    wpAny (model PG w) A (eval (.Call (.Attribute o name apos) (e :: rest) [] pos) env) Q E s :=
  wpAny_Call_method_late hbase hfew hline rfl (wpAny_mono q (fun ov s₁ z => by
    obtain ⟨a, rfl, ⟨ob, h1, h2, h3⟩, h4⟩ := z
    exact ⟨T, id, pa, slot, hty, ⟨ob, h1, h2⟩, fun b e => by cases e; exact ⟨ob, h1, h3⟩, callWith_method1 h4 he hplain⟩) fun _ _ e => e)
theorem meth_node0 {o : Expr} {name : Str} {apos pos : Pos} {T id : String} {Q : Value → Shared → Prop} (pa : PlainAttrs T) (slot : Slot T name id) (hty : typeOf (.builtin id) = pure (.type "method_descriptor"))
    (q : wpAny (model PG w) A (eval o env) (fun ov s₁ => ∃ a, ov = .ref a ∧ (∃ ob, s₁.heap.get? a = some ob ∧ ob.cls = .type T ∧ ob.dict = none) ∧ wpAny (model PG w) A (call (.builtin id) [.ref a]) Q E s₁) E s)
    (hbase : attributeBase o name env (eval o env) = eval o env) (hline : (apos.endLine == pos.line) = true) :
    wpAny (model PG w) A (eval (.Call (.Attribute o name apos) [] [] pos) env) Q E s :=
  wpAny_Call_method_late hbase rfl hline rfl (wpAny_mono q (fun ov s₁ z => by
    obtain ⟨a, rfl, ⟨ob, h1, h2, h3⟩, h4⟩ := z
    exact ⟨T, id, pa, slot, hty, ⟨ob, h1, h2⟩, fun b e => by cases e; exact ⟨ob, h1, h3⟩, callWith_method0 h4⟩) fun _ _ e => e)
theorem obj_dI {a : Addr} {kvs : List (Int × Value)} (c : At w h.get? a (.dI kvs)) : ∃ ob, h.get? a = some ob ∧ ob.cls = .type "dict" ∧ ob.dict = none := let ⟨o, e, _, _, x, _⟩ := c; ⟨o, e, x.1, x.2.1⟩
theorem obj_dS {a : Addr} {kvs : List (Str × Value)} (c : At w h.get? a (.dS kvs)) : ∃ ob, h.get? a = some ob ∧ ob.cls = .type "dict" ∧ ob.dict = none := let ⟨o, e, _, _, x, _⟩ := c; ⟨o, e, x.1, x.2.1⟩
theorem obj_lx {a : Addr} {vs : List Value} (c : At w h.get? a (.lx vs)) : ∃ ob, h.get? a = some ob ∧ ob.cls = .type "list" ∧ ob.dict = none := let ⟨o, e, _, x⟩ := c; ⟨o, e, by rw [x], by rw [x]⟩
theorem dict_get {d : Addr} {kvs : List (Int × Value)} {k : Int} {tk : Tok} {v : Value} {Q : Value → Shared → Prop} (c : At w h.get? d (.dI kvs)) (hd : (d == sysModules) = false) (q : Q ((valueAt kvs k).getD v) (sh s h (t + 1))) :
    wpAny (model PG w) A (call (.builtin "dict.get") [.ref d, .int k tk, v]) Q E (sh s h t) := by
  refine wpAny_call_entry F.slot_dict_get c.dictI.typeIs F.entry_dict_get ?_ (F.args_dict_get_3 _ _ _)
  show wpAny _ _ (dictGet d (.int k tk) >>= _) _ _ _
  refine wpAny_bind (wpAny_dictGet_of (s := sh s h t) (intKind_is PG w k tk) c.dictI.mapOf ?_)
  cases hf : valueAt kvs k with
  | some x =>
    rw [hf] at q
    exact wpAny_pure ⟨x, rfl, q⟩
  | none =>
    rw [hf] at q
    show wpAny _ _ (Builtin.Dict.missed d (.int k tk) >>= _) _ _ _
    exact wpAny_bind (wpAny_missed_other hd (wpAny_pure ⟨v, rfl, q⟩))
theorem dict_get1 {d : Addr} {kvs : List (Int × Value)} {k : Int} {tk : Tok} {Q : Value → Shared → Prop} (c : At w h.get? d (.dI kvs)) (hd : (d == sysModules) = false) (q : Q ((valueAt kvs k).getD .none) (sh s h (t + 1))) :
    wpAny (model PG w) A (call (.builtin "dict.get") [.ref d, .int k tk]) Q E (sh s h t) := by
  refine wpAny_call_entry F.slot_dict_get c.dictI.typeIs F.entry_dict_get ?_ (F.args_dict_get_2 _ _)
  show wpAny _ _ (dictGet d (.int k tk) >>= _) _ _ _
  refine wpAny_bind (wpAny_dictGet_of (s := sh s h t) (intKind_is PG w k tk) c.dictI.mapOf ?_)
  cases hf : valueAt kvs k with
  | some x =>
    rw [hf] at q
    exact wpAny_pure ⟨x, rfl, q⟩
  | none =>
    rw [hf] at q
    show wpAny _ _ (Builtin.Dict.missed d (.int k tk) >>= _) _ _ _
    exact wpAny_bind (wpAny_missed_other hd (wpAny_pure ⟨.none, rfl, q⟩))
theorem dict_pop {d : Addr} {kvs : List (Int × Value)} {k : Int} {tk : Tok} {v : Value} {Q : Value → Shared → Prop} (S : St w K L m g Γ h) (u : Upd d (.dI kvs) (.dI (without kvs k)) Γ Γ') (hv : valueAt kvs k = some v) (hz : kvs.length ≤ sizeLine)
    (q : ∀ h' t', St w K L m g Γ' h' → Q v (sh s h' t')) : wpAny (model PG w) A (call (.builtin "dict.pop") [.ref d, .int k tk]) Q E (sh s h t) := by
  have c := (S.rd u.old).dictI
  refine wpAny_call_entry F.slot_dict_pop c.typeIs F.entry_dict_pop ?_ (F.args_dict_pop_2 _ _)
  unfold Builtin.«dict.pop»
  refine wpAny_bind ?_
  unfold Builtin.Dict.keyAndDefault
  refine wpAny_bind (wpAny_notOrdered_dict c.typeIs ?_)
  show wpAny _ _ (pure (d, Value.int k tk, none)) _ _ _
  refine wpAny_pure ?_
  simp only [show (keyPart (Value.int k tk)).isSome = true from rfl, if_true]
  refine wpAny_bind (wpAny_pure ?_)
  simp only [Bool.false_eq_true, if_false]
  refine wpAny_bind (wpAny_takeOut_pairs (s := sh s h t) (hsz := hz) (intKind_is PG w k tk) c (fun hn => by rw [hn] at hv; cases hv) fun e _ he h' hm' hs' => ?_)
  have hev : e.val = v := by rw [hv] at he; injection he with he; exact he.symm
  simp only [Option.isNone_some, Bool.false_eq_true, if_false]
  exact wpAny_bind (wpAny_letGo (wpAny_pure ⟨e.val, rfl, by rw [hev]; exact q h' _ (S.upd u hs' (At.ofDictI hm'))⟩))
theorem dict_popD {d : Addr} {kvs : List (Int × Value)} {k : Int} {tk : Tok} {dv : Value} {Q : Value → Shared → Prop} (S : St w K L m g Γ h) (u : Upd d (.dI kvs) (.dI (without kvs k)) Γ Γ') (hz : kvs.length ≤ sizeLine) (hd : (d == sysModules) = false)
    (q : ∀ v h' t', St w K L m g Γ' h' → Q v (sh s h' t')) : wpAny (model PG w) A (call (.builtin "dict.pop") [.ref d, .int k tk, dv]) Q E (sh s h t) := by
  have c := (S.rd u.old).dictI
  refine wpAny_call_entry F.slot_dict_pop c.typeIs F.entry_dict_pop ?_ (F.args_dict_pop_3 _ _ _)
  unfold Builtin.«dict.pop»
  refine wpAny_bind ?_
  unfold Builtin.Dict.keyAndDefault
  refine wpAny_bind (wpAny_notOrdered_dict c.typeIs ?_)
  show wpAny _ _ (pure (d, Value.int k tk, some dv)) _ _ _
  refine wpAny_pure ?_
  simp only [show (keyPart (Value.int k tk)).isSome = true from rfl, if_true]
  refine wpAny_bind (wpAny_pure ?_)
  simp only [Bool.false_eq_true, if_false]
  refine wpAny_bind (wpAny_takeOut_pairs (s := sh s h t) (hsz := hz) (intKind_is PG w k tk) c (fun hn => ?_) fun e _ he h' hm' hs' => ?_)
  · simp only [Option.isNone_none, if_true]
    refine wpAny_bind (wpAny_missedRemoval_other hd ?_)
    refine wpAny_bind (wpAny_rule (wpAny_pure ⟨dv, rfl, q _ h _ (S.upd u (Heap.SameBut.refl ..) (At.ofDictI ?_))⟩))
    rw [without_of_not_mem]
    · exact c
    · intro hm
      obtain ⟨⟨k', v'⟩, hkv, e⟩ := List.mem_map.mp hm
      obtain ⟨i, hi⟩ := List.mem_iff_getElem?.mp hkv
      have := valueAt_of_get (S.rd u.old).dInd hi
      dsimp only at e
      rw [e, hn] at this
      cases this
  · simp only [Option.isNone_some, Bool.false_eq_true, if_false]
    exact wpAny_bind (wpAny_letGo (wpAny_pure ⟨e.val, rfl, q _ h' _ (S.upd u hs' (At.ofDictI hm'))⟩))
theorem intsAre_of {P : Int → Prop} : ∀ {vs : List Value}, (∀ v ∈ vs, ∃ i t, v = Value.int i t ∧ P i) → ∃ ns, IntsAre vs ns ∧ ∀ n ∈ ns, P n
  | [], _ => ⟨[], .nil, fun _ h => nomatch h⟩
  | v :: r, h => by
    obtain ⟨i, t, rfl, hp⟩ := h v (.head _)
    obtain ⟨ns, h1, h2⟩ := intsAre_of (P := P) fun u hu => h u (.tail _ hu)
    exact ⟨i :: ns, .cons i t h1, fun n hn => by rcases List.mem_cons.mp hn with rfl | hn; exact hp; exact h2 n hn⟩
theorem intsAre_mem : ∀ {vs : List Value} {ns : List Int}, IntsAre vs ns → ∀ v ∈ vs, ∃ i t, v = Value.int i t ∧ i ∈ ns
  | _, _, .nil, _, h => nomatch h
  | _, _, .cons n t r, v, h => by
    rcases List.mem_cons.mp h with rfl | h
    · exact ⟨n, t, rfl, .head _⟩
    · obtain ⟨i, t', e, hi⟩ := intsAre_mem r v h
      exact ⟨i, t', e, .tail _ hi⟩
theorem intsAre_pt : ∀ {vs : List Value} {ks : List Int}, vs.length = ks.length → (∀ (j : Nat) (v : Value), vs[j]? = some v → ∃ k t, ks[j]? = some k ∧ v = Value.int k t) → IntsAre vs ks
  | [], [], _, _ => .nil
  | v :: r, k :: ks, hl, h => by
    obtain ⟨k', t, e, rfl⟩ := h 0 v rfl
    cases e
    exact .cons k t (intsAre_pt (by simpa using hl) fun j v hj => by
      obtain ⟨k', t, e, rfl⟩ := h (j + 1) v (by simpa using hj)
      exact ⟨k', t, by simpa using e, rfl⟩)
theorem intsAre_nd {vs : List Value} {ns : List Int} (x : IntsAre vs ns) : vs.length = ns.length ∧ ∀ (j : Nat) (v : Value), vs[j]? = some v → ∃ t, ∃ (h : j < ns.length), v = .int ns[j] t := by
  induction x with
  | nil => exact ⟨rfl, fun j v h => by simp at h⟩
  | cons n t r ih =>
    refine ⟨by simp [ih.1], fun j v h => ?_⟩
    cases j with
    | zero => simp at h; exact ⟨t, by simp, h.symm⟩
    | succ j =>
      obtain ⟨t', h', e⟩ := ih.2 j v (by simpa using h)
      exact ⟨t', by simpa using h', by simpa using e⟩
theorem sorted_dI {d : Addr} {kvs : List (Int × Value)} {Q : Value → Shared → Prop} (S : St w K L m g (ΓD ++ Λ) h) (c : At w h.get? d (.dI kvs)) (hd : (d == sysModules) = false) (hh : A.handled = none) (h64 : kvs.length < 64)
    (q : ∀ a h' t' vs, St w K L m g (ΓD ++ (a, .lx vs) :: Λ) h' → vs.length = kvs.length → (∀ v ∈ vs, ∃ k tk, v = .int k tk ∧ (valueAt kvs k).isSome = true) → (∃ ns, IntsAre vs ns ∧ ns.Perm (kvs.map (·.1))) → Q (.ref a) (sh s h' t')) :
    wpAny (model PG w) A (call (.builtin "sorted") [.ref d]) Q E (sh s h t) := by
  obtain ⟨ep, hat⟩ := c.dictI.dictAt
  refine Calls.call_function_entry kind_sorted plain_sorted entry_sorted (args_sorted1 _) ?_
  unfold Builtin.«sorted»
  refine wpAny_bind (m := checkCount "sorted" 1 1 _) (wpAny_pure ?_)
  refine wpAny_bind (kdu_collect (A := A.in1) (s := sh s h t) (kdl_dict (knd := intKind PG w) (kvs := kvs) (ep := ep) hd) hh hat (by rw [sizeLine_eq]; lia) fun h' tk acc hk hacc => ?_)
  have S1 := S.ext hk
  have hl : acc.toList.length = kvs.length := by rw [Array.length_toList]; exact hacc.1
  have hv : ∀ v ∈ acc.toList, ∃ k tk, v = .int k tk ∧ (valueAt kvs k).isSome = true := fun v hv => by
    obtain ⟨j, hj⟩ := List.mem_iff_getElem?.mp hv
    obtain ⟨k, x, hx, hik⟩ := hacc.2 j v (by rw [← Array.getElem?_toList]; exact hj)
    obtain ⟨tk, rfl⟩ := Value.isInt_shape hik
    exact ⟨k, tk, rfl, by rw [valueAt_of_get c.dInd hx]; rfl⟩
  have hI : IntsAre acc.toList (kvs.map (·.1)) := intsAre_pt (by simpa using hl) fun j v hj => by
    obtain ⟨k, x, hx, hik⟩ := hacc.2 j v (by rw [← Array.getElem?_toList]; exact hj)
    obtain ⟨tk, rfl⟩ := Value.isInt_shape hik
    exact ⟨k, tk, by simp [hx], rfl⟩
  have hP : ∀ n ∈ kvs.map (·.1), (valueAt kvs n).isSome = true := fun n hn => by
    obtain ⟨kv, hkv, rfl⟩ := List.mem_map.mp hn
    obtain ⟨i, hi⟩ := List.mem_iff_getElem?.mp hkv
    rw [valueAt_of_get (k := kv.1) (v := kv.2) c.dInd hi]; rfl
  refine wpAny_bind (wpAny_newList ?_ (by rw [hl, sizeLine_eq]; lia))
  have hoL : (h'.push (seqObj "list" acc.toList.toArray 0)).get? h'.objs.size = some (seqObj "list" acc.toList.toArray 0) := Heap.get?_push_size _ rfl
  refine wpAny_bind (wpAny_holding (wpAny_call_entry slot_list_sort ⟨_, hoL, rfl⟩ entry_list_sort (list_sort_tree (s := sh s (h'.push (seqObj "list" acc.toList.toArray 0)) tk) hoL hI (by lia) fun out ns' a1 a2 a3 => ⟨_, rfl, ?_⟩) (args_list_sort _)))
  obtain ⟨e, he⟩ := sortedHeap_at (out := out) hoL
  have hkk : ∀ b o, h'.get? b = some o → (sortedHeap (h'.push (seqObj "list" acc.toList.toArray 0)) h'.objs.size acc.toList out).get? b = some o := fun b o e' => by
    rw [sortedHeap_old (Nat.ne_of_lt (Heap.lt_size e')) (by rw [Heap.size_push]; exact Nat.lt_succ_of_lt (Heap.lt_size e'))]
    exact Heap.get?_push_of_some _ e'
  refine wpAny_pure ⟨_, rfl, q _ _ tk out.toList (S1.adopt hkk (Nat.le_refl _) ⟨_, he, e, ?_⟩) ?_ (fun v hv => ?_) ⟨_, a1, a2⟩⟩
  · simp [seqObj]
  · rw [a1.length, a2.length_eq, List.length_map]
  · obtain ⟨i, t', rfl, hi⟩ := intsAre_mem a1 v hv
    exact ⟨i, t', rfl, hP i (a2.mem_iff.mp hi)⟩
end
theorem merged_nodup {K : Type} [DecidableEq K] : ∀ (kvs acc : List (K × Value)), ((acc ++ kvs).map (·.1)).Nodup → merged acc kvs = acc ++ kvs
  | [], acc, _ => by simp [merged]
  | x :: r, acc, nd => by
    have h1 : stored acc x.1 x.2 = acc ++ [x] := by
      unfold stored
      rw [if_neg]
      intro h
      obtain ⟨y, hy, e⟩ := List.any_eq_true.mp h
      rw [List.map_append, List.nodup_append] at nd
      exact nd.2.2 _ (List.mem_map_of_mem hy) x.1 (by simp) (by simpa using e)
    have h2 := merged_nodup r (acc ++ [x]) (by simpa using nd)
    unfold merged at h2 ⊢
    rw [List.foldl_cons, h1, h2]
    simp
section
variable {w : World}
inductive CarS : List (Value × Value) → List (Str × Value) → Prop
  | nil : CarS [] []
  | cons {k : Str} {t : Tok} {v : Value} {r : List (Value × Value)} {kvs : List (Str × Value)} : CarS r kvs → CarS ((.str k t, v) :: r) ((k, v) :: kvs)
inductive CarI : List (Value × Value) → List (Int × Value) → Prop
  | nil : CarI [] []
  | cons {k : Int} {t : Tok} {v : Value} {r : List (Value × Value)} {kvs : List (Int × Value)} : CarI r kvs → CarI ((.int k t, v) :: r) ((k, v) :: kvs)
theorem CarS.carries {vs : List (Value × Value)} {kvs : List (Str × Value)} (c : CarS vs kvs) : Carries (strKind PG w) vs kvs := by
  induction c with
  | nil => trivial
  | cons _ ih => exact ⟨strKind_is PG w _ _, rfl, ih⟩
theorem CarI.carries {vs : List (Value × Value)} {kvs : List (Int × Value)} (c : CarI vs kvs) : Carries (intKind PG w) vs kvs := by
  induction c with
  | nil => trivial
  | cons _ ih => exact ⟨intKind_is PG w _ _, rfl, ih⟩
variable {A : Around} {E : Value → Shared → Prop} {s : Shared} {h h' : Heap} {t : Nat} {K : Ent} {L : Addr} {m m' : Loc} {g : Frz} {Γ Γ' ΓD Λ : List (Addr × Cell)} {env : Env}
def DspS (w : World) (Q : Value → Shared → Prop) (d : Addr) (vs : List (Value × Value)) (s₁ : Shared) : Prop :=
  ∃ kvs, Carries (strKind PG w) vs kvs ∧ s₁.heap.DictOf (strKind PG w) d [] ∧ ∀ h', h'.DictOf (strKind PG w) d (merged [] kvs) → Heap.SameBut d s₁.heap h' → Q (.ref d) { s₁ with heap := h', toks := s₁.toks + vs.length }
def DspI (w : World) (Q : Value → Shared → Prop) (d : Addr) (vs : List (Value × Value)) (s₁ : Shared) : Prop :=
  ∃ kvs, Carries (intKind PG w) vs kvs ∧ s₁.heap.DictOf (intKind PG w) d [] ∧ ∀ h', h'.DictOf (intKind PG w) d (merged [] kvs) → Heap.SameBut d s₁.heap h' → Q (.ref d) { s₁ with heap := h', toks := s₁.toks + vs.length }
theorem okS : Cell.ok w (.dS []) { cls := .type "dict", data := .dict #[] } := ⟨#[], 0, ⟨rfl, rfl, rfl⟩, rfl, fun e he => by simp at he, .nil, .nil⟩
theorem okI : Cell.ok w (.dI []) { cls := .type "dict", data := .dict #[] } := ⟨#[], 0, ⟨rfl, rfl, rfl⟩, rfl, fun e he => by simp at he, .nil, .nil⟩
theorem dict_S {keys : List (Option Expr)} {values : List Expr} {pos : Pos} {Q : Value → Shared → Prop} (S : St w K L m g (ΓD ++ Λ) h)
    (q : ∀ d h', St w K L m g (ΓD ++ (d, .dS []) :: Λ) h' → wpAny (model PG w) A (evalPairs (pairTrees keys values env pos)) (DspS w Q d) E (sh s h' t))
    (hall : keys.all (·.isSome) = true) (hl : keys.length = values.length) (h0 : keys ≠ []) (hlen : keys.length ≤ 15) : wpAny (model PG w) A (eval (.Dict keys values pos) env) Q E (sh s h t) :=
  wpAny_Dict_walk (knd := strKind PG w) hall hl h0 hlen (q _ _ (S.pushL okS rfl))
theorem dict_I {keys : List (Option Expr)} {values : List Expr} {pos : Pos} {Q : Value → Shared → Prop} (S : St w K L m g (ΓD ++ Λ) h)
    (q : ∀ d h', St w K L m g (ΓD ++ (d, .dI []) :: Λ) h' → wpAny (model PG w) A (evalPairs (pairTrees keys values env pos)) (DspI w Q d) E (sh s h' t))
    (hall : keys.all (·.isSome) = true) (hl : keys.length = values.length) (h0 : keys ≠ []) (hlen : keys.length ≤ 15) : wpAny (model PG w) A (eval (.Dict keys values pos) env) Q E (sh s h t) :=
  wpAny_Dict_walk (knd := intKind PG w) hall hl h0 hlen (q _ _ (S.pushL okI rfl))
theorem dspS {d : Addr} {vs : List (Value × Value)} {kvs : List (Str × Value)} {Q : Value → Shared → Prop} (S : St w K L m g Γ h) (c : CarS vs kvs) (u : Upd d (.dS []) (.dS kvs) Γ Γ') (nd : (kvs.map (·.1)).Nodup) (q : ∀ h' t', St w K L m g Γ' h' → Q (.ref d) (sh s h' t')) : DspS w Q d vs (sh s h t) :=
  ⟨kvs, c.carries, (S.rd u.old).dictS, fun h' hd hs => q h' _ (S.upd u hs (At.ofDictS (by rw [merged_nodup kvs [] nd] at hd; exact hd)))⟩
theorem dspI {d : Addr} {vs : List (Value × Value)} {kvs : List (Int × Value)} {Q : Value → Shared → Prop} (S : St w K L m g Γ h) (c : CarI vs kvs) (u : Upd d (.dI []) (.dI kvs) Γ Γ') (nd : (kvs.map (·.1)).Nodup) (q : ∀ h' t', St w K L m g Γ' h' → Q (.ref d) (sh s h' t')) : DspI w Q d vs (sh s h t) :=
  ⟨kvs, c.carries, (S.rd u.old).dictI, fun h' hd hs => q h' _ (S.upd u hs (At.ofDictI (by rw [merged_nodup kvs [] nd] at hd; exact hd)))⟩
theorem dict_0 {pos : Pos} {Q : Value → Shared → Prop} (S : St w K L m g (ΓD ++ Λ) h) (q : ∀ d h', St w K L m g (ΓD ++ (d, .dI []) :: Λ) h' → Q (.ref d) (sh s h' t)) : wpAny (model PG w) A (eval (.Dict [] [] pos) env) Q E (sh s h t) :=
  wpAny_Dict_empty (s := sh s h t) (q _ _ (S.pushL okI rfl))
theorem eq_strB {x y : Str} {tx ty : Tok} {b : Bool} {Q : Value → Shared → Prop} (hb : (x == y) = b) (q : Q (.bool b) (sh s h t)) : wpAny (model PG w) A (compareOp .Eq (.str x tx) (.str y ty)) Q E (sh s h t) := PyProof.Rows.eq_str (by rw [hb]; exact q)
theorem k_neg {i : Int} {k : Nat} {p pos : Pos} {Q : Value → Shared → Prop} (q : ∀ tk, Q (.int (-i) tk) (sh s h (tk + 1))) : wpAny (model PG w) A (eval (.UnaryOp .USub (.Constant (.int i) k p) pos) env) Q E (sh s h t) :=
  wpAny_UnaryOp (wpAny_Constant_int (P.neg_int (q _)))
theorem dict_getV {d : Addr} {kvs : List (Int × Value)} {k : Int} {tk : Tok} {v v' : Value} {Q : Value → Shared → Prop} (c : At w h.get? d (.dI kvs)) (hd : (d == sysModules) = false) (e : (valueAt kvs k).getD v = v') (q : Q v' (sh s h (t + 1))) :
    wpAny (model PG w) A (call (.builtin "dict.get") [.ref d, .int k tk, v]) Q E (sh s h t) := dict_get c hd (by rw [e]; exact q)
theorem St.freezeAll {ΓD : List (Addr × Cell)} {h : Heap} : ∀ {Λ : List (Addr × Cell)} {g : Frz}, St w K L m g (ΓD ++ Λ) h → K.D = ΓD.map (·.1) → ∃ g', g.le g' ∧ (∀ p ∈ Λ, At w g' p.1 p.2) ∧ St w K L m g' (ΓD ++ []) h
  | [], g, S, _ => ⟨g, Frz.le.refl, fun _ h => (by simp at h), S⟩
  | (a, c) :: Λ, g, S, hD => by
    obtain ⟨g1, l1, c1, S1⟩ := S.freezeL (S.freshL hD (.head _))
    obtain ⟨g2, l2, c2, S2⟩ := St.freezeAll S1 hD
    exact ⟨g2, l1.trans l2, fun p hp => by
      rcases List.mem_cons.mp hp with rfl | hp
      · exact c1.mono l2
      · exact c2 p hp, S2⟩
end
inductive LkF (f : Str → Option Value) : Loc → Prop
  | nil : LkF f []
  | cons {x : Str} {v : Value} {r : Loc} : f x = some v → LkF f r → LkF f ((x, v) :: r)
theorem LkF.look {f : Str → Option Value} {m : Loc} (k : LkF f m) : ∀ y v, m.lookup y = some v → f y = some v := by
  induction k with
  | nil => intro y v h; simp at h
  | @cons x v r h _ ih =>
    intro y u e
    rw [List.lookup_cons] at e
    split at e
    · rename_i q; cases e; rw [eq_of_beq q]; exact h
    · exact ih y u e
inductive CA : List (Str × Option Value) → List (Str × Addr) → List (Addr × Cell) → Prop
  | nil : CA [] [] []
  | cons {n : Str} {v : Option Value} {c : Addr} {r : List (Str × Option Value)} {cl : List (Str × Addr)} {Λ : List (Addr × Cell)} : CA r cl Λ → CA ((n, v) :: r) ((n, c) :: cl) ((c, .cl v) :: Λ)
section
variable {w : World} {A : Around} {E : Value → Shared → Prop} {s : Shared} {h h' : Heap} {t : Nat} {K : Ent} {L : Addr} {m m' : Loc} {g : Frz} {Γ Γ' ΓD Λ : List (Addr × Cell)} {env : Env}
theorem St.addTop {a : Addr} {c : Cell} (S : St w K L m g (ΓD ++ Λ) h) (hc : At w h.get? a c) (ha : K.h₀.objs.size ≤ a) (haB : K.B.objs.size ≤ a) (hL : a ≠ L) (hG : a ∉ (ΓD ++ Λ).map (·.1)) (hg : g a = none) : St w K L m g (ΓD ++ (a, c) :: Λ) h := by
  refine St.perm (Γ := (a, c) :: (ΓD ++ Λ)) ⟨S.ns, S.base, fun b o e => ?_, fun p hp => ?_, fun p hp => ?_, List.nodup_cons.mpr ⟨hG, S.nd⟩, S.keeps, S.lf, S.grow, S.gmono, S.gnew, S.gB⟩ (perm_mid ..)
  · have z := S.frz b o e
    refine ⟨z.1, z.2.1, fun y => ?_⟩
    rcases List.mem_cons.mp y with y | y
    · dsimp only at y; rw [y, hg] at e; cases e
    · exact z.2.2 y
  · rcases List.mem_cons.mp hp with rfl | hp
    · exact hc
    · exact S.led p hp
  · rcases List.mem_cons.mp hp with rfl | hp
    · exact ⟨hL, haB, .inr ha⟩
    · exact S.off p hp
theorem St.addCells {cm : Str → Option Value} : ∀ {cs : List (Str × Addr)}, St w K L m g ΓD h → (∀ n c, (n, c) ∈ cs → h.IsCell c (cm n)) → cs.Pairwise (fun x y => x.2 ≠ y.2) →
    (∀ n c, (n, c) ∈ cs → K.h₀.objs.size ≤ c ∧ K.B.objs.size ≤ c ∧ c ≠ L ∧ c ∉ ΓD.map (·.1) ∧ g c = none) → ∃ Λ, CA (cs.map fun x => (x.1, cm x.1)) cs Λ ∧ St w K L m g (ΓD ++ Λ) h ∧ Λ.map (·.1) = cs.map (·.2)
  | [], S, _, _, _ => ⟨[], .nil, by rw [List.append_nil]; exact S, rfl⟩
  | (n, c) :: cs, S, hc, hp, ha => by
    obtain ⟨Λ, x, S', e⟩ := St.addCells S (fun n' c' hm => hc n' c' (.tail _ hm)) (List.pairwise_cons.mp hp).2 (fun n' c' hm => ha n' c' (.tail _ hm))
    obtain ⟨h1, h2, h3, h4, h5⟩ := ha n c (.head _)
    have q : c ∉ (ΓD ++ Λ).map (·.1) := fun y => by
      rw [List.map_append] at y
      rcases List.mem_append.mp y with y | y
      · exact h4 y
      · rw [e] at y
        obtain ⟨z, hz, e'⟩ := List.mem_map.mp y
        exact (List.pairwise_cons.mp hp).1 z hz e'.symm
    exact ⟨(c, .cl (cm n)) :: Λ, .cons x, S'.addTop (c := .cl (cm n)) (hc n c (.head _)) h1 h2 h3 q h5, by simp [e]⟩
theorem St.enterL {ΓD : List (Addr × Cell)} {h h₁ : Heap} {binds : Loc} (S : St w K L m g (ΓD ++ Γ) h) (hn : NsL h₁ h.objs.size binds) (hk : ∀ b o, h.get? b = some o → h₁.get? b = some o) (hs : h.objs.size ≤ h₁.objs.size) :
    St w ⟨K.B, h, ΓD.map (·.1), g⟩ h.objs.size binds g ΓD h₁ where
  ns := hn
  base b o e := hk b o (S.base b o e)
  frz b o e := have z := S.frz b o e; ⟨hk b o z.1, Nat.ne_of_lt (Heap.lt_size z.1), fun y => z.2.2 (by rw [List.map_append]; exact List.mem_append_left _ y)⟩
  led p hp := (S.led p (List.mem_append_left _ hp)).mono hk
  off p hp := have z := S.off p (List.mem_append_left _ hp); ⟨Nat.ne_of_lt (S.led p (List.mem_append_left _ hp)).lt, z.2.1, .inl (List.mem_map_of_mem hp)⟩
  nd := by have := S.nd; rw [List.map_append] at this; exact (List.nodup_append.mp this).1
  keeps b o _ e := hk b o e
  lf := ⟨Nat.le_refl _, S.bsize⟩
  grow := hs
  gmono _ _ e := e
  gnew _ _ e := .inl e
  gB := S.gB
theorem call_fnC {name qual : Str} {params : Arguments} {body : List Stmt} {scope : Scope} {dV kV doc pm cdv ct oc : Value} {an od : Option Addr} {osl : Array (Option Value)} {f : Addr} {args : List Value} {n : Nat} {binds : List (Str × Value)}
    {Q : Value → Shared → Prop} (ΓD : List (Addr × Cell)) (m₀ : Loc) (vs0 : List (Str × Option Value)) (S : St w K L m g (ΓD ++ Γ) h) (bs : Bs w K.B) (room : Room A (n + 1))
    (ho : (hd.heap_39 w.params).lookup f = some ⟨oc, od, .func (fnOf name qual params body scope dV kV doc pm an cdv ct), osl⟩) (hcd : codeIn (hd.heap_39 w.params) cdv qual = true)
    (hbind : bindArgs (fnOf name qual params body scope dV kV doc pm an cdv ct) ⟨args, []⟩ = pure binds)
    (hkind : (binds.all fun y => scope.names.lookup y.1 == some .local || scope.names.lookup y.1 == some .cell) = true) (hnd : ((cellsFrom 0 scope.names []).map (·.1)).Nodup)
    (hm : ∀ L, LkF (bindL (envOfC qual scope L f cdv).kindOf binds fun _ => none) m₀)
    (hv : ∀ L, (cellsFrom (L + 1) scope.names []).map (fun x => (x.1, bindC (envOfC qual scope L f cdv).kindOf binds (fun _ => none) x.1)) = vs0)
    (q : ∀ L' h₁ tk cl Λ A' K' P, CA vs0 cl Λ → K' = ⟨K.B, h, ΓD.map (·.1), g⟩ → Room A' n → (∀ {L'' : Addr} {m' : Loc} {g' : Frz} {ΓD' Λx Λ' : List (Addr × Cell)} {h' : Heap} {t' : Nat} {v : Value}, St w K' L'' m' g' (ΓD' ++ (Λx ++ Λ')) h' → (St w K L m g' (ΓD' ++ (Λx ++ Γ)) h' → Q v (sh s h' t')) → (hD : ΓD'.map (·.1) = ΓD.map (·.1) := by rfl) → P v (sh s h' t')) → St w K' L' m₀ g (ΓD ++ Λ) h₁ →
      wpAny (model PG w) A' (execs body (envX qual scope L' f cdv cl)) (Rt P) (fun _ _ => False) (sh s h₁ tk))
    (hco : scope.isCoroutine = false) (hgen : scope.isGenerator = false) (hk : scope.kind = .function) : wpAny (model PG w) A (call (.ref f) args) Q E (sh s h t) := by
  have X := bs.X.keeps S.base
  refine wpAny_call (codeAny_call_function room.dd (X _ _ ho) rfl hco hgen rfl (codeRec_of X hcd) ((BindsTo.of_eq hbind) _ _ _ _ ?_))
  refine wpAny_newFunctionEnv_cells (s := sh s h t) hk (kindsX hkind _) fun env' he s' x => ?_
  subst he
  refine ⟨(bs.lim.keeps S.base).keeps x.toInCall.keep, codeAny_func ?_⟩
  obtain ⟨h₁, tk, rfl, hkeep⟩ := x.done
  have hns : h₁.Ns h.objs.size (bindL (envOfC qual scope h.objs.size f cdv).kindOf binds fun _ => none) := x.toInCall.ns
  have hk₁ : ∀ b o, h.get? b = some o → h₁.get? b = some o := hkeep
  have hs : h.objs.size ≤ h₁.objs.size := Nat.le_of_lt hns.lt
  have S1 := S.enterL ⟨_, hns, (hm h.objs.size).look⟩ hk₁ hs
  have memlk : ∀ n c, (n, c) ∈ cellsFrom (h.objs.size + 1) scope.names [] → (cellsFrom (h.objs.size + 1) scope.names []).lookup n = some c :=
    fun n c hmm => lookup_of_mem_nodup (cellsFrom_names scope.names 0 (h.objs.size + 1) [] [] rfl ▸ hnd) hmm
  have above : ∀ n c, (n, c) ∈ cellsFrom (h.objs.size + 1) scope.names [] → h.objs.size < c := x.above
  obtain ⟨Λ, y, S2, _⟩ := St.addCells (cm := bindC (envOfC qual scope h.objs.size f cdv).kindOf binds fun _ => none) (cs := cellsFrom (h.objs.size + 1) scope.names []) S1 (fun n c hmm => x.cell n c (memlk n c hmm)) x.apart (fun n c hmm => by
    have z := above n c hmm
    refine ⟨Nat.le_of_lt z, Nat.le_trans S.bsize (Nat.le_of_lt z), Nat.ne_of_gt z, fun q => ?_, ?_⟩
    · obtain ⟨p, hp, e⟩ := List.mem_map.mp q
      exact Nat.lt_irrefl _ (Nat.lt_trans z (e ▸ (S.led p (List.mem_append_left _ hp)).lt))
    · cases q : g c with
      | none => rfl
      | some o => exact absurd (Heap.lt_size (S.frz c o q).1) (Nat.not_lt.mpr (Nat.le_of_lt z)))
  rw [hv] at y
  exact wpAny_mono (q h.objs.size h₁ tk _ Λ _ _ Q y rfl (room.deeper _) (fun S' k hD => k (S.back S' hD)) S2) (fun fl s' hl => hl) fun _ _ y => y.elim
theorem nm_c {x : Str} {pos : Pos} {c : Addr} {v : Value} {Q : Value → Shared → Prop} (S : St w K L m g Γ h) (hc : env.cells.lookup x = some c) (k : (c, Cell.cl (some v)) ∈ Γ) (q : Q v (sh s h t))
    (hx : env.kindOf x = some .cell) (hk : env.scope.kind = .function) (hd : (x == ("__debug__" : Str)) = false) : wpAny (model PG w) A (eval (.Name x pos) env) Q E (sh s h t) :=
  wpAny_Name (wpAny_loadName_cell hk hx hc (S.rd k) q) hd
theorem nm_f {x : Str} {pos : Pos} {c : Addr} {v : Value} {Q : Value → Shared → Prop} (S : St w K L m g Γ h) (hc : env.cells.lookup x = some c) (k : (c, Cell.cl (some v)) ∈ Γ) (q : Q v (sh s h t))
    (hx : env.kindOf x = some .free) (hk : env.scope.kind = .function) (hd : (x == ("__debug__" : Str)) = false) (hn : (x == ("__classdict__" : Str)) = false) : wpAny (model PG w) A (eval (.Name x pos) env) Q E (sh s h t) :=
  wpAny_Name (wpAny_loadName_free hk hx hc (S.rd k) q hn) hd
theorem st_c {x : Str} {c : Addr} {v₀ : Option Value} {v : Value} {Q : Unit → Shared → Prop} (S : St w K L m g Γ h) (hc : env.cells.lookup x = some c) (u : Upd c (.cl v₀) (.cl (some v)) Γ Γ') (q : ∀ h' t', St w K L m g Γ' h' → Q () (sh s h' t'))
    (hx : env.kindOf x = some .cell) (hk : env.scope.kind = .function) : wpAny (model PG w) A (storeName env x v) Q E (sh s h t) :=
  wpAny_storeName_cell (s := sh s h t) hk hx hc (S.rd u.old) fun h' hv hs => q h' t (S.upd u hs hv)
theorem if0 {cenv : Env} {Q : Bool → Shared → Prop} (q : Q true s) : wpAny (model PG w) A (forIn ([] : List Expr) true fun c r => if r = true then do let ok ← isTrue c cenv (eval c cenv); pure (ForInStep.yield ok) else pure (ForInStep.yield r)) Q E s := by
  rw [List.forIn_nil]; exact wpAny_pure q
theorem if1 {c : Expr} {cenv : Env} {Q : Bool → Shared → Prop} (q : wpAny (model PG w) A (isTrue c cenv (eval c cenv)) Q E s) :
    wpAny (model PG w) A (forIn [c] true fun c r => if r = true then do let ok ← isTrue c cenv (eval c cenv); pure (ForInStep.yield ok) else pure (ForInStep.yield r)) Q E s := by
  rw [List.forIn_cons]
  simp only [if_true]
  refine wpAny_bind (wpAny_bind (wpAny_mono q (fun b s' h => wpAny_pure ?_) fun _ _ e => e))
  simp only [List.forIn_nil]
  exact wpAny_pure h
theorem isnot_none {v : Value} {b : Bool} {Q : Value → Shared → Prop} (e : (v = .none ∧ b = false) ∨ ((∃ i t, v = .int i t) ∧ b = true)) (q : Q (.bool b) s) : wpAny (model PG w) A (compareOp .IsNot v .none) Q E s := by
  rcases e with ⟨rfl, rfl⟩ | ⟨⟨i, t, rfl⟩, rfl⟩
  · exact wpAny_isNot_self rfl q
  · exact PyProof.Rows.isnot_int_none q
theorem for_fix {target : Expr} {body : List Stmt} {it : Addr} {n : Nat} {P : Nat → Value → Prop} {Ic : Nat → Cell} {Ok : Heap → Prop} {Q : Flow → Shared → Prop}
    (J : Nat → Frz → List (Addr × Cell) → Prop) (sr : Src w A it n P Ic Ok) (S : St w K L m g (ΓD ++ (it, Ic 0) :: Λ) h) (j0 : J 0 g ΓD)
    (ok : ∀ i g ΓD h, J i g ΓD → St w K L m g (ΓD ++ (it, Ic i) :: Λ) h → Ok h)
    (hg : (∃ x p, target = .Name x p) ∨ (∃ elts k p, target = .Tuple elts k p ∧ ∀ i v, P i v → ∃ T, v = .ref T))
    (step : ∀ i v g ΓD h t P', i < n → P i v → J i g ΓD → LpK w K L it (Ic (i + 1)) (fun m' g ΓD Λ' => m = m' ∧ Λ = Λ' ∧ J (i + 1) g ΓD) s Q P' → St w K L m g (ΓD ++ (it, Ic (i + 1)) :: Λ) h →
      wpAny (model PG w) A (assign target env v) (fun _ s₁ => wpAny (model PG w) A (execs body env) P' (fun _ _ => False) s₁) (fun _ _ => False) (sh s h t))
    (done : ∀ g ΓD h t, J n g ΓD → St w K L m g (ΓD ++ Λ) h → Q .next (sh s h t)) :
    codeAny (model PG w) A (.forLoop target (.ref it) body [] env) (ForR w A env Q E) (sh s h t) := by
  refine for_go (J := fun i m' g ΓD Λ' => m = m' ∧ Λ = Λ' ∧ J i g ΓD) sr S ⟨rfl, rfl, j0⟩ ?_ hg ?_ ?_
  · rintro i m' g ΓD Λ' h ⟨rfl, rfl, j⟩ S; exact ok _ _ _ _ j S
  · rintro i v m' g ΓD Λ' h t P' hi hx ⟨rfl, rfl, j⟩ X S; exact step _ _ _ _ _ _ _ hi hx j X S
  · rintro m' g ΓD Λ' h t ⟨rfl, rfl, j⟩ S; exact done _ _ _ _ j S
theorem comp_TD {elt target iter : Expr} {ifs : List Expr} {scope : Scope} {pos : Pos} {cl : List (Str × Addr)} {it ac : Addr} {n : Nat} {P : Nat → Value → Prop} {Ic : Nat → Cell} {Ok : Heap → Prop} {Q : Value → Shared → Prop}
    (T : Nat → List Value → (Frz → List (Addr × Cell) → Prop) → Prop) (sr : Src w A it n P Ic Ok) (S : St w K L m g (ΓD ++ (ac, .lx []) :: (it, Ic 0) :: Λ) h) (hn : n ≤ 1000)
    (tt : ∀ i vs R, (∀ g ΓD₁, (∀ R' : Frz → List (Addr × Cell) → Prop, T i vs R' → R' g ΓD₁) → R g ΓD₁) → T i vs R) (j0 : ∀ R : Frz → List (Addr × Cell) → Prop, T 0 [] R → R g ΓD)
    (ok : ∀ K2 C i vs, T i vs fun g₁ ΓD₁ => ∀ h₁, g.le g₁ → St w K2 C [] g₁ (ΓD₁ ++ (ac, .lx vs) :: (it, Ic i) :: Λ) h₁ → Ok h₁)
    (keys : ∀ i vs, T i vs fun _ ΓD₁ => ΓD₁.map (·.1) = ΓD.map (·.1) ∧ vs.length ≤ i)
    (ht : ∀ v, letOwnedTupleGo target (.ref it) v = pure ())
    (step : ∀ K2 C i v vs (PE : Value → Shared → Prop) (PF : Shared → Prop), K2 = ⟨K.B, h, (ΓD ++ (ac, .lx []) :: (it, Ic 0) :: Λ).map (·.1), g⟩ → i < n → P i v →
      (∀ x, T (i + 1) (vs ++ [x]) fun g₁ ΓD₁ => ∀ m h₁ t₁, St w K2 C m g₁ (ΓD₁ ++ (ac, .lx vs) :: (it, Ic (i + 1)) :: Λ) h₁ → PE x (sh s h₁ t₁)) →
      (T (i + 1) vs fun g₁ ΓD₁ => ∀ m h₁ t₁, St w K2 C m g₁ (ΓD₁ ++ (ac, .lx vs) :: (it, Ic (i + 1)) :: Λ) h₁ → PF (sh s h₁ t₁)) →
      T i vs fun g₁ ΓD₁ => ∀ h₁ t₁, St w K2 C [] g₁ (ΓD₁ ++ (ac, .lx vs) :: (it, Ic (i + 1)) :: Λ) h₁ →
      wpAny (model PG w) A (assign target (compEnvC scope cl C env) v) (fun _ s₂ =>
        wpAny (model PG w) A (forIn ifs true fun c r => if r = true then do let ok ← isTrue c (compEnvC scope cl C env) (eval c (compEnvC scope cl C env)); pure (ForInStep.yield ok) else pure (ForInStep.yield r)) (fun ok s₃ =>
          if ok = true then wpAny (model PG w) A (eval elt (compEnvC scope cl C env)) PE (fun _ _ => False) s₃ else PF s₃) (fun _ _ => False) s₂) (fun _ _ => False) (sh s h₁ t₁))
    (done : ∀ vs, T n vs fun g₁ ΓD₁ => ∀ h₁ t₁, g.le g₁ → St w K L m g₁ (ΓD₁ ++ (ac, .lx vs) :: Λ) h₁ → Q (.ref ac) (sh s h₁ t₁))
    (hcell : ∀ x ∈ scope.names, x.2 ≠ .cell) (hk : scope.kind = .function) :
    CmpU w A E elt target iter ifs scope pos cl env none Q (.ref it) (.ref ac) (sh s h t) := 
  comp_D0 (J := fun i vs g ΓD => ∀ R : Frz → List (Addr × Cell) → Prop, T i vs R → R g ΓD) sr S hn j0 (fun K2 C i vs _ _ h j hl S => j _ (ok K2 C i vs) h hl S) (fun i vs _ _ j => j _ (keys i vs)) ht
    (fun K2 C i v vs _ _ h t PE PF hK hi hx j XE XF S => j _ (step K2 C i v vs PE PF hK hi hx (fun _ => tt _ _ _ fun _ _ jj _ _ _ S => XE S jj) (tt _ _ _ fun _ _ jj _ _ _ S => XF S jj)) h t S) (fun vs _ _ _ _ _ _ j hl nsC S2 C1 C2 C3 => ⟨_, nsC, fun h₃ hs₃ => j _ (done vs) h₃ _ hl (S2.other hs₃.extBut C1 C2 C3 S.bsize S.grow)⟩) hcell hk
theorem comp_TF {elt target iter : Expr} {ifs : List Expr} {scope : Scope} {pos : Pos} {cl : List (Str × Addr)} {it ac : Addr} {n : Nat} {P : Nat → Value → Prop} {Ic : Nat → Cell} {Ok : Heap → Prop} {Q : Value → Shared → Prop}
    (T : Nat → List Value → (Frz → Prop) → Prop) (sr : Src w A it n P Ic Ok) (S : St w K L m g (ΓD ++ (ac, .lx []) :: (it, Ic 0) :: Λ) h) (hn : n ≤ 1000)
    (tt : ∀ i vs R, (∀ g, (∀ R' : Frz → Prop, T i vs R' → R' g) → R g) → T i vs R) (j0 : ∀ R : Frz → Prop, T 0 [] R → R g)
    (ok : ∀ K2 C i vs, T i vs fun g₁ => ∀ h₁, g.le g₁ → St w K2 C [] g₁ (ΓD ++ (ac, .lx vs) :: (it, Ic i) :: Λ) h₁ → Ok h₁)
    (keys : ∀ i vs, T i vs fun _ => vs.length ≤ i)
    (ht : ∀ v, letOwnedTupleGo target (.ref it) v = pure ())
    (step : ∀ K2 C i v vs (PE : Value → Shared → Prop) (PF : Shared → Prop), K2 = ⟨K.B, h, (ΓD ++ (ac, .lx []) :: (it, Ic 0) :: Λ).map (·.1), g⟩ → i < n → P i v →
      (∀ x, T (i + 1) (vs ++ [x]) fun g₁ => ∀ m h₁ t₁, St w K2 C m g₁ (ΓD ++ (ac, .lx vs) :: (it, Ic (i + 1)) :: Λ) h₁ → PE x (sh s h₁ t₁)) →
      (T (i + 1) vs fun g₁ => ∀ m h₁ t₁, St w K2 C m g₁ (ΓD ++ (ac, .lx vs) :: (it, Ic (i + 1)) :: Λ) h₁ → PF (sh s h₁ t₁)) →
      T i vs fun g₁ => ∀ h₁ t₁, St w K2 C [] g₁ (ΓD ++ (ac, .lx vs) :: (it, Ic (i + 1)) :: Λ) h₁ →
      wpAny (model PG w) A (assign target (compEnvC scope cl C env) v) (fun _ s₂ =>
        wpAny (model PG w) A (forIn ifs true fun c r => if r = true then do let ok ← isTrue c (compEnvC scope cl C env) (eval c (compEnvC scope cl C env)); pure (ForInStep.yield ok) else pure (ForInStep.yield r)) (fun ok s₃ =>
          if ok = true then wpAny (model PG w) A (eval elt (compEnvC scope cl C env)) PE (fun _ _ => False) s₃ else PF s₃) (fun _ _ => False) s₂) (fun _ _ => False) (sh s h₁ t₁))
    (done : ∀ vs, T n vs fun g₁ => ∀ h₁ t₁, g.le g₁ → St w K L m g₁ (ΓD ++ (ac, .lx vs) :: Λ) h₁ → Q (.ref ac) (sh s h₁ t₁))
    (hcell : ∀ x ∈ scope.names, x.2 ≠ .cell) (hk : scope.kind = .function) :
    CmpU w A E elt target iter ifs scope pos cl env none Q (.ref it) (.ref ac) (sh s h t) := 
  comp_TD (T := fun i vs R => T i vs fun g => R g ΓD) sr S hn (fun i vs R H => tt i vs _ fun g k => H g ΓD fun R' r => k (fun g => R' g ΓD) r) (fun R r => j0 _ r) ok (fun i vs => tt i vs _ fun _ k => ⟨rfl, k _ (keys i vs)⟩) ht step done hcell hk
theorem new_tpF {vs : List Value} {Q : Value → Shared → Prop} (S : St w K L m g (ΓD ++ Λ) h) (q : ∀ a g' h', g.le g' → At w g' a (.tp vs) → St w K L m g' (ΓD ++ Λ) h' → Q (.ref a) (sh s h' t)) (hsz : vs.length ≤ sizeLine) :
    wpAny (model PG w) A (newTuple vs) Q E (sh s h t) :=
  wpAny_newObj_type (by
    have S1 := S.pushL (o := { cls := .type "tuple", data := .seq vs.toArray }) (c := .tp vs) ⟨rfl, 0, rfl⟩ rfl
    obtain ⟨g', l, c, S2⟩ := S1.freezeL S.grow
    exact q _ g' _ l c S2) (by show vs.toArray.size ≤ sizeLine; rw [List.size_toArray]; exact hsz)
theorem ls_eqI {a b : Addr} {vs us : List Value} {ns ms : List Int} {n : Nat} {Q : Value → Shared → Prop} (c : At w h.get? a (.ls vs)) (d : At w h.get? b (.ls us)) (hi : IntsAre vs ns) (hj : IntsAre us ms) (r : Room A n) (q : Q (.bool (decide (ns = ms))) (sh s h t)) : wpAny (model PG w) A (compareOp .Eq (.ref a) (.ref b)) Q E (sh s h t) :=
  ke_eq_ints c.list d.list hi hj (by have := r.u; lia) q
theorem ls_neI {a b : Addr} {vs us : List Value} {ns ms : List Int} {n : Nat} {Q : Value → Shared → Prop} (c : At w h.get? a (.ls vs)) (d : At w h.get? b (.ls us)) (hi : IntsAre vs ns) (hj : IntsAre us ms) (r : Room A n) (q : Q (.bool (!decide (ns = ms))) (sh s h t)) : wpAny (model PG w) A (compareOp .NotEq (.ref a) (.ref b)) Q E (sh s h t) :=
  ke_ne_ints c.list d.list hi hj (by have := r.u; lia) q
theorem cutG {st : Stmt} {Q : Flow → Shared → Prop} (T : (Loc → Frz → List (Addr × Cell) → Prop) → Prop) (S : St w K L m g (ΓD ++ Λ) h)
    (h1 : ∀ P : Flow → Shared → Prop, T (fun m g ΓD => ∀ h t, St w K L m g (ΓD ++ Λ) h → P .next (sh s h t)) → wpAny (model PG w) A (exec st env) P (fun _ _ => False) (sh s h t))
    (h2 : T fun m g ΓD => ∀ h t, St w K L m g (ΓD ++ Λ) h → Q .next (sh s h t)) : wpAny (model PG w) A (exec st env) Q E (sh s h t) := wpAny_mono (h1 Q h2) (fun _ _ q => q) fun _ _ e => e.elim
theorem for_T {target : Expr} {body : List Stmt} {it : Addr} {n : Nat} {P : Nat → Value → Prop} {Ic : Nat → Cell} {Ok : Heap → Prop} {Q : Flow → Shared → Prop}
    (T : Nat → (Frz → List (Addr × Cell) → Prop) → Prop) (sr : Src w A it n P Ic Ok) (S : St w K L m g (ΓD ++ (it, Ic 0) :: Λ) h)
    (tt : ∀ i R, (∀ g ΓD, (∀ R' : Frz → List (Addr × Cell) → Prop, T i R' → R' g ΓD) → R g ΓD) → T i R) (j0 : ∀ R : Frz → List (Addr × Cell) → Prop, T 0 R → R g ΓD)
    (ok : ∀ i, T i fun g ΓD => ∀ h, St w K L m g (ΓD ++ (it, Ic i) :: Λ) h → Ok h)
    (hg : (∃ x p, target = .Name x p) ∨ (∃ elts k p, target = .Tuple elts k p ∧ ∀ i v, P i v → ∃ T, v = .ref T))
    (step : ∀ i v (P' : Flow → Shared → Prop), i < n → P i v → T (i + 1) (fun g ΓD => ∀ f h t, f = .next ∨ f = .cont → St w K L m g (ΓD ++ (it, Ic (i + 1)) :: Λ) h → P' f (sh s h t)) →
      T i fun g ΓD => ∀ h t, St w K L m g (ΓD ++ (it, Ic (i + 1)) :: Λ) h → wpAny (model PG w) A (assign target env v) (fun _ s₁ => wpAny (model PG w) A (execs body env) P' (fun _ _ => False) s₁) (fun _ _ => False) (sh s h t))
    (done : T n fun g ΓD => ∀ h t, St w K L m g (ΓD ++ Λ) h → Q .next (sh s h t)) :
    codeAny (model PG w) A (.forLoop target (.ref it) body [] env) (ForR w A env Q E) (sh s h t) :=
  for_fix (J := fun i g ΓD => ∀ R : Frz → List (Addr × Cell) → Prop, T i R → R g ΓD) sr S j0 (fun i _ _ h j S => j _ (ok i) h S) hg
    (fun i v _ _ h t P' hi hx j X S => j _ (step i v P' hi hx (tt _ _ fun _ _ jj f _ _ e S => e.elim (fun e => e ▸ X.next S ⟨rfl, rfl, jj⟩) fun e => e ▸ X.cont S ⟨rfl, rfl, jj⟩)) h t S) fun _ _ h t j S => j _ done h t S
theorem cutV {e : Expr} {Q : Value → Shared → Prop} (h1 : ∀ P : Value → Shared → Prop, (∀ v t, P v (sh s h t)) → wpAny (model PG w) A (eval e env) P (fun _ _ => False) (sh s h t)) (h2 : ∀ v t, Q v (sh s h t)) : wpAny (model PG w) A (eval e env) Q E (sh s h t) :=
  wpAny_mono (h1 (fun _ s' => ∃ t, s' = sh s h t) fun _ t => ⟨t, rfl⟩) (fun v s' ⟨_, e⟩ => by rw [e]; exact h2 v _) fun _ _ e => e.elim
end
structure Cx where
  w : World
  K : Ent
  L : Addr
  m : Loc
  g : Frz
  Γ : List (Addr × Cell)
  h : Heap
def nmOk (env : Env) (x : Str) : Bool := env.kindOf x == some .local && !(x == ("__debug__" : Str))
def ncOk (env : Env) (x : Str) : Bool := (env.kindOf x == some .cell || (env.kindOf x == some .free && !(x == ("__classdict__" : Str)))) && !(x == ("__debug__" : Str))
theorem bim {op : CmpOp} {r : Expr} (h : (match op with | .In | .NotIn => false | _ => true) = true) : behindInMarks op r = false := by
  cases r <;> first | rfl | (cases op <;> first | rfl | (exact absurd h (by decide)) | (unfold behindInMarks; rw [Bool.and_assoc]; cases (_ == 0) <;> rfl) | (simp [behindInMarks]; done) | (unfold behindInMarks; simp; intros; decide))
structure In (X : Cx) (env : Env) : Prop where
  S : St X.w X.K X.L X.m X.g X.Γ X.h
  l : env.locals = X.L
  k : env.scope.kind = .function
def Ev (X : Cx) (env : Env) (e : Expr) (t : Nat) (v : Value) (t' : Nat) : Prop :=
  (∀ rest, starEach (e :: rest) env = (false, eval e env) :: starEach rest env) ∧ (In X env → ∀ {A : Around} {E Q : Value → Shared → Prop} {s : Shared}, Q v (sh s X.h t') → wpAny (model PG X.w) A (eval e env) Q E (sh s X.h t))
def EvC (X : Cx) (env : Env) (l : Expr) (op : CmpOp) (r : Expr) (t : Nat) (b : Bool) (t' : Nat) : Prop :=
  behindInMarks op r = false ∧ (In X env → ∀ {A : Around} {E Q : Value → Shared → Prop} {s : Shared}, Q (.bool b) (sh s X.h t') → wpAny (model PG X.w) A (eval l env) (fun a s₁ => wpAny (model PG X.w) A (eval r env) (fun c s₂ => wpAny (model PG X.w) A (compareOp op a c) Q E s₂) E s₁) E (sh s X.h t))
section
variable {X : Cx} {env : Env}
theorem Ev.nm {x : Str} {p : Pos} {t : Nat} {v : Value} (k : lkE X.m x = some v) (o : nmOk env x = true) : Ev X env (.Name x p) t v t := ⟨fun _ => rfl, fun I {_ _ _ _} q => by
  unfold nmOk at o
  simp only [Bool.and_eq_true, beq_iff_eq, Bool.not_eq_true'] at o
  obtain ⟨_, n, z⟩ := I.S.ns
  exact wpAny_Name (wpAny_loadName_local I.k o.1 (I.l ▸ n) (z _ _ (lkE_lookup k)) q) o.2⟩
theorem Ev.nc {x : Str} {p : Pos} {t : Nat} {v : Value} {c : Addr} (e : env.cells.lookup x = some c) (k : (c, Cell.cl (some v)) ∈ X.Γ) (o : ncOk env x = true) : Ev X env (.Name x p) t v t := ⟨fun _ => rfl, fun I {_ _ _ _} q => by
  unfold ncOk at o
  simp only [Bool.and_eq_true, Bool.or_eq_true, beq_iff_eq, Bool.not_eq_true'] at o
  rcases o.1 with h | h
  · exact nm_c I.S e k q h I.k o.2
  · exact nm_f I.S e k q h.1 I.k o.2 h.2⟩
theorem Ev.ki {i : Int} {k : Nat} {p : Pos} {t : Nat} : Ev X env (.Constant (.int i) k p) t (.int i t) (t + 1) := ⟨fun _ => rfl, fun _ {_ _ _ _} q => wpAny_Constant_int q⟩
theorem Ev.ks {x : Str} {k : Nat} {p : Pos} {t : Nat} : Ev X env (.Constant (.str x) k p) t (.str x t) (t + 1) := ⟨fun _ => rfl, fun _ {_ _ _ _} q => wpAny_Constant_str q⟩
theorem Ev.kb {b : Bool} {k : Nat} {p : Pos} {t : Nat} : Ev X env (.Constant (.bool b) k p) t (.bool b) t := ⟨fun _ => rfl, fun _ {_ _ _ _} q => wpAny_Constant_bool q⟩
theorem Ev.add {l r : Expr} {p : Pos} {a b : Int} {ta tb t t1 t2 : Nat} (x : Ev X env l t (.int a ta) t1) (y : Ev X env r t1 (.int b tb) t2) : Ev X env (.BinOp l .Add r p) t (.int (a + b) t2) (t2 + 1) := ⟨fun _ => rfl, fun I {_ _ _ _} q => wpAny_BinOp (x.2 I (y.2 I (i_add q)))⟩
theorem Ev.sub {l r : Expr} {p : Pos} {a b : Int} {ta tb t t1 t2 : Nat} (x : Ev X env l t (.int a ta) t1) (y : Ev X env r t1 (.int b tb) t2) : Ev X env (.BinOp l .Sub r p) t (.int (a - b) t2) (t2 + 1) := ⟨fun _ => rfl, fun I {_ _ _ _} q => wpAny_BinOp (x.2 I (y.2 I (i_sub q)))⟩
theorem EvC.lt {l r : Expr} {a b : Int} {ta tb t t1 t2 : Nat} (x : Ev X env l t (.int a ta) t1) (y : Ev X env r t1 (.int b tb) t2) : EvC X env l .Lt r t (decide (a < b)) t2 := ⟨bim rfl, fun I {_ _ _ _} q => x.2 I (y.2 I (P.lt_int q))⟩
theorem EvC.le {l r : Expr} {a b : Int} {ta tb t t1 t2 : Nat} (x : Ev X env l t (.int a ta) t1) (y : Ev X env r t1 (.int b tb) t2) : EvC X env l .LtE r t (decide (a ≤ b)) t2 := ⟨bim rfl, fun I {_ _ _ _} q => x.2 I (y.2 I (P.le_int q))⟩
theorem EvC.gt {l r : Expr} {a b : Int} {ta tb t t1 t2 : Nat} (x : Ev X env l t (.int a ta) t1) (y : Ev X env r t1 (.int b tb) t2) : EvC X env l .Gt r t (decide (a > b)) t2 := ⟨bim rfl, fun I {_ _ _ _} q => x.2 I (y.2 I (P.gt_int q))⟩
theorem EvC.ge {l r : Expr} {a b : Int} {ta tb t t1 t2 : Nat} (x : Ev X env l t (.int a ta) t1) (y : Ev X env r t1 (.int b tb) t2) : EvC X env l .GtE r t (decide (a ≥ b)) t2 := ⟨bim rfl, fun I {_ _ _ _} q => x.2 I (y.2 I (P.ge_int q))⟩
theorem EvC.eq {l r : Expr} {a b : Int} {ta tb t t1 t2 : Nat} (x : Ev X env l t (.int a ta) t1) (y : Ev X env r t1 (.int b tb) t2) : EvC X env l .Eq r t (a == b) t2 := ⟨bim rfl, fun I {_ _ _ _} q => x.2 I (y.2 I (P.eq_int q))⟩
theorem EvC.ne {l r : Expr} {a b : Int} {ta tb t t1 t2 : Nat} (x : Ev X env l t (.int a ta) t1) (y : Ev X env r t1 (.int b tb) t2) : EvC X env l .NotEq r t (a != b) t2 := ⟨bim rfl, fun I {_ _ _ _} q => x.2 I (y.2 I (P.ne_int q))⟩
theorem EvC.eqS {l r : Expr} {a b : Str} {ta tb t t1 t2 : Nat} (x : Ev X env l t (.str a ta) t1) (y : Ev X env r t1 (.str b tb) t2) : EvC X env l .Eq r t (a.cps.toList == b.cps.toList) t2 := ⟨bim rfl, fun I {_ _ _ _} q => x.2 I (y.2 I (P.eq_str q))⟩
theorem Ev.cmp {l r : Expr} {op : CmpOp} {p : Pos} {b : Bool} {t t' : Nat} (x : EvC X env l op r t b t') : Ev X env (.Compare l [op] [r] p) t (.bool b) t' := ⟨fun _ => rfl, fun I {_ _ _ _} q => wpAny_Compare1 (x.2 I q) x.1⟩
theorem Ev.dS {e i : Expr} {p : Pos} {a : Addr} {x : Str} {kvs : List (Str × Value)} {v : Value} {tx t t1 t2 : Nat} (y : Ev X env e t (.ref a) t1) (z : Ev X env i t1 (.str x tx) t2) (c : At X.w X.h.get? a (.dS kvs)) (k : lkE kvs x = some v)
    (o : ∀ x tx, subscripted i false (.ref a) (.str x tx) = operate [.ref a, .str x tx] (getItem (.ref a) (.str x tx))) : Ev X env (.Subscript e i p) t v (t2 + 1) :=
  ⟨fun _ => rfl, fun I {_ _ _ _} q => Subscript_ (y.2 I (z.2 I (tail_any c.dictS.typeIs slot_dict_getitem.lookup (wpAny_getItem_of (strKind_is PG X.w _ _) c.dictS.mapOf (lkE_value k) q) (o _ _))))⟩
theorem Ev.tp {e i : Expr} {p : Pos} {a : Addr} {k : Int} {j : Nat} {vs : List Value} {v : Value} {tx t t1 t2 : Nat} (y : Ev X env e t (.ref a) t1) (z : Ev X env i t1 (.int k tx) t2) (c : At X.w X.h.get? a (.tp vs)) (hj : seqIndex? k vs.length = some j) (hx : vs[j]? = some v)
    (hb : (decide (-(2 ^ 63) ≤ k) && decide (k < 2 ^ 63)) = true) (o : ∀ k tx, subscripted i false (.ref a) (.int k tx) = operate [.ref a, .int k tx] (getItem (.ref a) (.int k tx))) : Ev X env (.Subscript e i p) t v t2 :=
  ⟨fun _ => rfl, fun I {_ _ _ _} q => Subscript_ (y.2 I (z.2 I (item_tupleT c.tup (of_decide_eq_true (Bool.and_eq_true_iff.mp hb).1) (of_decide_eq_true (Bool.and_eq_true_iff.mp hb).2) hj hx q (o _ _))))⟩
theorem Ev.ls {e i : Expr} {p : Pos} {a : Addr} {k : Int} {vs : List Value} {v : Value} {tx t t1 t2 : Nat} (y : Ev X env e t (.ref a) t1) (z : Ev X env i t1 (.int k tx) t2) (c : At X.w X.h.get? a (.ls vs)) (hx : vs[k.toNat]? = some v)
    (hb : (decide (0 ≤ k) && decide (k < 2 ^ 63)) = true) (o : ∀ k tx, subscripted i false (.ref a) (.int k tx) = operate [.ref a, .int k tx] (getItem (.ref a) (.int k tx))) : Ev X env (.Subscript e i p) t v t2 :=
  ⟨fun _ => rfl, fun I {_ _ _ _} q => Subscript_ (y.2 I (z.2 I (sub_ls c (of_decide_eq_true (Bool.and_eq_true_iff.mp hb).1) hx q (of_decide_eq_true (Bool.and_eq_true_iff.mp hb).2) (o _ _))))⟩
def EvL (X : Cx) (env : Env) (es : List Expr) (t : Nat) (vs : List Value) (t' : Nat) : Prop :=
  In X env → ∀ {A : Around} {E : Value → Shared → Prop} {Q : List Value → Shared → Prop} {s : Shared} {pos : Pos}, Q vs (sh s X.h t') → wpAny (model PG X.w) A (spliced (backTo pos (starEach es env))) Q E (sh s X.h t)
theorem EvL.nil {t : Nat} : EvL X env [] t [] t := fun _ {_ _ _ _ _} q => args_nil q
theorem EvL.cons {e : Expr} {es : List Expr} {t t1 t2 : Nat} {v : Value} {vs : List Value} (d : Ev X env e t v t1) (r : EvL X env es t1 vs t2) : EvL X env (e :: es) t (v :: vs) t2 := fun I {_ _ _ _ _} q => args_cons (d.2 I (r I q)) (d.1 _)
end
section
variable {w : World} {A : Around} {E : Value → Shared → Prop} {s : Shared} {h : Heap} {t t' : Nat} {K : Ent} {L : Addr} {m : Loc} {g : Frz} {Γ : List (Addr × Cell)} {env : Env}
theorem ev_ {e : Expr} {v : Value} {Q : Value → Shared → Prop} (S : St w K L m g Γ h) (d : Ev ⟨w, K, L, m, g, Γ, h⟩ env e t v t') (q : Q v (sh s h t')) (hL : env.locals = L) (hk : env.scope.kind = .function) :
    wpAny (model PG w) A (eval e env) Q E (sh s h t) := d.2 ⟨S, hL, hk⟩ q
theorem evl_ {es : List Expr} {vs : List Value} {pos : Pos} {Q : List Value → Shared → Prop} (S : St w K L m g Γ h) (d : EvL ⟨w, K, L, m, g, Γ, h⟩ env es t vs t') (q : Q vs (sh s h t')) (hL : env.locals = L) (hk : env.scope.kind = .function) :
    wpAny (model PG w) A (spliced (backTo pos (starEach es env))) Q E (sh s h t) := d ⟨S, hL, hk⟩ q
theorem evb_ {l r : Expr} {op : CmpOp} {p : Pos} {b : Bool} {whole : Sem Value} {Q : Bool → Shared → Prop} (S : St w K L m g Γ h) (d : EvC ⟨w, K, L, m, g, Γ, h⟩ env l op r t b t') (q : Q b (sh s h t'))
    (hL : env.locals = L) (hk : env.scope.kind = .function) : wpAny (model PG w) A (isTrue (.Compare l [op] [r] p) env whole) Q E (sh s h t) := wpAny_isTrue_Compare1 (d.2 ⟨S, hL, hk⟩ (wpAny_truthy_bool q)) d.1
end
theorem Gfollowers (w : World) : nsIn (hd.heap_39 w.params) mainGlobals (Str.ofString "followers") = some (some (.ref 84)) := by kernel_rfl
theorem Gpostorder (w : World) : nsIn (hd.heap_39 w.params) mainGlobals (Str.ofString "postorder") = some (some (.ref 91)) := by kernel_rfl
theorem Gorder (w : World) : nsIn (hd.heap_39 w.params) mainGlobals (Str.ofString "order") = some (some (.ref 98)) := by kernel_rfl
theorem Gset_once (w : World) : nsIn (hd.heap_39 w.params) mainGlobals (Str.ofString "set_once") = some (some (.ref 106)) := by kernel_rfl
theorem Gslot_told (w : World) : nsIn (hd.heap_39 w.params) mainGlobals (Str.ofString "slot_told") = some (some (.ref 113)) := by kernel_rfl
theorem Gholders_of_slots (w : World) : nsIn (hd.heap_39 w.params) mainGlobals (Str.ofString "holders_of_slots") = some (some (.ref 120)) := by kernel_rfl
theorem Glet_go (w : World) : nsIn (hd.heap_39 w.params) mainGlobals (Str.ofString "let_go") = some (some (.ref 127)) := by kernel_rfl
theorem Gprivate_slots (w : World) : nsIn (hd.heap_39 w.params) mainGlobals (Str.ofString "private_slots") = some (some (.ref 134)) := by kernel_rfl
theorem Gis_inside (w : World) : nsIn (hd.heap_39 w.params) mainGlobals (Str.ofString "is_inside") = some (some (.ref 141)) := by kernel_rfl
theorem Gmay_meet (w : World) : nsIn (hd.heap_39 w.params) mainGlobals (Str.ofString "may_meet") = some (some (.ref 148)) := by kernel_rfl
theorem G_law_homes (w : World) : nsIn (hd.heap_39 w.params) mainGlobals (Str.ofString "_law_homes") = some (some (.ref 155)) := by kernel_rfl
theorem G_law_draw (w : World) : nsIn (hd.heap_39 w.params) mainGlobals (Str.ofString "_law_draw") = some (some (.ref 162)) := by kernel_rfl
theorem G_law_pick (w : World) : nsIn (hd.heap_39 w.params) mainGlobals (Str.ofString "_law_pick") = some (some (.ref 169)) := by kernel_rfl
theorem G_law_signed (w : World) : nsIn (hd.heap_39 w.params) mainGlobals (Str.ofString "_law_signed") = some (some (.ref 176)) := by kernel_rfl
theorem G_law_fresh (w : World) : nsIn (hd.heap_39 w.params) mainGlobals (Str.ofString "_law_fresh") = some (some (.ref 183)) := by kernel_rfl
theorem G_law_goal (w : World) : nsIn (hd.heap_39 w.params) mainGlobals (Str.ofString "_law_goal") = some (some (.ref 190)) := by kernel_rfl
theorem G_law_reached (w : World) : nsIn (hd.heap_39 w.params) mainGlobals (Str.ofString "_law_reached") = some (some (.ref 197)) := by kernel_rfl
theorem G_law_cleared (w : World) : nsIn (hd.heap_39 w.params) mainGlobals (Str.ofString "_law_cleared") = some (some (.ref 204)) := by kernel_rfl
theorem G_law_handed (w : World) : nsIn (hd.heap_39 w.params) mainGlobals (Str.ofString "_law_handed") = some (some (.ref 211)) := by kernel_rfl
theorem G_law_address (w : World) : nsIn (hd.heap_39 w.params) mainGlobals (Str.ofString "_law_address") = some (some (.ref 218)) := by kernel_rfl
theorem G_law_stored (w : World) : nsIn (hd.heap_39 w.params) mainGlobals (Str.ofString "_law_stored") = some (some (.ref 225)) := by kernel_rfl
theorem G_law_loaded (w : World) : nsIn (hd.heap_39 w.params) mainGlobals (Str.ofString "_law_loaded") = some (some (.ref 232)) := by kernel_rfl
theorem G_law_moved (w : World) : nsIn (hd.heap_39 w.params) mainGlobals (Str.ofString "_law_moved") = some (some (.ref 237)) := by kernel_rfl
theorem G_law_other (w : World) : nsIn (hd.heap_39 w.params) mainGlobals (Str.ofString "_law_other") = some (some (.ref 242)) := by kernel_rfl
theorem G_law_done (w : World) : nsIn (hd.heap_39 w.params) mainGlobals (Str.ofString "_law_done") = some (some (.ref 247)) := by kernel_rfl
theorem G_law_function (w : World) : nsIn (hd.heap_39 w.params) mainGlobals (Str.ofString "_law_function") = some (some (.ref 252)) := by kernel_rfl
theorem G_law_singles (w : World) : nsIn (hd.heap_39 w.params) mainGlobals (Str.ofString "_law_singles") = some (some (.ref 257)) := by kernel_rfl
theorem G_law_holders (w : World) : nsIn (hd.heap_39 w.params) mainGlobals (Str.ofString "_law_holders") = some (some (.ref 264)) := by kernel_rfl
theorem G_law_private (w : World) : nsIn (hd.heap_39 w.params) mainGlobals (Str.ofString "_law_private") = some (some (.ref 269)) := by kernel_rfl
theorem G_law_within (w : World) : nsIn (hd.heap_39 w.params) mainGlobals (Str.ofString "_law_within") = some (some (.ref 276)) := by kernel_rfl
theorem G_law_meets (w : World) : nsIn (hd.heap_39 w.params) mainGlobals (Str.ofString "_law_meets") = some (some (.ref 281)) := by kernel_rfl
theorem GStep (w : World) : nsIn (hd.heap_39 w.params) mainGlobals (Str.ofString "Step") = some (some (.ref 31)) := by kernel_rfl
theorem GBlock (w : World) : nsIn (hd.heap_39 w.params) mainGlobals (Str.ofString "Block") = some (some (.ref 52)) := by kernel_rfl
theorem GFunc (w : World) : nsIn (hd.heap_39 w.params) mainGlobals (Str.ofString "Func") = some (some (.ref 73)) := by kernel_rfl
theorem Pfollowers (w : World) : keepIn (hd.heap_39 w.params) (.ref 84) = true := by kernel_rfl
theorem Ppostorder (w : World) : keepIn (hd.heap_39 w.params) (.ref 91) = true := by kernel_rfl
theorem Porder (w : World) : keepIn (hd.heap_39 w.params) (.ref 98) = true := by kernel_rfl
theorem Pset_once (w : World) : keepIn (hd.heap_39 w.params) (.ref 106) = true := by kernel_rfl
theorem Pslot_told (w : World) : keepIn (hd.heap_39 w.params) (.ref 113) = true := by kernel_rfl
theorem Pholders_of_slots (w : World) : keepIn (hd.heap_39 w.params) (.ref 120) = true := by kernel_rfl
theorem Plet_go (w : World) : keepIn (hd.heap_39 w.params) (.ref 127) = true := by kernel_rfl
theorem Pprivate_slots (w : World) : keepIn (hd.heap_39 w.params) (.ref 134) = true := by kernel_rfl
theorem Pis_inside (w : World) : keepIn (hd.heap_39 w.params) (.ref 141) = true := by kernel_rfl
theorem Pmay_meet (w : World) : keepIn (hd.heap_39 w.params) (.ref 148) = true := by kernel_rfl
theorem P_law_homes (w : World) : keepIn (hd.heap_39 w.params) (.ref 155) = true := by kernel_rfl
theorem P_law_draw (w : World) : keepIn (hd.heap_39 w.params) (.ref 162) = true := by kernel_rfl
theorem P_law_pick (w : World) : keepIn (hd.heap_39 w.params) (.ref 169) = true := by kernel_rfl
theorem P_law_signed (w : World) : keepIn (hd.heap_39 w.params) (.ref 176) = true := by kernel_rfl
theorem P_law_fresh (w : World) : keepIn (hd.heap_39 w.params) (.ref 183) = true := by kernel_rfl
theorem P_law_goal (w : World) : keepIn (hd.heap_39 w.params) (.ref 190) = true := by kernel_rfl
theorem P_law_reached (w : World) : keepIn (hd.heap_39 w.params) (.ref 197) = true := by kernel_rfl
theorem P_law_cleared (w : World) : keepIn (hd.heap_39 w.params) (.ref 204) = true := by kernel_rfl
theorem P_law_handed (w : World) : keepIn (hd.heap_39 w.params) (.ref 211) = true := by kernel_rfl
theorem P_law_address (w : World) : keepIn (hd.heap_39 w.params) (.ref 218) = true := by kernel_rfl
theorem P_law_stored (w : World) : keepIn (hd.heap_39 w.params) (.ref 225) = true := by kernel_rfl
theorem P_law_loaded (w : World) : keepIn (hd.heap_39 w.params) (.ref 232) = true := by kernel_rfl
theorem P_law_moved (w : World) : keepIn (hd.heap_39 w.params) (.ref 237) = true := by kernel_rfl
theorem P_law_other (w : World) : keepIn (hd.heap_39 w.params) (.ref 242) = true := by kernel_rfl
theorem P_law_done (w : World) : keepIn (hd.heap_39 w.params) (.ref 247) = true := by kernel_rfl
theorem P_law_function (w : World) : keepIn (hd.heap_39 w.params) (.ref 252) = true := by kernel_rfl
theorem P_law_singles (w : World) : keepIn (hd.heap_39 w.params) (.ref 257) = true := by kernel_rfl
theorem P_law_holders (w : World) : keepIn (hd.heap_39 w.params) (.ref 264) = true := by kernel_rfl
theorem P_law_private (w : World) : keepIn (hd.heap_39 w.params) (.ref 269) = true := by kernel_rfl
theorem P_law_within (w : World) : keepIn (hd.heap_39 w.params) (.ref 276) = true := by kernel_rfl
theorem P_law_meets (w : World) : keepIn (hd.heap_39 w.params) (.ref 281) = true := by kernel_rfl
theorem PStep (w : World) : keepIn (hd.heap_39 w.params) (.ref 31) = true := by kernel_rfl
theorem PBlock (w : World) : keepIn (hd.heap_39 w.params) (.ref 52) = true := by kernel_rfl
theorem PFunc (w : World) : keepIn (hd.heap_39 w.params) (.ref 73) = true := by kernel_rfl
theorem G_law_wide (w : World) : nsIn (hd.heap_39 w.params) mainGlobals (Str.ofString "_law_wide") = some (some (.int 4294967296 416)) := by kernel_rfl
theorem GROUND (w : World) : nsIn (hd.heap_39 w.params) mainGlobals (Str.ofString "ROUND") = some (some (.int 4294967296 323)) := by kernel_rfl
theorem GADDRESSED (w : World) : nsIn (hd.heap_39 w.params) mainGlobals (Str.ofString "ADDRESSED") = some (some (.ref 99)) := by kernel_rfl
theorem Nlen (w : World) : nsIn (hd.heap_39 w.params) mainGlobals (Str.ofString "len") = some none := by kernel_rfl
theorem Blen : bootBuiltins (Str.ofString "len") = some (.builtin "len") := by kernel_rfl
theorem Nsorted (w : World) : nsIn (hd.heap_39 w.params) mainGlobals (Str.ofString "sorted") = some none := by kernel_rfl
theorem Bsorted : bootBuiltins (Str.ofString "sorted") = some (.builtin "sorted") := by kernel_rfl
theorem Nrange (w : World) : nsIn (hd.heap_39 w.params) mainGlobals (Str.ofString "range") = some none := by kernel_rfl
theorem Brange : bootBuiltins (Str.ofString "range") = some (.type "range") := by kernel_rfl
theorem Nint (w : World) : nsIn (hd.heap_39 w.params) mainGlobals (Str.ofString "int") = some none := by kernel_rfl
theorem Bint : bootBuiltins (Str.ofString "int") = some (.type "int") := by kernel_rfl
theorem Nlist (w : World) : nsIn (hd.heap_39 w.params) mainGlobals (Str.ofString "list") = some none := by kernel_rfl
theorem Blist : bootBuiltins (Str.ofString "list") = some (.type "list") := by kernel_rfl
theorem Ndict (w : World) : nsIn (hd.heap_39 w.params) mainGlobals (Str.ofString "dict") = some none := by kernel_rfl
theorem Bdict : bootBuiltins (Str.ofString "dict") = some (.type "dict") := by kernel_rfl
local macro_rules | `(tactic| walk_at "lk") => `(tactic| (exact Lk.of (by exact rfl)))
local macro_rules | `(tactic| walk_at "lset") => `(tactic| (first | with_reducible exact LSet.here | with_reducible exact LSet.nil | ((with_reducible apply LSet.there); kernel_rfl; walk_at "lset") | ((apply LSet.there); kernel_rfl; walk_at "lset")))
local macro_rules | `(tactic| walk_at "fset") => `(tactic| (first | with_reducible exact FSet.here | ((with_reducible refine FSet.new ?_); exact rfl) | ((with_reducible apply FSet.there); kernel_rfl; walk_at "fset")))
local macro_rules | `(tactic| walk_at "lsub") => `(tactic| (first | with_reducible exact LSub.nil | ((with_reducible apply LSub.cons) <;> first | walk_at "lk" | walk_at "lsub")))
local macro_rules | `(tactic| walk_at "memc") => `(tactic| (first | with_reducible exact List.mem_cons_self | ((with_reducible apply List.mem_cons_of_mem); walk_at "memc")))
local macro_rules | `(tactic| walk_at "mem") => `(tactic| (first | ((with_reducible apply List.mem_append_left); walk_at "memc") | ((with_reducible apply List.mem_append_right); walk_at "memc") | walk_at "memc"))
local macro_rules | `(tactic| walk_at "at") => `(tactic| (first | (apply St.rd; assumption; walk_at "mem") | (apply St.fz; assumption; assumption) | (apply At.lx; first | (apply St.rd; assumption; walk_at "mem") | (apply St.fz; assumption; assumption)) | (apply St.old; assumption; assumption; (simp; done))))
local macro_rules | `(tactic| walk_at "ns") => `(tactic| (first | (apply St.notSys; assumption; assumption; walk_at "mem") | (apply St.notSysG; assumption; assumption; assumption)))
local macro_rules | `(tactic| walk_at "updc") => `(tactic| (first | with_reducible exact Upd.here | ((with_reducible apply Upd.there); walk_at "updc")))
local macro_rules | `(tactic| walk_at "upd") => `(tactic| (first | ((with_reducible apply Upd.left); walk_at "updc") | ((with_reducible apply Upd.right); walk_at "updc")))
local macro_rules | `(tactic| walk_at "ex") => `(tactic| ((with_reducible refine' ex_cons ?_)))
local macro_rules | `(tactic| walk_at "eec") => `(tactic| (first | ((with_reducible refine' EvC.lt ?k0 ?k1); (case k0 | k1 => walk_at "ee")) | ((with_reducible refine' EvC.le ?k0 ?k1); (case k0 | k1 => walk_at "ee")) | ((with_reducible refine' EvC.gt ?k0 ?k1); (case k0 | k1 => walk_at "ee")) | ((with_reducible refine' EvC.ge ?k0 ?k1); (case k0 | k1 => walk_at "ee")) | ((with_reducible refine' EvC.eq ?k0 ?k1); (case k0 | k1 => walk_at "ee")) | ((with_reducible refine' EvC.ne ?k0 ?k1); (case k0 | k1 => walk_at "ee")) | ((with_reducible refine' EvC.eqS ?k0 ?k1); (case k0 | k1 => walk_at "ee"))))
local macro_rules | `(tactic| walk_at "ee") => `(tactic| (first | with_reducible exact Ev.ki | with_reducible exact Ev.ks | ((with_reducible refine' Ev.nm ?k0 ?k1); (case k0 => exact rfl); (case k1 => kernel_rfl)) | ((with_reducible refine' Ev.nc ?k0 ?k1 ?k2); (case k0 => exact rfl); (case k1 => ((try dsimp only); walk_at "mem")); (case k2 => kernel_rfl)) | ((with_reducible refine' Ev.add ?k0 ?k1); (case k0 | k1 => walk_at "ee")) | ((with_reducible refine' Ev.sub ?k0 ?k1); (case k0 | k1 => walk_at "ee")) | ((with_reducible refine' Ev.cmp ?k0); (case k0 => walk_at "eec")) | ((with_reducible refine' Ev.dS ?k0 ?k1 ?k2 ?k3 ?k4); (case k0 | k1 => walk_at "ee"); (case k2 => walk_at "at"); (case k3 => exact rfl); (case k4 => intro _ _; with_unfolding_all rfl)) | ((with_reducible refine' Ev.tp ?k0 ?k1 ?k2 ?k3 ?k4 ?k5 ?k6); (case k0 | k1 => walk_at "ee"); (case k2 => walk_at "at"); (case k3 | k4 | k5 => exact rfl); (case k6 => intro _ _; with_unfolding_all rfl)) | ((with_reducible refine' Ev.ls ?k0 ?k1 ?k2 ?k3 ?k4 ?k5); (case k0 | k1 => walk_at "ee"); (case k2 => walk_at "at"); (case k3 | k4 => exact rfl); (case k5 => intro _ _; with_unfolding_all rfl)) | with_reducible exact Ev.kb))
local macro_rules | `(tactic| walk_at "eel") => `(tactic| (first | with_reducible exact EvL.nil | ((with_reducible refine' EvL.cons ?k0 ?k1); (case k0 => walk_at "ee"); (case k1 => walk_at "eel"))))
local macro_rules | `(tactic| walk_at "ev") => `(tactic| ((with_reducible refine' ev_ ?k0 ?k1 ?_ ?k3 ?k4); (case k0 => assumption); (case k1 => walk_at "ee"); (case k3 | k4 => exact rfl)))
local macro_rules | `(tactic| walk_at "evl") => `(tactic| ((with_reducible refine' evl_ ?k0 ?k1 ?_ ?k3 ?k4); (case k0 => assumption); (case k1 => walk_at "eel"); (case k3 | k4 => exact rfl)))
local macro_rules | `(tactic| walk_at "exn") => `(tactic| ((with_reducible refine' ex_nil ?_)))
local macro_rules | `(tactic| walk_at "nx") => `(tactic| ((with_reducible refine' cnt_next ?_)))
local macro_rules | `(tactic| walk_at "cret") => `(tactic| (repeat (first | with_reducible refine cnt_ret ?_ | ((with_reducible refine' lp_ret ?k0 ?_); (case k0 => assumption)))))
local macro_rules | `(tactic| walk_at "st") => `(tactic| (first | ((with_reducible refine' st_c ?k0 ?k1 ?k2 ?_ ?k4 ?k5); (case k0 => assumption); (case k1 | k5 => exact rfl); (case k2 => walk_at "upd"); (case k4 => kernel_rfl)) | ((with_reducible refine' st_l ?k0 ?k1 ?_ ?k3 ?k4 ?k5); (case k0 => assumption); (case k1 => walk_at "fset"); (case k3 | k5 => exact rfl); (case k4 => kernel_rfl))))
local macro_rules | `(tactic| walk_at "nm") => `(tactic| (first | ((with_reducible refine' nm_l ?k0 ?k1 ?_ ?k3 ?k4 ?k5 ?k6); (case k0 => assumption); (case k1 => walk_at "lk"); (case k3 | k5 => exact rfl); (case k4 | k6 => kernel_rfl)) | ((with_reducible refine' nm_c ?k0 ?k1 ?k2 ?_ ?k4 ?k5 ?k6); (case k0 => assumption); (case k1 | k5 => exact rfl); (case k2 => walk_at "mem"); (case k4 | k6 => kernel_rfl)) | ((with_reducible refine' nm_f ?k0 ?k1 ?k2 ?_ ?k4 ?k5 ?k6 ?k7); (case k0 => assumption); (case k1 | k5 => exact rfl); (case k2 => walk_at "mem"); (case k4 | k6 | k7 => kernel_rfl))))
local macro_rules | `(tactic| walk_at "ac") => `(tactic| ((with_reducible refine' args_cons ?_ ?k1); (case k1 => exact rfl)))
local macro_rules | `(tactic| walk_at "sz") => `(tactic| (first | exact Nat.le_of_ble_eq_true rfl | lia | (rw [sizeLine_eq]; lia) | (rw [sizeLine_eq]; simp only [List.length_append, List.length_cons, List.length_nil]; lia)))
local macro_rules | `(tactic| walk_at "tail") => `(tactic| (first | ((with_reducible show wpAny _ _ (subscriptTail _ _ (Value.ref _) (Value.str _ _)) _ _ _); (with_reducible refine' sub_dS ?k0 ?k1 ?_ ?k3); (case k0 => walk_at "at"); (case k1 => walk_at "lk"); (case k3 => with_unfolding_all rfl)) | ((with_reducible refine' sub_tp ?k0 ?k1 ?k2 ?_ ?k4 ?k5 ?k6); (case k0 => walk_at "at"); (case k1 | k2 => exact rfl); (case k4 | k5 => decide); (case k6 => with_unfolding_all rfl)) | ((with_reducible refine' sub_ls ?k0 ?k1 ?k2 ?_ ?k4 ?k5); (case k0 => walk_at "at"); (case k1 | k4 => decide); (case k2 => exact rfl); (case k5 => with_unfolding_all rfl))))
local macro_rules | `(tactic| walk_at "geta") => `(tactic| ((with_reducible refine' get_at (attr := none) ?k0 ?k1 ?k2 ?k3 ?k4 ?k5 ?k6 ?k7 ?k8 ?k9 ?_); (case k0 | k1 => assumption); (case k2 | k3 => walk_at "at"); (case k4 | k5 | k6 | k7 => kernel_rfl); (case k8 => walk_at "lk"); (case k9 => exact rfl)))
local macro_rules | `(tactic| walk_at "lkf") => `(tactic| (first | exact LkF.nil | (refine LkF.cons (by first | rfl | kernel_rfl) ?_; walk_at "lkf")))
local macro_rules | `(tactic| walk_at "car") => `(tactic| (first | exact CarS.nil | exact CarI.nil | ((first | apply CarS.cons | apply CarI.cons); walk_at "car")))
local macro_rules | `(tactic| walk_at "unp") => `(tactic| (first | ((with_reducible refine' unpE ?k0 ?k1 ?k2 ?_); (case k0 => assumption); (case k1 => exact Room.hh (by assumption)); (case k2 => exact rfl)) | ((with_reducible refine' unpack_it ?k0 ?k1 ?k2 ?k3 ?_); (case k0 => assumption); (case k1 => walk_at "at"); (case k2 => exact Room.hh (by assumption)); (case k3 => exact rfl)) | ((with_reducible refine' unpack_tp ?k0 ?k1 ?k2 ?k3 ?k4 ?_); (case k0 => assumption); (case k1 => walk_at "at"); (case k2 => exact Room.hh (by assumption)); (case k3 | k4 => exact rfl))))
def Well (w : World) (g : Frz) (c : Cell) : Prop := ∃ ac spot t1 acc t2 cells, c = .ls [.ref ac, .int spot t1, .int acc t2] ∧ At w g ac (.ls cells) ∧
  (∀ v ∈ cells, ∃ i t, v = .int i t ∧ 0 ≤ i ∧ i < 2147483647) ∧ cells.length ≤ 100 ∧ 0 ≤ spot ∧ 0 ≤ acc ∧ acc < 2147483647
theorem draw_ {w : World} {A : Around} {E : Value → Shared → Prop} {s : Shared} {hp : Heap} {tk : Nat} {K : Ent} {L : Addr} {m : Loc} {g : Frz} {Γ : List (Addr × Cell)} {aw : Addr} {c : Cell} {size : Int} {tz : Tok} {n : Nat} {Q : Value → Shared → Prop}
    (S : St w K L m g ([(aw, c)] ++ Γ) hp) (bs : Bs w K.B) (room : Room A (n + 1)) (hw : Well w g c) (hz : 0 < size)
    (q : ∀ h' c' r t tk, St w K L m g ([(aw, c')] ++ Γ) h' → Well w g c' → 0 ≤ r → r < size → Q (.int r t) (sh s h' tk)) :
    wpAny (model PG w) A (call (.ref 162) [.ref aw, .int size tz]) Q E (sh s hp tk) := by
  obtain ⟨ac, spot, t1, acc, t2, cells, rfl, hac, hc, hl, h0, h1, h2⟩ := hw
  refine call_fn [(aw, _)] [("size", .int size tz), ("well", .ref aw)] S bs room (by rfl) (by kernel_rfl) (by rfl) (by kernel_rfl) ?_ (by decide) rfl rfl rfl
  intro L' h₁ tk A' K' Pp hK room' bk S'
  subst hK
  walk_at "ex"
  (first | ((with_reducible refine' Assign_Tuple ?_ ?kBb ?kBc); (case kBb | kBc => exact rfl)) | ((with_reducible refine' Assign_Tuple_swapped ?_ ?kBb ?kBc); (case kBb | kBc => exact rfl)))
  with_reducible refine' ev_tuple ?_
  walk_at "evl"
  ((with_reducible refine' new_tp ?kBa ?_ ?kBc); (case kBa => assumption); (case kBc => walk_at "sz")); intro a' h' S'
  walk_at "unp"; intro h' S'
  (refine assignInOrder_cons ?_)
  (first | ((with_reducible refine' assign_Name ?_)) | ((with_reducible refine' bindName_ ?_)))
  walk_at "st"; intro h' t' S'
  (refine assignInOrder_cons ?_)
  (first | ((with_reducible refine' assign_Name ?_)) | ((with_reducible refine' bindName_ ?_)))
  walk_at "st"; intro h' t' S'
  (refine assignInOrder_nil ?_)
  walk_at "nx"
  walk_at "ex"
  ((with_reducible refine' wpAny_Assign_Name ?_ ?kEb); (case kEb => first | exact rfl | kernel_rfl))
  with_reducible refine' wpAny_IfExp ?_
  ((with_reducible refine' wpAny_isTrue_Compare1 ?_ ?kFb); (case kFb => with_unfolding_all rfl))
  walk_at "nm"
  ((with_reducible refine' call_bi_node ?kHa ?kHb (Nlen _) Blen ?kHe ?_ ?kHg ?kHh ?kHi ?kHj ?kHk ?kHl ?kHm); (case kHa | kHb => assumption); (case kHe => decide); (case kHg | kHh | kHi | kHl | kHm => exact rfl); (case kHj | kHk => kernel_rfl))
  walk_at "evl"
  (first | ((with_reducible refine' len_ls ?kIa ?kIb ?_); (case kIa => walk_at "at"); (case kIb => first | lia | decide)) | ((with_reducible refine' len_dI ?kIa ?kIb ?kIc ?_); (case kIa => walk_at "at"); (case kIb => walk_at "ns"); (case kIc => lia); intro _))
  (first | ((with_reducible refine' PySem.P.lt_int ?_)))
  with_reducible refine' wpAny_truthy_bool ?_
  refine ite_b (fun hb => ?_) (fun hb => ?_)
  ·
    replace hb := of_decide_eq_true hb
    with_reducible refine' Subscript_ ?_
    walk_at "nm"
    walk_at "nm"
    refine sub_ints (by walk_at "at") hc (by lia) (by lia) (by lia) ?_
    intro ci tc hci
    walk_at "st"; intro h' t' S'
    walk_at "nx"
    walk_at "ex"
    ((with_reducible refine' wpAny_Assign_Subscript ?_ ?kLb); (case kLb => exact rfl))
    walk_at "ev"
    walk_at "nm"
    with_reducible refine' k_int ?_
    ((with_reducible refine' set_ls ?kNa ?kNb ?kNc ?kNd ?_ ?kNf); (case kNa => assumption); (case kNb => walk_at "upd"); (case kNc | kNf => decide); (case kNd => (simp; try decide))); intro h' S'
    walk_at "nx"
    walk_at "ex"
    ((with_reducible refine' wpAny_Assign_Subscript ?_ ?kOb); (case kOb => exact rfl))
    with_reducible refine' wpAny_BinOp ?_
    ((with_reducible refine' call_ty_node ?kQa ?kQb (Nint _) Bint ?kQe ?_ ?kQg ?kQh ?kQi ?kQj ?kQk ?kQl ?kQm); (case kQa | kQb => assumption); (case kQe => decide); (case kQg | kQh | kQi | kQl | kQm => exact rfl); (case kQj | kQk => kernel_rfl))
    walk_at "ac"
    with_reducible refine' wpAny_BinOp ?_
    with_reducible refine' wpAny_BinOp ?_
    with_reducible refine' wpAny_BinOp ?_
    walk_at "ev"
    with_reducible refine' k_int ?_
    ((with_reducible refine' i_mul ?_ ?kVb); (case kVb => first | exact IntMulOk.of_right (by decide +kernel) | exact IntMulOk.of_left (by decide +kernel)))
    with_reducible refine' wpAny_BinOp ?_
    walk_at "nm"
    with_reducible refine' k_int ?_
    ((with_reducible refine' i_mod ?kYa ?_); (case kYa => lia))
    with_reducible refine' i_add ?_
    with_reducible refine' k_int ?_
    with_reducible refine' i_add ?_
    with_reducible refine' args_nil ?_
    with_reducible refine' call_int_int ?_
    with_reducible refine' k_int ?_
    ((with_reducible refine' i_mod ?kBFa ?_); (case kBFa => lia))
    walk_at "nm"
    with_reducible refine' k_int ?_
    ((with_reducible refine' set_ls ?kBHa ?kBHb ?kBHc ?kBHd ?_ ?kBHf); (case kBHa => assumption); (case kBHb => walk_at "upd"); (case kBHc | kBHf => decide); (case kBHd => (simp; try decide))); intro h' S'
    walk_at "nx"
    walk_at "ex"
    with_reducible refine' wpAny_Return_some ?_
    with_reducible refine' wpAny_BinOp ?_
    ((with_reducible refine' call_ty_node ?kBKa ?kBKb (Nint _) Bint ?kBKe ?_ ?kBKg ?kBKh ?kBKi ?kBKj ?kBKk ?kBKl ?kBKm); (case kBKa | kBKb => assumption); (case kBKe => decide); (case kBKg | kBKh | kBKi | kBKl | kBKm => exact rfl); (case kBKj | kBKk => kernel_rfl))
    walk_at "evl"
    with_reducible refine' call_int_int ?_
    walk_at "nm"
    ((with_reducible refine' i_mod ?kBMa ?_); (case kBMa => lia))
    walk_at "cret"
    with_reducible refine' rt_ret ?_
    refine bk (Λx := []) (by assumption) (fun S => q _ _ _ _ _ S ⟨ac, _, _, _, _, cells, rfl, hac, hc, hl, by lia, ?_, ?_⟩ (Int.emod_nonneg _ (by lia)) (Int.emod_lt_of_pos _ hz)) <;> lia
  ·
    replace hb := of_decide_eq_false hb
    ((with_reducible refine' call_ty_node ?kBOa ?kBOb (Nint _) Bint ?kBOe ?_ ?kBOg ?kBOh ?kBOi ?kBOj ?kBOk ?kBOl ?kBOm); (case kBOa | kBOb => assumption); (case kBOe => decide); (case kBOg | kBOh | kBOi | kBOl | kBOm => exact rfl); (case kBOj | kBOk => kernel_rfl))
    walk_at "ac"
    with_reducible refine' wpAny_BinOp ?_
    walk_at "ev"
    with_reducible refine' k_int ?_
    ((with_reducible refine' i_fdiv ?kBRa ?_ ?kBRc); (case kBRa | kBRc => lia))
    with_reducible refine' args_nil ?_
    with_reducible refine' call_int_int ?_
    walk_at "st"; intro h' t' S'
    walk_at "nx"
    walk_at "ex"
    ((with_reducible refine' wpAny_Assign_Subscript ?_ ?kBUb); (case kBUb => exact rfl))
    walk_at "ev"
    walk_at "nm"
    with_reducible refine' k_int ?_
    ((with_reducible refine' set_ls ?kBWa ?kBWb ?kBWc ?kBWd ?_ ?kBWf); (case kBWa => assumption); (case kBWb => walk_at "upd"); (case kBWc | kBWf => decide); (case kBWd => (simp; try decide))); intro h' S'
    walk_at "nx"
    walk_at "ex"
    ((with_reducible refine' wpAny_Assign_Subscript ?_ ?kBXb); (case kBXb => exact rfl))
    with_reducible refine' wpAny_BinOp ?_
    ((with_reducible refine' call_ty_node ?kBZa ?kBZb (Nint _) Bint ?kBZe ?_ ?kBZg ?kBZh ?kBZi ?kBZj ?kBZk ?kBZl ?kBZm); (case kBZa | kBZb => assumption); (case kBZe => decide); (case kBZg | kBZh | kBZi | kBZl | kBZm => exact rfl); (case kBZj | kBZk => kernel_rfl))
    walk_at "ac"
    with_reducible refine' wpAny_BinOp ?_
    with_reducible refine' wpAny_BinOp ?_
    with_reducible refine' wpAny_BinOp ?_
    walk_at "ev"
    with_reducible refine' k_int ?_
    ((with_reducible refine' i_mul ?_ ?kCEb); (case kCEb => first | exact IntMulOk.of_right (by decide +kernel) | exact IntMulOk.of_left (by decide +kernel)))
    with_reducible refine' wpAny_BinOp ?_
    walk_at "nm"
    with_reducible refine' k_int ?_
    ((with_reducible refine' i_mod ?kCHa ?_); (case kCHa => lia))
    with_reducible refine' i_add ?_
    with_reducible refine' k_int ?_
    with_reducible refine' i_add ?_
    with_reducible refine' args_nil ?_
    with_reducible refine' call_int_int ?_
    with_reducible refine' k_int ?_
    ((with_reducible refine' i_mod ?kCOa ?_); (case kCOa => lia))
    walk_at "nm"
    with_reducible refine' k_int ?_
    ((with_reducible refine' set_ls ?kCQa ?kCQb ?kCQc ?kCQd ?_ ?kCQf); (case kCQa => assumption); (case kCQb => walk_at "upd"); (case kCQc | kCQf => decide); (case kCQd => (simp; try decide))); intro h' S'
    walk_at "nx"
    walk_at "ex"
    with_reducible refine' wpAny_Return_some ?_
    with_reducible refine' wpAny_BinOp ?_
    ((with_reducible refine' call_ty_node ?kCTa ?kCTb (Nint _) Bint ?kCTe ?_ ?kCTg ?kCTh ?kCTi ?kCTj ?kCTk ?kCTl ?kCTm); (case kCTa | kCTb => assumption); (case kCTe => decide); (case kCTg | kCTh | kCTi | kCTl | kCTm => exact rfl); (case kCTj | kCTk => kernel_rfl))
    walk_at "evl"
    with_reducible refine' call_int_int ?_
    walk_at "nm"
    ((with_reducible refine' i_mod ?kCVa ?_); (case kCVa => lia))
    walk_at "cret"
    with_reducible refine' rt_ret ?_
    refine bk (Λx := []) (by assumption) (fun S => q _ _ _ _ _ S ⟨ac, _, _, _, _, cells, rfl, hac, hc, hl, by lia, ?_, ?_⟩ (Int.emod_nonneg _ (by lia)) (Int.emod_lt_of_pos _ hz)) <;> lia
theorem pick_ {w : World} {A : Around} {E : Value → Shared → Prop} {s : Shared} {hp : Heap} {tk : Nat} {K : Ent} {L : Addr} {m : Loc} {g : Frz} {Γ : List (Addr × Cell)} {n : Nat} {Q : Value → Shared → Prop} {aw am : Addr} {c : Cell} {vs : List Value}
    (S : St w K L m g ([(aw, c)] ++ Γ) hp) (bs : Bs w K.B) (room : Room A (n + 2)) (hw : Well w g c) (hm : Rd w g Γ am (.ls vs) ∨ Rd w g Γ am (.lx vs)) (hz : 0 < vs.length) (hz' : vs.length < 2 ^ 62)
    (q : ∀ h' c' v tk, St w K L m g ([(aw, c')] ++ Γ) h' → Well w g c' → v ∈ vs → Q v (sh s h' tk)) :
    wpAny (model PG w) A (call (.ref 169) [.ref aw, .ref am]) Q E (sh s hp tk) := by
  have hat : At w hp.get? am (.ls vs) ∧ am ∉ [(aw, c)].map (·.1) := by
    rcases hm with hm | hm
    · exact S.rdOld hm
    · exact ⟨(S.rdOld hm).1.lx, (S.rdOld hm).2⟩
  refine call_fn [(aw, c)] [("menu", .ref am), ("well", .ref aw)] S bs room (by rfl) (by kernel_rfl) (by rfl) (by kernel_rfl) ?_ (by decide) rfl rfl rfl
  intro L' h₁ tk A' K' Pp hK room' bk S'
  subst hK
  have hat' := S'.old hat.1 hat.2
  walk_at "ex"
  with_reducible refine' wpAny_Return_some ?_
  with_reducible refine' Subscript_ ?_
  walk_at "nm"
  ((with_reducible refine' call_def_node ?kCZa ?kCZb (G_law_draw _) (P_law_draw _) ?_ ?kCZf ?kCZg ?kCZh ?kCZi ?kCZj ?kCZk); (case kCZa | kCZb => assumption); (case kCZf | kCZg | kCZj | kCZk => exact rfl); (case kCZh | kCZi => kernel_rfl))
  walk_at "ac"
  walk_at "nm"
  walk_at "ac"
  ((with_reducible refine' call_bi_node ?kDAa ?kDAb (Nlen _) Blen ?kDAe ?_ ?kDAg ?kDAh ?kDAi ?kDAj ?kDAk ?kDAl ?kDAm); (case kDAa | kDAb => assumption); (case kDAe => decide); (case kDAg | kDAh | kDAi | kDAl | kDAm => exact rfl); (case kDAj | kDAk => kernel_rfl))
  walk_at "evl"
  (with_reducible refine' len_ls hat' ?k1 ?_); (case k1 => lia)
  with_reducible refine' args_nil ?_
  (refine ⟨St.base (by assumption), ?_⟩)
  refine draw_ S' bs room' hw (by lia) ?_
  intro h' c' r tr tk' S2 hw' hr0 hr1
  have hat2 := S2.old hat.1 hat.2
  have hi : r.toNat < vs.length := by lia
  refine sub_ls hat2 hr0 (List.getElem?_eq_getElem hi) ?_ (by lia)
  walk_at "cret"
  with_reducible refine' rt_ret ?_
  refine bk (Λx := []) S2 (fun S => q _ _ _ _ S hw' (List.getElem_mem hi))
inductive Gr where
  | slot (i : Int) | nm (s : Str) | v (n : Int)
structure Reg where
  num : Int
  gr : Gr
  off : Int
structure Acc where
  num : Int
  gr : Gr
  off : Int
  oct : Int
structure PS where
  R : Int → Option Reg
  next : Int
  many : Int
  wv : List Int
  ov : List Int
  sv : List Acc
def Gr.kind : Gr → Str
  | .slot _ => Str.ofString "slot" | .nm _ => Str.ofString "name" | .v _ => Str.ofString "v"
def Gr.val : Gr → Tok → Value
  | .slot i, t => .int i t | .nm s, t => .str s t | .v n, t => .int n t
def GrOk (w : World) (g : Frz) (v : Value) (r : Gr) : Prop := ∃ a t t', v = .ref a ∧ At w g a (.tp [.str r.kind t, r.val t'])
def RegOk (w : World) (g : Frz) (v : Value) (r : Reg) : Prop := ∃ a t t' gv, v = .ref a ∧ At w g a (.tp [.int r.num t, gv, .int r.off t']) ∧ GrOk w g gv r.gr
def AccOk (w : World) (g : Frz) (v : Value) (r : Acc) : Prop := ∃ a b t t' t'' gv, v = .ref a ∧ At w g a (.tp [.int r.num t, .ref b]) ∧ At w g b (.tp [gv, .int r.off t', .int r.oct t'']) ∧ GrOk w g gv r.gr
theorem GrOk.mono {w : World} {g g' : Frz} {v : Value} {r : Gr} (x : GrOk w g v r) (k : g.le g') : GrOk w g' v r := let ⟨a, t, t', e, c⟩ := x; ⟨a, t, t', e, c.mono k⟩
theorem RegOk.mono {w : World} {g g' : Frz} {v : Value} {r : Reg} (x : RegOk w g v r) (k : g.le g') : RegOk w g' v r := let ⟨a, t, t', gv, e, c, d⟩ := x; ⟨a, t, t', gv, e, c.mono k, d.mono k⟩
theorem AccOk.mono {w : World} {g g' : Frz} {v : Value} {r : Acc} (x : AccOk w g v r) (k : g.le g') : AccOk w g' v r := let ⟨a, b, t, t', t'', gv, e, c, d, f⟩ := x; ⟨a, b, t, t', t'', gv, e, c.mono k, d.mono k, f.mono k⟩
structure HA where
  aw : Addr
  ah : Addr
  ar : Addr
  awd : Addr
  asz : Addr
  ase : Addr
  ao : Addr
def hdL (a : HA) (many : Int) (tm : Tok) (next : Int) (tn : Tok) (asp : Addr) : List (Str × Value) :=
  [("regs", .ref a.ar), ("many", .int many tm), ("next", .int next tn), ("words", .ref a.awd), ("sizes", .ref a.asz), ("seen", .ref a.ase), ("out", .ref a.ao), ("spots", .ref asp)]
abbrev hs (a : HA) (wc : Cell) (regs : List (Int × Value)) (many : Int) (tm : Tok) (next : Int) (tn : Tok) (words : List (Int × Value)) (seen : List Value) (out : List (Int × Value)) (asp : Addr) : List (Addr × Cell) :=
  [(a.aw, wc), (a.ah, .dS (hdL a many tm next tn asp)), (a.ar, .dI regs), (a.awd, .dI words), (a.ase, .lx seen), (a.ao, .dI out)]
structure HOk (w : World) (g : Frz) (a : HA) (sz : List Int) (wc : Cell) (regs words : List (Int × Value)) (seen : List Value) (out : List (Int × Value)) (N : Nat) (p : PS) : Prop where
  well : Well w g wc
  rk : ∀ k, (valueAt regs k).isSome = (p.R k).isSome
  rv : ∀ k v r, valueAt regs k = some v → p.R k = some r → RegOk w g v r
  wd : ∀ kv ∈ words, ∃ i t, kv.2 = .int i t ∧ i ∈ p.wv
  sn : ∀ v ∈ seen, ∃ r ∈ p.sv, AccOk w g v r
  ou : ∀ kv ∈ out, kv.1 ∈ p.ov
  szs : ∃ vs, At w g a.asz (.ls vs) ∧ IntsAre vs sz
  szl : sz.length ≤ 3 ∧ 0 < sz.length
  b1 : regs.length ≤ N
  b2 : words.length ≤ N
  b3 : seen.length ≤ N
  b4 : out.length ≤ N
theorem HOk.mono {w : World} {g g' : Frz} {a : HA} {sz : List Int} {wc : Cell} {regs words : List (Int × Value)} {seen : List Value} {out : List (Int × Value)} {N : Nat} {p : PS} (x : HOk w g a sz wc regs words seen out N p) (k : g.le g') : HOk w g' a sz wc regs words seen out N p where
  well := let ⟨ac, b, c, d, e, f, h1, h2, h3⟩ := x.well; ⟨ac, b, c, d, e, f, h1, h2.mono k, h3⟩
  rk := x.rk
  rv := fun k' v r h1 h2 => (x.rv k' v r h1 h2).mono k
  wd := x.wd
  sn := fun v hv => let ⟨r, h1, h2⟩ := x.sn v hv; ⟨r, h1, h2.mono k⟩
  ou := x.ou
  szs := let ⟨vs, h1, h2⟩ := x.szs; ⟨vs, h1.mono k, h2⟩
  szl := x.szl
  b1 := x.b1
  b2 := x.b2
  b3 := x.b3
  b4 := x.b4
theorem HOk.up {w : World} {g : Frz} {a : HA} {sz : List Int} {wc : Cell} {regs words : List (Int × Value)} {seen : List Value} {out : List (Int × Value)} {N M : Nat} {p : PS} (x : HOk w g a sz wc regs words seen out N p) (k : N ≤ M) : HOk w g a sz wc regs words seen out M p :=
  { x with b1 := Nat.le_trans x.b1 k, b2 := Nat.le_trans x.b2 k, b3 := Nat.le_trans x.b3 k, b4 := Nat.le_trans x.b4 k }
theorem HOk.withWell {w : World} {g : Frz} {a : HA} {sz : List Int} {wc wc' : Cell} {regs words : List (Int × Value)} {seen : List Value} {out : List (Int × Value)} {N : Nat} {p : PS} (x : HOk w g a sz wc regs words seen out N p) (k : Well w g wc') : HOk w g a sz wc' regs words seen out N p :=
  { x with well := k }
theorem HOk.reg {w : World} {g : Frz} {a : HA} {sz : List Int} {wc : Cell} {regs words : List (Int × Value)} {seen : List Value} {out : List (Int × Value)} {N : Nat} {p : PS} (x : HOk w g a sz wc regs words seen out N p) {k : Int} {r : Reg} (e : p.R k = some r) :
    ∃ v, valueAt regs k = some v ∧ RegOk w g v r := by
  have := x.rk k
  rw [e] at this
  cases q : valueAt regs k with
  | none => rw [q] at this; cases this
  | some v => exact ⟨v, rfl, x.rv k v r q e⟩
def PS.set (p : PS) (c : Int) (r : Reg) : PS := { p with R := fun k => if k = c then some r else p.R k }
def Goal (p : PS) (c : Int) (p' : PS) : Prop := ((p.R c).isSome = true ∧ p' = p) ∨ (c = p.next ∧ p' = { p with next := p.next + 1 })
section
variable {w : World} {A : Around} {E : Value → Shared → Prop} {s : Shared} {hp : Heap} {tk : Nat} {K : Ent} {L : Addr} {m : Loc} {g : Frz} {Γ : List (Addr × Cell)} {n : Nat} {Q : Value → Shared → Prop}
theorem drawH {a : HA} {wc : Cell} {regs : List (Int × Value)} {many : Int} {tm : Tok} {next : Int} {tn : Tok} {words : List (Int × Value)} {seen : List Value} {out : List (Int × Value)} {asp : Addr} {size : Int} {tz : Tok}
    (S : St w K L m g (hs a wc regs many tm next tn words seen out asp ++ Γ) hp) (bs : Bs w K.B) (room : Room A (n + 1)) (hw : Well w g wc) (hz : 0 < size)
    (q : ∀ h' wc' r t tk, St w K L m g (hs a wc' regs many tm next tn words seen out asp ++ Γ) h' → Well w g wc' → 0 ≤ r → r < size → Q (.int r t) (sh s h' tk)) :
    wpAny (model PG w) A (call (.ref 162) [.ref a.aw, .int size tz]) Q E (sh s hp tk) := draw_ S bs room hw hz q
theorem pickH {a : HA} {wc : Cell} {regs : List (Int × Value)} {many : Int} {tm : Tok} {next : Int} {tn : Tok} {words : List (Int × Value)} {seen : List Value} {out : List (Int × Value)} {asp am : Addr} {vs : List Value}
    (S : St w K L m g (hs a wc regs many tm next tn words seen out asp ++ Γ) hp) (bs : Bs w K.B) (room : Room A (n + 2)) (hw : Well w g wc) (hm : Rd w g Γ am (.ls vs) ∨ Rd w g Γ am (.lx vs)) (hz : 0 < vs.length) (hz' : vs.length < 2 ^ 62)
    (q : ∀ h' wc' v tk, St w K L m g (hs a wc' regs many tm next tn words seen out asp ++ Γ) h' → Well w g wc' → v ∈ vs → Q v (sh s h' tk)) :
    wpAny (model PG w) A (call (.ref 169) [.ref a.aw, .ref am]) Q E (sh s hp tk) := by
  have up : ∀ {c}, Rd w g Γ am c → Rd w g ([(a.ah, .dS (hdL a many tm next tn asp)),
   (a.ar, .dI regs), (a.awd, .dI words), (a.ase, .lx seen), (a.ao, .dI out)] ++ Γ) am c := fun x => x.imp (fun y => List.mem_append_right _ y) id
  exact pick_ S bs room hw (hm.imp up up) hz hz' q
theorem pickD {a : HA} {wc : Cell} {regs : List (Int × Value)} {many : Int} {tm : Tok} {next : Int} {tn : Tok} {words : List (Int × Value)} {seen : List Value} {out : List (Int × Value)} {asp am : Addr} {vs : List Value}
    (S : St w K L m g (hs a wc regs many tm next tn words seen out asp ++ (am, .lx vs) :: Γ) hp) (bs : Bs w K.B) (room : Room A (n + 2)) (hw : Well w g wc) (hz : 0 < vs.length) (hz' : vs.length < 2 ^ 62)
    (q : ∀ h' wc' v tk, St w K L m g (hs a wc' regs many tm next tn words seen out asp ++ Γ) h' → Well w g wc' → v ∈ vs → Q v (sh s h' tk)) :
    wpAny (model PG w) A (call (.ref 169) [.ref a.aw, .ref am]) Q E (sh s hp tk) := pickH S bs room hw (.inr (.inl (List.Mem.head _))) hz hz' fun h' wc' v tk S => q h' wc' v tk S.drop
end
theorem signed_ {w : World} {A : Around} {E : Value → Shared → Prop} {s : Shared} {hp : Heap} {tk : Nat} {K : Ent} {L : Addr} {m : Loc} {g : Frz} {Γ : List (Addr × Cell)} {n : Nat} {Q : Value → Shared → Prop} 
    (S : St w K L m g ([] ++ Γ) hp) (bs : Bs w K.B) (room : Room A (n + 1)) {num : Int} {tz : Tok}
    (q : ∀ h' r t tk, St w K L m g Γ h' → r = (if num ≥ 2147483648 then num - 4294967296 else num) → Q (.int r t) (sh s h' tk)) :
    wpAny (model PG w) A (call (.ref 176) [.int num tz]) Q E (sh s hp tk) := by
  refine call_fn ([]) [("number", .int num tz)] S bs room (by rfl) (by kernel_rfl) (by rfl) (by kernel_rfl) ?_ (by decide) rfl rfl rfl
  intro L' h₁ tk' A' K' Pp hK room' bk S'
  subst hK
  walk_at "ex"
  with_reducible refine' wpAny_Return_some ?_
  with_reducible refine' wpAny_IfExp ?_
  ((with_reducible refine' evb_ ?kHa ?kHb ?_ ?kHd ?kHe); (case kHa => assumption); (case kHb => walk_at "eec"); (case kHd | kHe => exact rfl))
  refine ite_b (fun hb => ?_) (fun hb => ?_)
  ·
    replace hb := of_decide_eq_true hb
    with_reducible refine' wpAny_BinOp ?_
    walk_at "nm"
    ((with_reducible refine' nm_g ?kEa ?kEb (G_law_wide _) ?_ ?kEe ?kEf ?kEg ?kEh); (case kEa | kEb => assumption); (case kEe | kEf => exact rfl); (case kEg | kEh => kernel_rfl))
    with_reducible refine' i_sub ?_
    walk_at "cret"
    with_reducible refine' rt_ret ?_
    refine bk (ΓD' := []) (Λx := []) S' (fun S => q _ _ _ _ S (by first | rw [if_pos hb] | rw [if_neg (by lia)]))
  ·
    replace hb := of_decide_eq_false hb
    walk_at "nm"
    walk_at "cret"
    with_reducible refine' rt_ret ?_
    refine bk (ΓD' := []) (Λx := []) S' (fun S => q _ _ _ _ S (by first | rw [if_pos hb] | rw [if_neg (by lia)]))
theorem fresh_ {w : World} {A : Around} {E : Value → Shared → Prop} {s : Shared} {hp : Heap} {tk : Nat} {K : Ent} {L : Addr} {m : Loc} {g : Frz} {Γ : List (Addr × Cell)} {n : Nat} {Q : Value → Shared → Prop} {a : HA} {sz : List Int} {wc : Cell} {regs words : List (Int × Value)} {seen : List Value} {out : List (Int × Value)} {N : Nat} {p : PS} {tm tn : Tok} {asp : Addr}
    (S : St w K L m g (hs a wc regs p.many tm p.next tn words seen out asp ++ Γ) hp) (bs : Bs w K.B) (H : HOk w g a sz wc regs words seen out N p) (room : Room A (n + 1)) {num : Int} {tz : Tok}
    (q : ∀ g' h' tm' v tk, g.le g' → St w K L m g' (hs a wc regs (p.many + 1) tm' p.next tn words seen out asp ++ Γ) h' → RegOk w g' v ⟨num, .v (p.many + 1), 0⟩ → HOk w g' a sz wc regs words seen out (N) ({ p with many := p.many + 1 }) → Q v (sh s h' tk)) :
    wpAny (model PG w) A (call (.ref 183) [.ref a.ah, .int num tz]) Q E (sh s hp tk) := by
  refine call_fn (hs a wc regs p.many tm p.next tn words seen out asp) [("number", .int num tz), ("house", .ref a.ah)] S bs room (by rfl) (by kernel_rfl) (by rfl) (by kernel_rfl) ?_ (by decide) rfl rfl rfl
  intro L' h₁ tk' A' K' Pp hK room' bk S'
  have bs : Bs w K'.B := by rw [hK]; exact bs
  have hKD : K'.D = (hs a wc regs p.many tm p.next tn words seen out asp).map (·.1) := by rw [hK]
  have hb1 := H.b1; have hb2 := H.b2; have hb3 := H.b3; have hb4 := H.b4; have hszl := H.szl
  walk_at "ex"
  ((with_reducible refine' wpAny_Assign_Subscript ?_ ?kIb); (case kIb => exact rfl))
  walk_at "ev"
  walk_at "nm"
  with_reducible refine' k_str ?_
  ((with_reducible refine' set_dS ?kKa ?kKb ?kKc ?kKd ?_); (case kKa => assumption); (case kKb => walk_at "upd"); (case kKc => walk_at "lset"); (case kKd => walk_at "sz")); intro h' S'
  walk_at "nx"
  walk_at "ex"
  with_reducible refine' wpAny_Return_some ?_
  with_reducible refine' ev_tuple ?_
  walk_at "ac"
  walk_at "nm"
  walk_at "ac"
  with_reducible refine' ev_tuple ?_
  walk_at "evl"
  ((with_reducible refine' new_tp ?kIa ?_ ?kIc); (case kIa => assumption); (case kIc => walk_at "sz")); intro a' h' S'
  walk_at "evl"
  ((with_reducible refine' new_tp ?kJa ?_ ?kJc); (case kJa => assumption); (case kJc => walk_at "sz")); intro a' h' S'
  walk_at "cret"
  with_reducible refine' rt_ret ?_
  have f2 := St.freshL S' hKD (List.Mem.head _)
  with_reducible refine absG fun G9 k9 => ?_
  obtain ⟨g1, l1, c1, S1⟩ := S'.freezeL f2
  have f3 := St.freshL S1 hKD (List.Mem.head _)
  obtain ⟨g2, l2, c2, S2⟩ := S1.freezeL f3
  with_reducible refine k9 ?_
  refine bk (Λx := []) S2 (fun S => q g2 _ _ _ _ (l1.trans l2) S ⟨_, _, _, _, rfl, c1.mono l2, _, _, _, rfl, c2⟩ { H.mono (l1.trans l2) with })
def PS.see (p : PS) (x : Acc) : PS := { p with sv := x :: p.sv }
def PS.slotOf (p : PS) (c : Int) : List Int := match p.R c with | some ⟨_, .slot i, _⟩ => [i] | _ => []
def PS.hand (p : PS) (cs : List Int) : PS := { p with ov := p.ov ++ cs.flatMap p.slotOf }
theorem kind_slot {r : Gr} (h : r.kind = Str.ofString "slot") : ∃ i, r = .slot i := by
  cases r with
  | slot i => exact ⟨i, rfl⟩
  | nm s => exact absurd h (show ¬ Str.ofString "name" = Str.ofString "slot" by decide)
  | v n => exact absurd h (show ¬ Str.ofString "v" = Str.ofString "slot" by decide)
theorem HOk.len_stored {α : Type} [DecidableEq α] (l : List (α × Value)) (k : α) (v : Value) : (stored l k v).length ≤ l.length + 1 := by
  unfold stored; split <;> simp
theorem mem_stored {α : Type} [DecidableEq α] {l : List (α × Value)} {k : α} {v : Value} {x : α × Value} (h : x ∈ stored l k v) : x = (k, v) ∨ x ∈ l := by
  unfold stored at h; split at h
  · obtain ⟨y, hy, rfl⟩ := List.mem_map.mp h
    split
    · rename_i e; left; rw [e]
    · right; exact hy
  · rcases List.mem_append.mp h with h | h
    · exact .inr h
    · exact .inl (List.mem_singleton.mp h)
theorem without_sub {α : Type} [DecidableEq α] {l : List (α × Value)} {k : α} : (without l k).Sublist l := List.filter_sublist
theorem goal_ {w : World} {A : Around} {E : Value → Shared → Prop} {s : Shared} {hp : Heap} {tk : Nat} {K : Ent} {L : Addr} {m : Loc} {g : Frz} {Γ : List (Addr × Cell)} {n : Nat} {Q : Value → Shared → Prop} {a : HA} {sz : List Int} {wc : Cell} {regs words : List (Int × Value)} {seen : List Value} {out : List (Int × Value)} {N : Nat} {p : PS} {tm tn : Tok} {asp : Addr}
    (S : St w K L m g (hs a wc regs p.many tm p.next tn words seen out asp ++ Γ) hp) (bs : Bs w K.B) (H : HOk w g a sz wc regs words seen out N p) (hN : N < 63) (room : Room A (n + 3)) 
    (q : ∀ h' wc' tn' c tc p' tk, Goal p c p' → St w K L m g (hs a wc' regs p'.many tm p'.next tn' words seen out asp ++ Γ) h' → HOk w g a sz wc' regs words seen out N p' → Q (.int c tc) (sh s h' tk)) :
    wpAny (model PG w) A (call (.ref 190) [.ref a.aw, .ref a.ah]) Q E (sh s hp tk) := by
  refine call_fn (hs a wc regs p.many tm p.next tn words seen out asp) [("house", .ref a.ah), ("well", .ref a.aw)] S bs room (by rfl) (by kernel_rfl) (by rfl) (by kernel_rfl) ?_ (by decide) rfl rfl rfl
  intro L' h₁ tk' A' K' Pp hK room' bk S'
  have bs : Bs w K'.B := by rw [hK]; exact bs
  have hKD : K'.D = (hs a wc regs p.many tm p.next tn words seen out asp).map (·.1) := by rw [hK]
  have hb1 := H.b1; have hb2 := H.b2; have hb3 := H.b3; have hb4 := H.b4; have hszl := H.szl
  walk_at "ex"
  ((with_reducible refine' wpAny_Assign_Name ?_ ?kKb); (case kKb => first | exact rfl | kernel_rfl))
  ((with_reducible refine' wpAny_Compare1 ?_ ?kBb); (case kBb => with_unfolding_all rfl))
  ((with_reducible refine' call_def_node ?kCa ?kCb (G_law_draw _) (P_law_draw _) ?_ ?kCf ?kCg ?kCh ?kCi ?kCj ?kCk); (case kCa | kCb => assumption); (case kCf | kCg | kCj | kCk => exact rfl); (case kCh | kCi => kernel_rfl))
  walk_at "evl"
  (refine ⟨St.base (by assumption), ?_⟩)
  refine drawH S' bs (room'.less (k := 0 + 1) (by lia)) H.well (by lia) ?_
  intro h' wc' r tr tk' S' hw' hr0 hr1
  replace H := H.withWell hw'
  have b1 := H.b1
  with_reducible refine' k_int ?_
  (first | ((with_reducible refine' PySem.P.eq_int ?_)) | ((with_reducible refine' PySem.P.eq_str ?_)) | ((with_reducible refine' eq_bool ?_)))
  walk_at "st"; intro h' t' S'
  walk_at "nx"
  walk_at "ex"
  with_reducible refine' wpAny_If ?_
  with_reducible refine' isTrue_and ?_
  ((with_reducible refine' isTrue_plain ?_ ?kIb); (case kIb => exact rfl))
  walk_at "nm"
  with_reducible refine' wpAny_truthy_bool ?_
  refine ite_b (fun hb => ?_) (fun hb => ?_)
  ·
    skip
    with_reducible refine' isTrue_and ?_
    ((with_reducible refine' wpAny_isTrue_Compare1 ?_ ?kMb); (case kMb => with_unfolding_all rfl))
    ((with_reducible refine' call_bi_node ?kKa ?kKb (Nlen _) Blen ?kKe ?_ ?kKg ?kKh ?kKi ?kKj ?kKk ?kKl ?kKm); (case kKa | kKb => assumption); (case kKe => decide); (case kKg | kKh | kKi | kKl | kKm => exact rfl); (case kKj | kKk => kernel_rfl))
    walk_at "evl"
    (first | ((with_reducible refine' len_ls ?kLa ?kLb ?_); (case kLa => walk_at "at"); (case kLb => first | lia | decide)) | ((with_reducible refine' len_dI ?kLa ?kLb ?kLc ?_); (case kLa => walk_at "at"); (case kLb => walk_at "ns"); (case kLc => lia); intro _))
    with_reducible refine' k_int ?_
    (first | ((with_reducible refine' PySem.P.gt_int ?_)))
    with_reducible refine' wpAny_truthy_bool ?_
    refine ite_b (fun hb => ?_) (fun hb => ?_)
    ·
      replace hb := of_decide_eq_true hb
      with_reducible refine' isTrue_and_nil ?_
      with_reducible refine' ite_t ?_
      walk_at "ex"
      with_reducible refine' wpAny_Return_some ?_
      ((with_reducible refine' call_def_node ?kOa ?kOb (G_law_pick _) (P_law_pick _) ?_ ?kOf ?kOg ?kOh ?kOi ?kOj ?kOk); (case kOa | kOb => assumption); (case kOf | kOg | kOj | kOk => exact rfl); (case kOh | kOi => kernel_rfl))
      walk_at "ac"
      walk_at "nm"
      walk_at "ac"
      ((with_reducible refine' call_bi_node ?kRa ?kRb (Nsorted _) Bsorted ?kRe ?_ ?kRg ?kRh ?kRi ?kRj ?kRk ?kRl ?kRm); (case kRa | kRb => assumption); (case kRe => decide); (case kRg | kRh | kRi | kRl | kRm => exact rfl); (case kRj | kRk => kernel_rfl))
      walk_at "evl"
      ((with_reducible refine' sorted_dI ?kSa ?kSb ?kSc ?kSd ?kSe ?_); (case kSa => assumption); (case kSb => walk_at "at"); (case kSc => walk_at "ns"); (case kSd => exact Room.hh (by assumption)); (case kSe => lia)); intro a' h' t' vs' S' hl' hv' hs'
      with_reducible refine' args_nil ?_
      (refine ⟨St.base (by assumption), ?_⟩)
      have hl2 : 0 < vs'.length := by lia
      refine pickH S' bs (room'.l (k := 0 + 2)) H.well (.inr (.inl (List.Mem.head _))) (by lia) (by lia) ?_
      intro h' wc' v tk' S' hw' hv
      obtain ⟨kk, tkk, rfl, hkk⟩ := hv' v hv
      replace H := H.withWell hw'
      walk_at "cret"
      with_reducible refine' rt_ret ?_
      refine bk (Λx := []) S' (fun S => q _ _ _ _ _ _ _ (.inl ⟨by rw [← H.rk]; exact hkk, rfl⟩) S H)
    ·
      replace hb := of_decide_eq_false hb
      with_reducible refine' ite_f ?_
      walk_at "exn"
      walk_at "nx"
      walk_at "ex"
      ((with_reducible refine' wpAny_Assign_Subscript ?_ ?kXb); (case kXb => exact rfl))
      walk_at "ev"
      walk_at "nm"
      with_reducible refine' k_str ?_
      ((with_reducible refine' set_dS ?kZa ?kZb ?kZc ?kZd ?_); (case kZa => assumption); (case kZb => walk_at "upd"); (case kZc => walk_at "lset"); (case kZd => walk_at "sz")); intro h' S'
      walk_at "nx"
      walk_at "ex"
      with_reducible refine' wpAny_Return_some ?_
      walk_at "ev"
      walk_at "cret"
      with_reducible refine' rt_ret ?_
      refine bk (Λx := []) S' (fun S => q _ _ _ _ _ { p with next := p.next + 1 } _ (.inr ⟨by lia, rfl⟩) S { H with })
  ·
    skip
    with_reducible refine' ite_f ?_
    walk_at "exn"
    walk_at "nx"
    walk_at "ex"
    ((with_reducible refine' wpAny_Assign_Subscript ?_ ?kBDb); (case kBDb => exact rfl))
    walk_at "ev"
    walk_at "nm"
    with_reducible refine' k_str ?_
    ((with_reducible refine' set_dS ?kBFa ?kBFb ?kBFc ?kBFd ?_); (case kBFa => assumption); (case kBFb => walk_at "upd"); (case kBFc => walk_at "lset"); (case kBFd => walk_at "sz")); intro h' S'
    walk_at "nx"
    walk_at "ex"
    with_reducible refine' wpAny_Return_some ?_
    walk_at "ev"
    walk_at "cret"
    with_reducible refine' rt_ret ?_
    refine bk (Λx := []) S' (fun S => q _ _ _ _ _ { p with next := p.next + 1 } _ (.inr ⟨by lia, rfl⟩) S { H with })
theorem reached_ {w : World} {A : Around} {E : Value → Shared → Prop} {s : Shared} {hp : Heap} {tk : Nat} {K : Ent} {L : Addr} {m : Loc} {g : Frz} {Γ : List (Addr × Cell)} {n : Nat} {Q : Value → Shared → Prop} {a : HA} {sz : List Int} {wc : Cell} {regs words : List (Int × Value)} {seen : List Value} {out : List (Int × Value)} {N : Nat} {p : PS} {tm tn : Tok} {asp : Addr}
    (S : St w K L m g (hs a wc regs p.many tm p.next tn words seen out asp ++ Γ) hp) (bs : Bs w K.B) (H : HOk w g a sz wc regs words seen out N p) (hN : N < 1000) (room : Room A (n + 1)) {c : Int} {tc : Tok} {oct : Int} {to_ : Tok} {r : Reg} (hr : p.R c = some r)
    (q : ∀ g' h' tn' seen' tk, g.le g' → St w K L m g' (hs a wc regs p.many tm p.next tn words seen' out asp ++ Γ) h' → HOk w g' a sz wc regs words seen' out (N + 1) (p.see ⟨r.num, r.gr, r.off, oct⟩) → Q (.int r.num tn') (sh s h' tk)) :
    wpAny (model PG w) A (call (.ref 197) [.ref a.ah, .int c tc, .int oct to_]) Q E (sh s hp tk) := by
  refine call_fn (hs a wc regs p.many tm p.next tn words seen out asp) [("octets", .int oct to_), ("chest", .int c tc), ("house", .ref a.ah)] S bs room (by rfl) (by kernel_rfl) (by rfl) (by kernel_rfl) ?_ (by decide) rfl rfl rfl
  intro L' h₁ tk' A' K' Pp hK room' bk S'
  have bs : Bs w K'.B := by rw [hK]; exact bs
  have hKD : K'.D = (hs a wc regs p.many tm p.next tn words seen out asp).map (·.1) := by rw [hK]
  have hb1 := H.b1; have hb2 := H.b2; have hb3 := H.b3; have hb4 := H.b4; have hszl := H.szl
  walk_at "ex"
  (first | ((with_reducible refine' Assign_Tuple ?_ ?kBIb ?kBIc); (case kBIb | kBIc => exact rfl)) | ((with_reducible refine' Assign_Tuple_swapped ?_ ?kBIb ?kBIc); (case kBIb | kBIc => exact rfl)))
  with_reducible refine' Subscript_ ?_
  walk_at "ev"
  walk_at "nm"
  with_reducible refine absG fun G9 k9 => ?_
  obtain ⟨rv, hrv, ar, t1, t2, gv, rfl, hat, gc, tg1, tg2, rfl, hgr⟩ := H.reg hr
  with_reducible refine k9 ?_
  refine sub_dI (by walk_at "at") hrv ?_
  walk_at "unp"; intro h' S'
  (refine assignInOrder_cons ?_)
  (first | ((with_reducible refine' assign_Name ?_)) | ((with_reducible refine' bindName_ ?_)))
  walk_at "st"; intro h' t' S'
  (refine assignInOrder_cons ?_)
  (first | ((with_reducible refine' assign_Name ?_)) | ((with_reducible refine' bindName_ ?_)))
  walk_at "st"; intro h' t' S'
  (refine assignInOrder_cons ?_)
  (first | ((with_reducible refine' assign_Name ?_)) | ((with_reducible refine' bindName_ ?_)))
  walk_at "st"; intro h' t' S'
  (refine assignInOrder_nil ?_)
  walk_at "nx"
  walk_at "ex"
  ((with_reducible refine' wpAny_Expr_any ?_ ?kBOb ?kBOc); (case kBOb | kBOc => exact rfl))
  ((with_reducible refine' meth_node PySem.F.plainAttrs_list PySem.F.slot_list_append PySem.F.type_list_append ?_ ?kBPe ?kBPf ?kBPg ?kBPh ?kBPi); (case kBPe | kBPf | kBPg | kBPh | kBPi => exact rfl))
  walk_at "ev"
  (refine ⟨_, rfl, ?_, ?_⟩; (first | exact obj_lx (by walk_at "at") | exact obj_dI (by walk_at "at") | exact obj_dS (by walk_at "at") | exact obj_st (by walk_at "at")))
  walk_at "ac"
  with_reducible refine' ev_tuple ?_
  walk_at "ac"
  walk_at "nm"
  walk_at "ac"
  with_reducible refine' ev_tuple ?_
  walk_at "evl"
  ((with_reducible refine' new_tp ?kSa ?_ ?kSc); (case kSa => assumption); (case kSc => walk_at "sz")); intro a' h' S'
  with_reducible refine' args_nil ?_
  ((with_reducible refine' new_tp ?kTa ?_ ?kTc); (case kTa => assumption); (case kTc => walk_at "sz")); intro a' h' S'
  with_reducible refine' args_nil ?_
  have bb := H.b3
  ((show wpAny _ _ (call _ [_, _]) _ _ _); (with_reducible refine' app_lx ?kBVa ?kBVb ?kBVc ?_); (case kBVa => assumption); (case kBVb => walk_at "upd"); (case kBVc => walk_at "sz")); intro h' S'
  walk_at "nx"
  walk_at "ex"
  with_reducible refine' wpAny_Return_some ?_
  walk_at "nm"
  walk_at "cret"
  with_reducible refine' rt_ret ?_
  have f2 := St.freshL S' hKD (List.Mem.tail _ (List.Mem.head _))
  with_reducible refine absG fun G9 k9 => ?_
  obtain ⟨g1, l1, c1, S1⟩ := (S'.perm (Γ' := hs a wc regs p.many tm p.next tn words _ out asp ++ [_, _]) (by exact List.Perm.append_left _ (List.Perm.swap _ _ _))).freezeL f2
  have f3 := St.freshL S1 hKD (List.Mem.head _)
  obtain ⟨g2, l2, c2, S2⟩ := S1.freezeL f3
  with_reducible refine k9 ?_
  have Hm := H.mono (l1.trans l2)
  refine bk (Λx := []) S2 (fun S => q g2 _ _ _ _ (l1.trans l2) S { Hm with sn := ?_, b1 := by have := H.b1; lia, b2 := by have := H.b2; lia, b3 := by have := H.b3; simp; lia, b4 := by have := H.b4; lia })
  intro v hv
  rcases List.mem_append.mp hv with hv | hv
  · obtain ⟨r, h1, h2⟩ := Hm.sn v hv; exact ⟨r, .tail _ h1, h2⟩
  · cases List.mem_singleton.mp hv
    exact ⟨_, .head _, _, _, _, _, _, _, rfl, c2, c1.mono l2, _, _, _, rfl, hgr.mono (l1.trans l2)⟩
theorem valueAt_without {α : Type} [DecidableEq α] {l : List (α × Value)} {k j : α} (h : j ≠ k) : valueAt (without l k) j = valueAt l j := by
  unfold valueAt without
  rw [List.find?_filter]
  congr 1
  induction l with
  | nil => rfl
  | cons x r ih =>
    rw [List.find?_cons, List.find?_cons, ih]
    by_cases e : x.1 = j
    · simp [e, h]
    · simp [e]
theorem valueAt_stored {α : Type} [DecidableEq α] {l : List (α × Value)} {k j : α} {v : Value} : valueAt (stored l k v) j = if j = k then some v else valueAt l j := by
  unfold valueAt stored
  split
  · rename_i q
    induction l with
    | nil => simp at q
    | cons x r ih =>
      rw [List.map_cons, List.find?_cons, List.find?_cons]
      by_cases e : x.1 = k
      · by_cases f : j = k
        · simp [e, f]
        · have : ¬ k = j := fun z => f z.symm
          simp only [e, if_true, this, decide_false, f, if_false]
          rw [if_neg f] at ih
          by_cases any : (r.any fun kv => decide (kv.1 = k)) = true
          · have := ih (by simpa using any)
            simpa [e, this] using this
          · refine congrArg (fun l : List (α × Value) => (l.find? fun kv => decide (kv.1 = j)).map (·.2)) ?_
            rw [List.any_eq_true] at any
            refine (List.map_congr_left (g := id) fun y hy => ?_).trans (List.map_id r)
            rw [if_neg (fun z => any ⟨y, hy, by simpa using z⟩)]; rfl
      · by_cases f : x.1 = j
        · have : ¬ j = k := fun z => e (f.trans z)
          simp [e, f, this]
        · have q' : (r.any fun kv => decide (kv.1 = k)) = true := by simpa [e] using q
          have := ih (by simpa using q')
          simpa [e, f] using this
  · rename_i q
    rw [List.find?_append]
    by_cases f : j = k
    · subst f
      have : l.find? (fun kv => decide (kv.1 = j)) = none := by
        rw [List.find?_eq_none]
        intro y hy z
        exact q (List.any_eq_true.mpr ⟨y, hy, z⟩)
      simp [this]
    · have : ¬ k = j := fun z => f z.symm
      simp [this, f]
theorem intsAre_distinct {vs : List Value} {ns : List Int} (x : IntsAre vs ns) (nd : ns.Nodup) {i j : Nat} {a b : Int} {t u : Tok} (hi : vs[i]? = some (.int a t)) (hj : vs[j]? = some (.int b u)) (h : i ≠ j) : a ≠ b := by
  obtain ⟨_, e⟩ := intsAre_nd x
  obtain ⟨_, h1, e1⟩ := e i _ hi
  obtain ⟨_, h2, e2⟩ := e j _ hj
  cases e1; cases e2
  intro z
  exact h ((List.getElem_inj nd).mp z)
theorem cleared_ {w : World} {A : Around} {E : Value → Shared → Prop} {s : Shared} {hp : Heap} {tk : Nat} {K : Ent} {L : Addr} {m : Loc} {g : Frz} {Γ : List (Addr × Cell)} {n : Nat} {Q : Value → Shared → Prop} {a : HA} {sz : List Int} {wc : Cell} {regs words : List (Int × Value)} {seen : List Value} {out : List (Int × Value)} {N : Nat} {p : PS} {tm tn : Tok} {asp : Addr}
    (S : St w K L m g (hs a wc regs p.many tm p.next tn words seen out asp ++ Γ) hp) (bs : Bs w K.B) (H : HOk w g a sz wc regs words seen out N p) (hN : N < 63) (room : Room A (n + 1)) {num : Int} {tz : Tok} {oct : Int} {to_ : Tok}
    (q : ∀ h' words' tk, words'.Sublist words → St w K L m g (hs a wc regs p.many tm p.next tn words' seen out asp ++ Γ) h' → Q .none (sh s h' tk)) :
    wpAny (model PG w) A (call (.ref 204) [.ref a.ah, .int num tz, .int oct to_]) Q E (sh s hp tk) := by
  refine call_fn (hs a wc regs p.many tm p.next tn words seen out asp) [("octets", .int oct to_), ("number", .int num tz), ("house", .ref a.ah)] S bs room (by rfl) (by kernel_rfl) (by rfl) (by kernel_rfl) ?_ (by decide) rfl rfl rfl
  intro L' h₁ tk' A' K' Pp hK room' bk S'
  have bs : Bs w K'.B := by rw [hK]; exact bs
  have hKD : K'.D = (hs a wc regs p.many tm p.next tn words seen out asp).map (·.1) := by rw [hK]
  have hb1 := H.b1; have hb2 := H.b2; have hb3 := H.b3; have hb4 := H.b4; have hszl := H.szl
  walk_at "ex"
  ((with_reducible refine' for_ex ?_ ?kBb); (case kBb => intro _; rfl))
  ((with_reducible refine' call_bi_node ?kCa ?kCb (Nsorted _) Bsorted ?kCe ?_ ?kCg ?kCh ?kCi ?kCj ?kCk ?kCl ?kCm); (case kCa | kCb => assumption); (case kCe => decide); (case kCg | kCh | kCi | kCl | kCm => exact rfl); (case kCj | kCk => kernel_rfl))
  walk_at "evl"
  ((with_reducible refine' sorted_dI ?kDa ?kDb ?kDc ?kDd ?kDe ?_); (case kDa => assumption); (case kDb => walk_at "at"); (case kDc => walk_at "ns"); (case kDd => exact Room.hh (by assumption)); (case kDe => lia)); intro a' h' t' vs' S' hl' hv' hs'
  ((with_reducible refine' iter_ls ?kEa ?kEb ?_); (case kEa => assumption); (case kEb => walk_at "at")); intro it' h' S'
  have nd := (S'.rd (by walk_at "mem") : At w h'.get? a.awd (.dI words)).dInd
  refine for_go (J := fun i m g2 ΓD Λ => ∃ wds, m = ([("octets", .int oct to_), ("number", .int num tz), ("house", .ref a.ah)] : Loc) ∧ g = g2 ∧ ΓD = hs a wc regs p.many tm p.next tn wds seen out asp ∧ Λ = [(a', .lx vs')] ∧ wds.Sublist words ∧ ∀ (j : Nat) (k : Int) (t : Tok), i ≤ j → vs'[j]? = some (.int k t) → (valueAt wds k).isSome = true) (src_ls (by exact Room.hh (by assumption)) it' a' vs') S' ?j0 ?ok ?hg ?step ?done
  case j0 =>
    exact ⟨words, rfl, rfl, rfl, rfl, List.Sublist.refl _, fun j k t _ h => by
      obtain ⟨k', t', e, h'⟩ := hv' _ (List.mem_of_getElem? h)
      cases e; exact h'⟩
  case ok =>
    intro i m g ΓD Λ h hj S; obtain ⟨wds, rfl, rfl, rfl, rfl, _, _⟩ := hj; walk_at "at"
  case hg => first | exact .inl ⟨_, _, rfl⟩ | exact .inr ⟨_, _, _, rfl, by walk_at "hgt"⟩
  case step =>
    intro i' v' m' g' ΓD' Λ' h' t' P' hi' hx' hj' X' S'
    with_reducible refine absG fun G9 k9 => ?_
    obtain ⟨wds, rfl, rfl, rfl, rfl, hsub, hk⟩ := hj'
    obtain ⟨k0, tk0, rfl, _⟩ := hv' _ (List.mem_of_getElem? hx')
    with_reducible refine k9 ?_
    have bb := hsub.length_le
    have b2 := H.b2
    with_reducible refine' assign_Name ?_
    walk_at "st"; intro h' t' S'
    walk_at "ex"
    with_reducible refine' wpAny_If ?_
    with_reducible refine' isTrue_and ?_
    ((with_reducible refine' evb_ ?kUa ?kUb ?_ ?kUd ?kUe); (case kUa => assumption); (case kUb => walk_at "eec"); (case kUd | kUe => exact rfl))
    refine ite_b (fun hb => ?_) (fun hb => ?_)
    ·
      replace hb := of_decide_eq_true hb
      with_reducible refine' isTrue_and ?_
      ((with_reducible refine' evb_ ?kVa ?kVb ?_ ?kVd ?kVe); (case kVa => assumption); (case kVb => walk_at "eec"); (case kVd | kVe => exact rfl))
      refine ite_b (fun hb => ?_) (fun hb => ?_)
      ·
        replace hb := of_decide_eq_true hb
        with_reducible refine' isTrue_and_nil ?_
        with_reducible refine' ite_t ?_
        walk_at "ex"
        ((with_reducible refine' wpAny_Expr_any ?_ ?kLb ?kLc); (case kLb | kLc => exact rfl))
        ((with_reducible refine' meth_node PySem.F.plainAttrs_dict PySem.F.slot_dict_pop PySem.F.type_dict_pop ?_ ?kMe ?kMf ?kMg ?kMh ?kMi); (case kMe | kMf | kMg | kMh | kMi => exact rfl))
        walk_at "ev"
        (refine ⟨_, rfl, ?_, ?_⟩; (first | exact obj_lx (by walk_at "at") | exact obj_dI (by walk_at "at") | exact obj_dS (by walk_at "at") | exact obj_st (by walk_at "at")))
        walk_at "evl"
        (show wpAny _ _ (call _ [_, _]) _ _ _)
        obtain ⟨v0, hv0⟩ := Option.isSome_iff_exists.mp (hk i' k0 tk0 (by lia) hx')
        refine dict_pop S' (by walk_at "upd") hv0 (by rw [sizeLine_eq]; lia) ?_
        intro h' t' S'
        walk_at "nx"
        walk_at "exn"
        walk_at "nx"
        walk_at "exn"
        first
         | (refine X'.next (St.weak S' ?_) ⟨without wds k0, rfl, rfl, rfl, rfl, without_sub.trans hsub, fun j k t hj h => ?_⟩; (walk_at "lsub"); (obtain ⟨ns, hI, hP⟩ := hs'; rw [valueAt_without (intsAre_distinct hI (hP.nodup_iff.mpr nd) h hx' (by lia))]; exact hk j k t (by lia) h))
         | (refine X'.next (St.weak S' ?_) ⟨wds, rfl, rfl, rfl, rfl, hsub, fun j k t hj h => hk j k t (by lia) h⟩; walk_at "lsub")
      ·
        replace hb := of_decide_eq_false hb
        with_reducible refine' ite_f ?_
        walk_at "exn"
        walk_at "nx"
        walk_at "exn"
        first
         | (refine X'.next (St.weak S' ?_) ⟨without wds k0, rfl, rfl, rfl, rfl, without_sub.trans hsub, fun j k t hj h => ?_⟩; (walk_at "lsub"); (obtain ⟨ns, hI, hP⟩ := hs'; rw [valueAt_without (intsAre_distinct hI (hP.nodup_iff.mpr nd) h hx' (by lia))]; exact hk j k t (by lia) h))
         | (refine X'.next (St.weak S' ?_) ⟨wds, rfl, rfl, rfl, rfl, hsub, fun j k t hj h => hk j k t (by lia) h⟩; walk_at "lsub")
    ·
      replace hb := of_decide_eq_false hb
      with_reducible refine' ite_f ?_
      walk_at "exn"
      walk_at "nx"
      walk_at "exn"
      first
       | (refine X'.next (St.weak S' ?_) ⟨without wds k0, rfl, rfl, rfl, rfl, without_sub.trans hsub, fun j k t hj h => ?_⟩; (walk_at "lsub"); (obtain ⟨ns, hI, hP⟩ := hs'; rw [valueAt_without (intsAre_distinct hI (hP.nodup_iff.mpr nd) h hx' (by lia))]; exact hk j k t (by lia) h))
       | (refine X'.next (St.weak S' ?_) ⟨wds, rfl, rfl, rfl, rfl, hsub, fun j k t hj h => hk j k t (by lia) h⟩; walk_at "lsub")
  case done =>
    intro m' g' ΓD' Λ' h' t' hj' S'
    with_reducible refine absG fun G9 k9 => ?_
    obtain ⟨wds, rfl, rfl, rfl, rfl, hsub, hk⟩ := hj'
    with_reducible refine k9 ?_
    walk_at "nx"
    walk_at "exn"
    with_reducible refine' rt_next ?_
    refine bk (Λx := []) S' (fun S => q _ _ _ hsub S)
theorem len_stored {α : Type} [DecidableEq α] (l : List (α × Value)) (k : α) (v : Value) : (stored l k v).length ≤ l.length + 1 := by
  unfold stored; split <;> simp
theorem handed_ {w : World} {A : Around} {E : Value → Shared → Prop} {s : Shared} {hp : Heap} {tk : Nat} {K : Ent} {L : Addr} {m : Loc} {g : Frz} {Γ : List (Addr × Cell)} {n : Nat} {Q : Value → Shared → Prop} {a : HA} {sz : List Int} {wc : Cell} {regs words : List (Int × Value)} {seen : List Value} {out : List (Int × Value)} {N : Nat} {p : PS} {tm tn : Tok} {asp : Addr}
    (S : St w K L m g (hs a wc regs p.many tm p.next tn words seen out asp ++ Γ) hp) (bs : Bs w K.B) (H : HOk w g a sz wc regs words seen out N p) (hN : N < 63) (room : Room A (n + 1)) {al : Addr} {vs : List Value} {cs : List Int} (hm : Rd w g Γ al (.ls vs) ∨ Rd w g Γ al (.lx vs)) (hI : IntsAre vs cs) (hc : ∀ c ∈ cs, (p.R c).isSome = true) (hl : cs.length ≤ 10)
    (q : ∀ h' out' tk, St w K L m g (hs a wc regs p.many tm p.next tn words seen out' asp ++ Γ) h' → HOk w g a sz wc regs words seen out' (N + cs.length) (p.hand cs) → Q .none (sh s h' tk)) :
    wpAny (model PG w) A (call (.ref 211) [.ref a.ah, .ref al]) Q E (sh s hp tk) := by
  have hat : At w hp.get? al (.ls vs) ∧ al ∉ (hs a wc regs p.many tm p.next tn words seen out asp).map (·.1) := by
    rcases hm with hm | hm
    · exact S.rdOld hm
    · exact ⟨(S.rdOld hm).1.lx, (S.rdOld hm).2⟩
  refine call_fn (hs a wc regs p.many tm p.next tn words seen out asp) [("registers", .ref al), ("house", .ref a.ah)] S bs room (by rfl) (by kernel_rfl) (by rfl) (by kernel_rfl) ?_ (by decide) rfl rfl rfl
  intro L' h₁ tk' A' K' Pp hK room' bk S'
  have bs : Bs w K'.B := by rw [hK]; exact bs
  have hKD : K'.D = (hs a wc regs p.many tm p.next tn words seen out asp).map (·.1) := by rw [hK]
  have hb1 := H.b1; have hb2 := H.b2; have hb3 := H.b3; have hb4 := H.b4; have hszl := H.szl
  walk_at "ex"
  ((with_reducible refine' for_ex ?_ ?kBb); (case kBb => intro _; rfl))
  walk_at "nm"
  have hat : At w K'.h₀.get? al (.ls vs) ∧ al ∉ K'.D := by rw [hK]; exact hat
  refine iter_ls S' (S'.old hat.1 hat.2) ?_; intro it' h' S'
  refine for_go (J := fun i m g2 ΓD Λ => ∃ o', m = ([("registers", .ref al), ("house", .ref a.ah)] : Loc) ∧ g = g2 ∧ ΓD = hs a wc regs p.many tm p.next tn words seen o' asp ∧ Λ = [] ∧ o'.length ≤ out.length + i ∧ ∀ kv ∈ o', kv.1 ∈ p.ov ++ (cs.take i).flatMap p.slotOf) (src_ls (by exact Room.hh (by assumption)) it' al vs) S' ?j0 ?ok ?hg ?step ?done
  case j0 =>
    exact ⟨out, rfl, rfl, rfl, rfl, Nat.le_refl _, fun kv h => by simpa using H.ou kv h⟩
  case ok =>
    intro i m g ΓD Λ h hj S; exact S.old hat.1 hat.2
  case hg => first | exact .inl ⟨_, _, rfl⟩ | exact .inr ⟨_, _, _, rfl, by walk_at "hgt"⟩
  case step =>
    intro i' v' m' g' ΓD' Λ' h' t' P' hi' hx' hj' X' S'
    with_reducible refine absG fun G9 k9 => ?_
    obtain ⟨o', rfl, rfl, rfl, rfl, hol, hom⟩ := hj'
    obtain ⟨hlen, hpt⟩ := intsAre_nd hI
    obtain ⟨tc, hic, rfl⟩ := hpt _ _ hx'
    obtain ⟨r, hr⟩ := Option.isSome_iff_exists.mp (hc _ (List.getElem_mem hic))
    obtain ⟨rv, hrv, ar, t1, t2, gv, rfl, hat2, gc, tg1, tg2, rfl, hgr⟩ := H.reg hr
    with_reducible refine k9 ?_
    have htk : (cs.take (i' + 1)).flatMap p.slotOf = (cs.take i').flatMap p.slotOf ++ p.slotOf cs[i'] := by rw [← List.take_append_getElem hic, List.flatMap_append, List.flatMap_cons, List.flatMap_nil, List.append_nil]
    with_reducible refine' assign_Name ?_
    walk_at "st"; intro h' t' S'
    walk_at "ex"
    ((with_reducible refine' wpAny_Assign_Name ?_ ?kWb); (case kWb => first | exact rfl | kernel_rfl))
    with_reducible refine' Subscript_ ?_
    with_reducible refine' Subscript_ ?_
    walk_at "ev"
    walk_at "nm"
    refine sub_dI (by walk_at "at") hrv ?_
    with_reducible refine' k_int ?_
    walk_at "tail"
    walk_at "st"; intro h' t' S'
    walk_at "nx"
    walk_at "ex"
    with_reducible refine' wpAny_If ?_
    ((with_reducible refine' wpAny_isTrue_Compare1 ?_ ?kXb); (case kXb => with_unfolding_all rfl))
    walk_at "ev"
    with_reducible refine' k_str ?_
    refine PyProof.Rows.eq_str ?_
    with_reducible refine' wpAny_truthy_bool ?_
    refine ite_b (fun hb => ?_) (fun hb => ?_)
    ·
      replace hb := eq_of_beq hb
      obtain ⟨si, hsi⟩ := kind_slot hb
      replace hgr : At w g gc (.tp [.str (Gr.slot si).kind tg1, .int si tg2]) := by rw [hsi] at hgr; exact hgr
      have hol2 := hol
      walk_at "ex"
      ((with_reducible refine' wpAny_Assign_Subscript ?_ ?kIb); (case kIb => exact rfl))
      with_reducible refine' wpAny_Constant_bool ?_
      walk_at "ev"
      walk_at "ev"
      ((with_reducible refine' set_dI ?kKa ?kKb ?kKc ?_); (case kKa => assumption); (case kKb => walk_at "upd"); (case kKc => walk_at "sz")); intro h' S'
      walk_at "nx"
      walk_at "exn"
      walk_at "nx"
      walk_at "exn"
      first
       | (refine X'.next (St.weak S' ?_) ⟨stored o' si (.bool true), rfl, rfl, rfl, rfl, ?_, fun kv h => ?_⟩; (walk_at "lsub"); (have := len_stored o' si (.bool true); lia); (rw [htk]; rcases mem_stored h with rfl | h; (have e : p.slotOf cs[i'] = [si] := by { obtain ⟨rn, rg, ro⟩ := r; simp only at hsi; subst hsi; simp [PS.slotOf, hr] }); (rw [e]; simp); (have := hom kv h; rw [← List.append_assoc]; exact List.mem_append_left _ this)))
       | (refine X'.next (St.weak S' ?_) ⟨o', rfl, rfl, rfl, rfl, by lia, fun kv h => ?_⟩; (walk_at "lsub"); (rw [htk]; have := hom kv h; rw [← List.append_assoc]; exact List.mem_append_left _ this))
    ·
      replace hb := ne_of_beq_false hb
      walk_at "exn"
      walk_at "nx"
      walk_at "exn"
      first
       | (refine X'.next (St.weak S' ?_) ⟨stored o' si (.bool true), rfl, rfl, rfl, rfl, ?_, fun kv h => ?_⟩; (walk_at "lsub"); (have := len_stored o' si (.bool true); lia); (rw [htk]; rcases mem_stored h with rfl | h; (have e : p.slotOf cs[i'] = [si] := by { obtain ⟨rn, rg, ro⟩ := r; simp only at hsi; subst hsi; simp [PS.slotOf, hr] }); (rw [e]; simp); (have := hom kv h; rw [← List.append_assoc]; exact List.mem_append_left _ this)))
       | (refine X'.next (St.weak S' ?_) ⟨o', rfl, rfl, rfl, rfl, by lia, fun kv h => ?_⟩; (walk_at "lsub"); (rw [htk]; have := hom kv h; rw [← List.append_assoc]; exact List.mem_append_left _ this))
  case done =>
    intro m' g' ΓD' Λ' h' t' hj' S'
    with_reducible refine absG fun G9 k9 => ?_
    obtain ⟨o', rfl, rfl, rfl, rfl, hol, hom⟩ := hj'
    with_reducible refine k9 ?_
    walk_at "nx"
    walk_at "exn"
    with_reducible refine' rt_next ?_
    have hlen := (intsAre_nd hI).1
    refine bk (Λx := []) S' (fun S => q _ _ _ S { H.up (Nat.le_add_right N cs.length) with ou := fun kv h => ?_, b4 := by lia })
    have := hom kv h
    rw [hlen, List.take_length] at this
    exact this
theorem Room.under {A : Around} {n : Nat} (r : Room A (n + 1)) (C : Addr) (rest : List Value) : Room (A.under (.builtin "type.__call__" ⟨.ref C :: rest, []⟩)) n :=
  ⟨by have := r.d; rw [PyProof.Rows.depth_under_make]; lia, by have := r.u; rw [PyProof.Rows.units_under_make]; lia, r.hh⟩
section
variable {w : World} {A : Around} {E : Value → Shared → Prop} {s : Shared} {h : Heap} {t : Nat} {K : Ent} {L : Addr} {m : Loc} {g : Frz} {Γ : List (Addr × Cell)}
theorem new_inst {C fI : Addr} {rest : List Value} {Q : Value → Shared → Prop} (S : St w K L m g Γ h) (bs : Bs w K.B) (hm : makesIn (hd.heap_39 w.params) C = true) (hi : findIn (hd.heap_39 w.params) (.ref C) "__init__" = some (some (.ref fI)))
    (hf : typeIn (hd.heap_39 w.params) (.ref fI) = some (.type "function"))
    (q : ∀ x d h', K.h₀.objs.size ≤ x → K.h₀.objs.size ≤ d → St w K L m g ([(x, .ins C d), (d, .dS [])] ++ Γ) h' →
      codeAny (model PG w) (A.under (.builtin "type.__call__" ⟨.ref C :: rest, []⟩)) (.call (.ref fI) ⟨.ref x :: rest, []⟩) (InitBack x fun r s' => match r with | .ok (.ret v) => Q v s' | .ok _ => False | .error e => E e s') (sh s h' t)) :
    wpAny (model PG w) A (call (.ref C) rest) Q E (sh s h t) := by
  have X := bs.X.keeps S.base
  refine wpAny_call (make_core (h := h) (g := (sh s h t).gens) (makes_of X hm) (looks_findIn X hi) (fun self => bind_fn X self hf) (.inl rfl) ?_)
  have S1 := S.push (o := emptyDict) (c := .dS []) ⟨#[], 0, ⟨rfl, rfl, rfl⟩, rfl, fun e he => by simp at he, .nil, .nil⟩ rfl
  have S2 := S1.push (o := instObj C h.objs.size) (c := .ins C h.objs.size) ⟨rfl, rfl, rfl⟩ rfl
  rw [Heap.size_push] at S2
  exact q _ _ _ (Nat.le_succ_of_le S.grow) S.grow S2
end
theorem mkStep_ {w : World} {A : Around} {E : Value → Shared → Prop} {s : Shared} {hp : Heap} {tk : Nat} {K : Ent} {L : Addr} {m : Loc} {g : Frz} {Γ : List (Addr × Cell)} {n : Nat} {Q : Value → Shared → Prop} {op dst args more : Value} (S : St w K L m g Γ hp) (bs : Bs w K.B) (room : Room A (n + 2))
    (q : ∀ g' x d tl h' tk, g.le g' → At w g' x (.ins 31 d) → At w g' d (.dS [("op", op), ("dst", dst), ("args", args), ("more", more), ("is_volatile", .bool false), ("line", .int 0 tl)]) → St w K L m g' Γ h' → Q (.ref x) (sh s h' tk)) :
    wpAny (model PG w) A (call (.ref 31) [op, dst, args, more]) Q E (sh s hp tk) := by
  refine new_inst (fI := 28) S bs (by kernel_rfl) (by kernel_rfl) (by kernel_rfl) ?_
  intro x d h' hx hd' S1
  refine call_code [(x, .ins 31 d), (d, .dS [])] [("more", more), ("args", args), ("dst", dst), ("op", op), ("self", .ref x)] S1 bs (room.under _ _) (by rfl) (by kernel_rfl) (by rfl) (by kernel_rfl) (Q := fun v s' => v = .none ∧ ∃ h' tk tl, s' = sh s h' tk ∧ St w K L m g ([(x, .ins 31 d), (d, .dS [("op", op), ("dst", dst), ("args", args), ("more", more), ("is_volatile", .bool false), ("line", .int 0 tl)])] ++ Γ) h') ?_ (by decide) rfl rfl rfl ?_
  case refine_2 =>
    rintro v s' ⟨rfl, h', tk, tl, rfl, S2⟩
    refine ⟨rfl, ?_⟩
    show Q _ _
    obtain ⟨g1, l1, c1, S3⟩ := St.freezeL (ΓD := []) (Λ := (d, _) :: Γ) S2 hx
    obtain ⟨g2, l2, c2, S4⟩ := St.freezeL (ΓD := []) (Λ := Γ) S3 hd'
    exact q _ _ _ _ _ _ (l1.trans l2) (c1.mono l2) c2 S4
  intro L' h₁ tk' A' K' Pp hK room' bk S'
  subst hK
  walk_at "ex"
  ((with_reducible refine' plainObj_wpAny_Assign_Attribute ?_ ?kBb); (case kBb => exact rfl))
  walk_at "nm"
  walk_at "nm"
  ((with_reducible refine' set_at ?kZa ?kZb ?kZc ?kZd ?kZe ?kZf ?kZg ?kZh ?kZi ?kZj ?_); (case kZa | kZb => assumption); (case kZc => walk_at "at"); (case kZd => walk_at "upd"); (case kZe => walk_at "lset"); (case kZf | kZg | kZh | kZi => kernel_rfl); (case kZj => walk_at "sz")); intro h' t' S'
  walk_at "nx"
  walk_at "ex"
  ((with_reducible refine' plainObj_wpAny_Assign_Attribute ?_ ?kCb); (case kCb => exact rfl))
  walk_at "nm"
  walk_at "nm"
  ((with_reducible refine' set_at ?kBAa ?kBAb ?kBAc ?kBAd ?kBAe ?kBAf ?kBAg ?kBAh ?kBAi ?kBAj ?_); (case kBAa | kBAb => assumption); (case kBAc => walk_at "at"); (case kBAd => walk_at "upd"); (case kBAe => walk_at "lset"); (case kBAf | kBAg | kBAh | kBAi => kernel_rfl); (case kBAj => walk_at "sz")); intro h' t' S'
  walk_at "nx"
  walk_at "ex"
  ((with_reducible refine' plainObj_wpAny_Assign_Attribute ?_ ?kDb); (case kDb => exact rfl))
  walk_at "nm"
  walk_at "nm"
  ((with_reducible refine' set_at ?kBBa ?kBBb ?kBBc ?kBBd ?kBBe ?kBBf ?kBBg ?kBBh ?kBBi ?kBBj ?_); (case kBBa | kBBb => assumption); (case kBBc => walk_at "at"); (case kBBd => walk_at "upd"); (case kBBe => walk_at "lset"); (case kBBf | kBBg | kBBh | kBBi => kernel_rfl); (case kBBj => walk_at "sz")); intro h' t' S'
  walk_at "nx"
  walk_at "ex"
  ((with_reducible refine' plainObj_wpAny_Assign_Attribute ?_ ?kEb); (case kEb => exact rfl))
  walk_at "nm"
  walk_at "nm"
  ((with_reducible refine' set_at ?kBCa ?kBCb ?kBCc ?kBCd ?kBCe ?kBCf ?kBCg ?kBCh ?kBCi ?kBCj ?_); (case kBCa | kBCb => assumption); (case kBCc => walk_at "at"); (case kBCd => walk_at "upd"); (case kBCe => walk_at "lset"); (case kBCf | kBCg | kBCh | kBCi => kernel_rfl); (case kBCj => walk_at "sz")); intro h' t' S'
  walk_at "nx"
  walk_at "ex"
  ((with_reducible refine' plainObj_wpAny_Assign_Attribute ?_ ?kFb); (case kFb => exact rfl))
  with_reducible refine' wpAny_Constant_bool ?_
  walk_at "nm"
  ((with_reducible refine' set_at ?kBDa ?kBDb ?kBDc ?kBDd ?kBDe ?kBDf ?kBDg ?kBDh ?kBDi ?kBDj ?_); (case kBDa | kBDb => assumption); (case kBDc => walk_at "at"); (case kBDd => walk_at "upd"); (case kBDe => walk_at "lset"); (case kBDf | kBDg | kBDh | kBDi => kernel_rfl); (case kBDj => walk_at "sz")); intro h' t' S'
  walk_at "nx"
  walk_at "ex"
  ((with_reducible refine' plainObj_wpAny_Assign_Attribute ?_ ?kHb); (case kHb => exact rfl))
  with_reducible refine' k_int ?_
  walk_at "nm"
  ((with_reducible refine' set_at ?kBEa ?kBEb ?kBEc ?kBEd ?kBEe ?kBEf ?kBEg ?kBEh ?kBEi ?kBEj ?_); (case kBEa | kBEb => assumption); (case kBEc => walk_at "at"); (case kBEd => walk_at "upd"); (case kBEe => walk_at "lset"); (case kBEf | kBEg | kBEh | kBEi => kernel_rfl); (case kBEj => walk_at "sz")); intro h' t' S'
  walk_at "nx"
  walk_at "exn"
  with_reducible refine' rt_next ?_
  refine bk (ΓD' := [_, _]) (Λx := []) S' (fun S => ⟨rfl, _, _, _, rfl, S⟩)
theorem homes_ {w : World} {A : Around} {E : Value → Shared → Prop} {s : Shared} {hp : Heap} {tk : Nat} {K : Ent} {L : Addr} {m : Loc} {g : Frz} {Γ : List (Addr × Cell)} {n : Nat} {Q : Value → Shared → Prop} 
    (S : St w K L m g ([] ++ Γ) hp) (bs : Bs w K.B) (room : Room A (n + 1)) 
    (q : ∀ g' d h' t1 t2 tk, g.le g' → At w g' d (.dS [("p", .int 65536 t1), ("q", .int 69632 t2)]) → St w K L m g' Γ h' → Q (.ref d) (sh s h' tk)) :
    wpAny (model PG w) A (call (.ref 155) []) Q E (sh s hp tk) := by
  refine call_fn ([]) [] S bs room (by rfl) (by kernel_rfl) (by rfl) (by kernel_rfl) ?_ (by decide) rfl rfl rfl
  intro L' h₁ tk' A' K' Pp hK room' bk S'
  subst hK
  walk_at "ex"
  with_reducible refine' wpAny_Return_some ?_
  ((with_reducible refine' dict_S ?kCa ?_ ?kCc ?kCd ?kCe ?kCf); (case kCa => assumption); (case kCc | kCd => exact rfl); (case kCe | kCf => decide)); intro d' h' S'
  with_reducible refine' pairTrees_cons_walk ?_
  with_reducible refine' k_str ?_
  with_reducible refine' k_int ?_
  with_reducible refine' pairTrees_cons_walk ?_
  with_reducible refine' k_str ?_
  with_reducible refine' k_int ?_
  with_reducible refine' pairTrees_nil_walk ?_
  ((with_reducible refine' dspS ?kKa ?kKb ?kKc ?kKd ?_); (case kKa => assumption); (case kKb => walk_at "car"); (case kKc => walk_at "upd"); (case kKd => exact of_decide_eq_true (by kernel_rfl))); intro h' t' S'
  walk_at "cret"
  with_reducible refine' rt_ret ?_
  obtain ⟨g1, l1, c1, S1⟩ := S'.freezeAll rfl
  refine bk (ΓD' := []) (Λx := []) S1 (fun S => q _ _ _ _ _ _ l1 (c1 _ (List.Mem.head _)) S)
structure Row where
  op : Str
  dst : Int
  args : List (Str × Int)
  more : Int
def ArgOk (w : World) (g : Frz) (v : Value) (x : Str × Int) : Prop := ∃ a t t', v = .ref a ∧ At w g a (.tp [.str x.1 t, .int x.2 t'])
inductive ArgsOk (w : World) (g : Frz) : List Value → List (Str × Int) → Prop
  | nil : ArgsOk w g [] []
  | cons {v : Value} {x : Str × Int} {vs : List Value} {xs : List (Str × Int)} : ArgOk w g v x → ArgsOk w g vs xs → ArgsOk w g (v :: vs) (x :: xs)
abbrev RowB (w : World) (g : Frz) (r : Row) (x d al : Addr) (t1 t2 tl : Tok) (mv : Value) (avs : List Value) : Prop := At w g x (.ins 31 d) ∧
  At w g d (.dS [("op", .str r.op t1), ("dst", .int r.dst t2), ("args", .ref al), ("more", mv), ("is_volatile", .bool false), ("line", .int 0 tl)]) ∧
  At w g al (.lx avs) ∧ ArgsOk w g avs r.args ∧ (r.op = "slot" → ∃ t, mv = .int r.more t)
def RowOk (w : World) (g : Frz) (v : Value) (r : Row) : Prop := ∃ x d al t1 t2 tl mv avs, v = .ref x ∧ RowB w g r x d al t1 t2 tl mv avs
theorem ArgOk.mono {w : World} {g g' : Frz} {v : Value} {x : Str × Int} (h : ArgOk w g v x) (k : g.le g') : ArgOk w g' v x := let ⟨a, t, t', e, c⟩ := h; ⟨a, t, t', e, c.mono k⟩
theorem ArgsOk.mono {w : World} {g g' : Frz} {vs : List Value} {xs : List (Str × Int)} (h : ArgsOk w g vs xs) (k : g.le g') : ArgsOk w g' vs xs := by
  induction h with
  | nil => exact .nil
  | cons h _ ih => exact .cons (h.mono k) ih
theorem RowOk.mono {w : World} {g g' : Frz} {v : Value} {r : Row} (h : RowOk w g v r) (k : g.le g') : RowOk w g' v r :=
  let ⟨x, d, al, t1, t2, tl, mv, avs, e, h⟩ := h; ⟨x, d, al, t1, t2, tl, mv, avs, e, h.1.mono k, h.2.1.mono k, h.2.2.1.mono k, h.2.2.2.1.mono k, h.2.2.2.2⟩
theorem HOk.setReg {w : World} {g : Frz} {a : HA} {sz : List Int} {wc : Cell} {regs words : List (Int × Value)} {seen : List Value} {out : List (Int × Value)} {N : Nat} {p : PS} (x : HOk w g a sz wc regs words seen out N p)
    {c : Int} {v : Value} {r : Reg} (hv : RegOk w g v r) : HOk w g a sz wc (stored regs c v) words seen out (N + 1) (p.set c r) where
  well := x.well
  rk k := by
    rw [valueAt_stored]
    show _ = ((if k = c then some r else p.R k) : Option Reg).isSome
    split
    · rfl
    · exact x.rk k
  rv k v' r' h1 h2 := by
    rw [valueAt_stored] at h1
    change ((if k = c then some r else p.R k) : Option Reg) = some r' at h2
    split at h1
    · rename_i e
      rw [if_pos e] at h2
      cases h1; cases h2; exact hv
    · rename_i e
      rw [if_neg e] at h2
      exact x.rv k v' r' h1 h2
  wd := x.wd
  sn := x.sn
  ou := x.ou
  szs := x.szs
  szl := x.szl
  b1 := by have := x.b1; have := len_stored regs c v; lia
  b2 := by have := x.b2; lia
  b3 := by have := x.b3; lia
  b4 := by have := x.b4; lia
theorem HOk.subW {w : World} {g : Frz} {a : HA} {sz : List Int} {wc : Cell} {regs words words' : List (Int × Value)} {seen : List Value} {out : List (Int × Value)} {N : Nat} {p : PS} (x : HOk w g a sz wc regs words seen out N p) (k : words'.Sublist words) : HOk w g a sz wc regs words' seen out N p :=
  { x with wd := fun kv h => x.wd kv (k.subset h), b2 := Nat.le_trans k.length_le x.b2 }
theorem HOk.setW {w : World} {g : Frz} {a : HA} {sz : List Int} {wc : Cell} {regs words : List (Int × Value)} {seen : List Value} {out : List (Int × Value)} {N : Nat} {p : PS} (x : HOk w g a sz wc regs words seen out N p) {k i : Int} {t : Tok} : HOk w g a sz wc regs (stored words k (.int i t)) seen out (N + 1) { p with wv := i :: p.wv } :=
  { x.up (Nat.le_succ N) with
    wd := fun kv h => (mem_stored h).elim (fun e => ⟨i, t, by rw [e], .head _⟩) fun h => let ⟨j, u, e, hj⟩ := x.wd kv h; ⟨j, u, e, .tail _ hj⟩
    b2 := by have := x.b2; have := len_stored words k (.int i t); lia }
def SpotsOk (w : World) (g : Frz) (asp : Addr) (p : PS) (k : Nat) : Prop := ∃ vs es, At w g asp (.lx vs) ∧ IntsAre vs es ∧ vs.length = k ∧ k < 100 ∧ ∀ e ∈ es, ∃ r, p.R e = some r ∧ 4096 ≤ r.num
def signed (n : Int) : Int := if n ≥ 2147483648 then n - 4294967296 else n
inductive Stp (nsz : Nat) (p : PS) : Row → PS → Prop
  | slot {at_ : Int} {c : Int} {p1 : PS} : 0 ≤ at_ → at_ < nsz → Goal p c p1 → Stp nsz p ⟨"slot", c, [], at_⟩ (p1.set c ⟨4096 + 1024 * at_, .slot at_, 0⟩)
  | name {nm : Str} {b more : Int} {c : Int} {p1 : PS} : (nm = "p" ∧ b = 65536 ∨ nm = "q" ∧ b = 69632) → more ∈ ([0, 4, 8] : List Int) → Goal p c p1 → Stp nsz p ⟨"name", c, [], 0⟩ (p1.set c ⟨b + more, .nm nm, more⟩)
  | copy {e c : Int} {r : Reg} {p1 : PS} : p.R e = some r → 4096 ≤ r.num → Goal p c p1 → Stp nsz p ⟨"copy", c, [("r", e)], 0⟩ (p1.set c r)
  | add {e c more : Int} {r : Reg} {p1 : PS} : p.R e = some r → 4096 ≤ r.num → more ∈ ([4, 8, 1, 2, 4294967292] : List Int) → Goal p c p1 →
      Stp nsz p ⟨"add", c, [("r", e), ("k", more)], 0⟩ (p1.set c ⟨(r.num + more) % 4294967296, r.gr, r.off + signed more⟩)
  | storeK {e oct : Int} {r : Reg} {wv : List Int} : p.R e = some r → 4096 ≤ r.num → oct ∈ ([4, 4, 2, 1] : List Int) → (∀ x ∈ wv, x = 9 ∨ x ∈ p.wv) →
      Stp nsz p ⟨"store", -1, [("r", e), ("k", 9)], 0⟩ { p.see ⟨r.num, r.gr, r.off, oct⟩ with wv := wv }
  | storeR {e f oct : Int} {r rf : Reg} {wv : List Int} : p.R e = some r → 4096 ≤ r.num → p.R f = some rf → oct ∈ ([4, 4, 2, 1] : List Int) → (∀ x ∈ wv, x = rf.num ∨ x ∈ p.wv) →
      Stp nsz p ⟨"store", -1, [("r", e), ("r", f)], 0⟩ { (p.hand [f]).see ⟨r.num, r.gr, r.off, oct⟩ with wv := wv }
  | load {e c oct n : Int} {r : Reg} {p1 : PS} : p.R e = some r → 4096 ≤ r.num → oct ∈ ([4, 4, 2, 1] : List Int) → (n = 3 ∨ n ∈ p.wv) →
      Goal { p.see ⟨r.num, r.gr, r.off, oct⟩ with many := p.many + 1 } c p1 → Stp nsz p ⟨"load", c, [("r", e)], 0⟩ (p1.set c ⟨n, .v (p.many + 1), 0⟩)
  | move {e f oct : Int} {r rf : Reg} : p.R e = some r → 4096 ≤ r.num → p.R f = some rf → 4096 ≤ rf.num → oct ∈ ([4, 8] : List Int) →
      Stp nsz p ⟨"move", -1, [("r", e), ("r", f)], 0⟩ ((p.see ⟨r.num, r.gr, r.off, oct⟩).see ⟨rf.num, rf.gr, rf.off, oct⟩)
  | other {op : Str} {cs : List Int} {c : Int} {p' : PS} : op = "call" ∨ op = "sub" ∨ op = "eq" → cs.length ≤ 2 → (∀ e ∈ cs, (p.R e).isSome = true) →
      (c = -1 ∧ p' = p.hand cs ∨ ∃ p1, Goal (p.hand cs) c p1 ∧ (0 ≤ c ∧ p' = { p1 with many := p1.many + 1 }.set c ⟨7, .v (p1.many + 1), 0⟩ ∨ c < 0 ∧ p' = p1)) →
      Stp nsz p ⟨op, c, cs.map fun e => ("r", e), 0⟩ p'
section
variable {w : World} {A : Around} {E : Value → Shared → Prop} {s : Shared} {hp : Heap} {tk : Nat} {K : Ent} {L : Addr} {m : Loc} {g : Frz} {ΓD Λ : List (Addr × Cell)} {n : Nat} {Q : Value → Shared → Prop}
theorem signedL {num : Int} {tz : Tok} (S : St w K L m g (ΓD ++ Λ) hp) (bs : Bs w K.B) (room : Room A (n + 1)) (q : ∀ h' r t tk, St w K L m g (ΓD ++ Λ) h' → r = signed num → Q (.int r t) (sh s h' tk)) :
    wpAny (model PG w) A (call (.ref 176) [.int num tz]) Q E (sh s hp tk) := signed_ (Γ := ΓD ++ Λ) S bs room q
theorem homesL (S : St w K L m g (ΓD ++ Λ) hp) (bs : Bs w K.B) (room : Room A (n + 1)) (q : ∀ g' d h' t1 t2 tk, g.le g' → At w g' d (.dS [("p", .int 65536 t1), ("q", .int 69632 t2)]) → St w K L m g' (ΓD ++ Λ) h' → Q (.ref d) (sh s h' tk)) :
    wpAny (model PG w) A (call (.ref 155) []) Q E (sh s hp tk) := homes_ (Γ := ΓD ++ Λ) S bs room q
theorem mkStepL {op dst args more : Value} (S : St w K L m g (ΓD ++ Λ) hp) (bs : Bs w K.B) (room : Room A (n + 2))
    (q : ∀ g' x d tl h' tk, g.le g' → At w g' x (.ins 31 d) → At w g' d (.dS [("op", op), ("dst", dst), ("args", args), ("more", more), ("is_volatile", .bool false), ("line", .int 0 tl)]) → St w K L m g' (ΓD ++ Λ) h' → Q (.ref x) (sh s h' tk)) :
    wpAny (model PG w) A (call (.ref 31) [op, dst, args, more]) Q E (sh s hp tk) := mkStep_ (Γ := ΓD ++ Λ) S bs room q
end
theorem address_ {w : World} {A : Around} {E : Value → Shared → Prop} {s : Shared} {hp : Heap} {tk : Nat} {K : Ent} {L : Addr} {m : Loc} {g : Frz} {Γ : List (Addr × Cell)} {n : Nat} {Q : Value → Shared → Prop} {a : HA} {sz : List Int} {wc : Cell} {regs words : List (Int × Value)} {seen : List Value} {out : List (Int × Value)} {N : Nat} {p : PS} {tm tn : Tok} {asp : Addr}
    (S : St w K L m g (hs a wc regs p.many tm p.next tn words seen out asp ++ Γ) hp) (bs : Bs w K.B) (H : HOk w g a sz wc regs words seen out N p) (hN : N < 60) {ks : Nat} (hsp : SpotsOk w g asp p ks) (room : Room A (n + 5)) {way : Int} {tw : Tok} (hw0 : 0 ≤ way) (hw1 : 2 ≤ way → 0 < ks)
    (q : ∀ g' h' wc' regs' tm' tn' words' seen' out' v row p' tk, g.le g' → Stp sz.length p row p' → RowOk w g' v row → St w K L m g' (hs a wc' regs' p'.many tm' p'.next tn' words' seen' out' asp ++ Γ) h' → HOk w g' a sz wc' regs' words' seen' out' (N + 2) p' → Q v (sh s h' tk)) :
    wpAny (model PG w) A (call (.ref 218) [.ref a.aw, .ref a.ah, .int way tw]) Q E (sh s hp tk) := by
  refine call_fn (hs a wc regs p.many tm p.next tn words seen out asp) [("way", .int way tw), ("house", .ref a.ah), ("well", .ref a.aw)] S bs room (by rfl) (by kernel_rfl) (by rfl) (by kernel_rfl) ?_ (by decide) rfl rfl rfl
  intro L' h₁ tk' A' K' Pp hK room' bk S'
  have bs : Bs w K'.B := by rw [hK]; exact bs
  have hKD : K'.D = (hs a wc regs p.many tm p.next tn words seen out asp).map (·.1) := by rw [hK]
  have hb1 := H.b1; have hb2 := H.b2; have hb3 := H.b3; have hb4 := H.b4; have hszl := H.szl
  walk_at "ex"
  refine cutG (T := fun R => ∀ g1, ∀ wc1, ∀ af, ∀ av, ∀ op, ∀ al, ∀ mv, ∀ avs, ∀ args, ∀ more, ∀ rg, ∀ t1, g.le g1 → Well w g1 wc1 → At w g1 af (.tp [.str op t1, .ref al, mv]) → At w g1 al (.lx avs) → ArgsOk w g1 avs args → ((op = "slot" → ∃ t, mv = .int more t)) → RegOk w g1 (.ref av) rg → (∀ c p1, Goal p c p1 → Stp sz.length p ⟨op, c, args, more⟩ (p1.set c rg)) → R (([("house", .ref a.ah), ("well", .ref a.aw), ("found", .ref af), ("value", .ref av)] : Loc)) g1 (hs a wc1 regs p.many tm p.next tn words seen out asp)) S' ?cutA ?cutB
  case cutA =>
    intro P9 hR9
    with_reducible refine' wpAny_If ?_
    ((with_reducible refine' evb_ ?kBFa ?kBFb ?_ ?kBFd ?kBFe); (case kBFa => assumption); (case kBFb => walk_at "eec"); (case kBFd | kBFe => exact rfl))
    refine ite_b (fun hb => ?_) (fun hb => ?_)
    ·
      replace hb := eq_of_beq hb
      walk_at "ex"
      ((with_reducible refine' wpAny_Assign_Name ?_ ?kBGb); (case kBGb => first | exact rfl | kernel_rfl))
      ((with_reducible refine' call_def_node ?kCa ?kCb (G_law_draw _) (P_law_draw _) ?_ ?kCf ?kCg ?kCh ?kCi ?kCj ?kCk); (case kCa | kCb => assumption); (case kCf | kCg | kCj | kCk => exact rfl); (case kCh | kCi => kernel_rfl))
      walk_at "ac"
      walk_at "nm"
      walk_at "ac"
      ((with_reducible refine' call_bi_node ?kDa ?kDb (Nlen _) Blen ?kDe ?_ ?kDg ?kDh ?kDi ?kDj ?kDk ?kDl ?kDm); (case kDa | kDb => assumption); (case kDe => decide); (case kDg | kDh | kDi | kDl | kDm => exact rfl); (case kDj | kDk => kernel_rfl))
      walk_at "evl"
      obtain ⟨szv, hszv, hszi⟩ := H.szs
      have hszn := (intsAre_nd hszi).1
      (first | ((with_reducible refine' len_ls ?kEa ?kEb ?_); (case kEa => walk_at "at"); (case kEb => first | lia | decide)) | ((with_reducible refine' len_dI ?kEa ?kEb ?kEc ?_); (case kEa => walk_at "at"); (case kEb => walk_at "ns"); (case kEc => lia); intro _))
      with_reducible refine' args_nil ?_
      (refine ⟨St.base (by assumption), ?_⟩)
      obtain ⟨szv, hszv, hszi⟩ := H.szs
      refine drawH S' bs (room'.l (k := 0 + 1)) H.well (by lia) ?_
      intro h' wc' at_ tr tk' S' hw' hr0 hr1
      replace H := H.withWell hw'
      walk_at "st"; intro h' t' S'
      walk_at "nx"
      walk_at "ex"
      (first | ((with_reducible refine' Assign_Tuple ?_ ?kHb ?kHc); (case kHb | kHc => exact rfl)) | ((with_reducible refine' Assign_Tuple_swapped ?_ ?kHb ?kHc); (case kHb | kHc => exact rfl)))
      with_reducible refine' ev_tuple ?_
      walk_at "ac"
      with_reducible refine' ev_tuple ?_
      walk_at "ac"
      with_reducible refine' k_str ?_
      walk_at "ac"
      with_reducible refine' ev_list ?_
      with_reducible refine' args_nil ?_
      ((with_reducible refine' new_ls ?kBHa ?_ ?kBHc); (case kBHa => assumption); (case kBHc => walk_at "sz")); intro al h' S'
      walk_at "evl"
      ((with_reducible refine' new_tp ?kBIa ?_ ?kBIc); (case kBIa => assumption); (case kBIc => walk_at "sz")); intro af h' S'
      walk_at "ac"
      with_reducible refine' ev_tuple ?_
      walk_at "ac"
      with_reducible refine' wpAny_BinOp ?_
      with_reducible refine' k_int ?_
      with_reducible refine' wpAny_BinOp ?_
      with_reducible refine' k_int ?_
      walk_at "nm"
      ((with_reducible refine' i_mul ?_ ?kSb); (case kSb => first | exact IntMulOk.of_right (by decide +kernel) | exact IntMulOk.of_left (by decide +kernel)))
      with_reducible refine' i_add ?_
      walk_at "ac"
      with_reducible refine' ev_tuple ?_
      walk_at "evl"
      ((with_reducible refine' new_tp ?kBJa ?_ ?kBJc); (case kBJa => assumption); (case kBJc => walk_at "sz")); intro ag h' S'
      walk_at "evl"
      ((with_reducible refine' new_tp ?kBKa ?_ ?kBKc); (case kBKa => assumption); (case kBKc => walk_at "sz")); intro av h' S'
      with_reducible refine' args_nil ?_
      ((with_reducible refine' new_tp ?kBLa ?_ ?kBLc); (case kBLa => assumption); (case kBLc => walk_at "sz")); intro a' h' S'
      walk_at "unp"; intro h' S'
      (refine assignInOrder_cons ?_)
      (first | ((with_reducible refine' assign_Name ?_)) | ((with_reducible refine' bindName_ ?_)))
      walk_at "st"; intro h' t' S'
      (refine assignInOrder_cons ?_)
      (first | ((with_reducible refine' assign_Name ?_)) | ((with_reducible refine' bindName_ ?_)))
      walk_at "st"; intro h' t' S'
      (refine assignInOrder_nil ?_)
      walk_at "nx"
      walk_at "exn"
      obtain ⟨g3, hl3, hfz, S3⟩ := S'.freezeAll hKD
      exact hR9 _ _ af av _ al _ _ [] _ ⟨4096 + 1024 * at_, .slot at_, 0⟩ _ hl3 ((H.mono hl3).well) (hfz (af, _) (by walk_at "memc")) (hfz (al, _) (by walk_at "memc")) .nil (fun _ => ⟨_, rfl⟩) ⟨av, _, _, .ref ag, rfl, hfz (av, _) (by walk_at "memc"), ag, _, _, rfl, (hfz (ag, _) (by walk_at "memc") : At w g3 ag (.tp [.str "slot" _, .int at_ _]))⟩ (fun c p1 hgoal => .slot hr0 (by lia) hgoal) _ _ (St.weak S3 (by walk_at "lsub"))
    ·
      replace hb := ne_of_beq_false hb
      walk_at "ex"
      with_reducible refine' wpAny_If ?_
      ((with_reducible refine' evb_ ?kBOa ?kBOb ?_ ?kBOd ?kBOe); (case kBOa => assumption); (case kBOb => walk_at "eec"); (case kBOd | kBOe => exact rfl))
      refine ite_b (fun hb => ?_) (fun hb => ?_)
      ·
        replace hb := eq_of_beq hb
        walk_at "ex"
        (first | ((with_reducible refine' Assign_Tuple ?_ ?kBAb ?kBAc); (case kBAb | kBAc => exact rfl)) | ((with_reducible refine' Assign_Tuple_swapped ?_ ?kBAb ?kBAc); (case kBAb | kBAc => exact rfl)))
        with_reducible refine' ev_tuple ?_
        walk_at "ac"
        ((with_reducible refine' call_def_node ?kBPa ?kBPb (G_law_pick _) (P_law_pick _) ?_ ?kBPf ?kBPg ?kBPh ?kBPi ?kBPj ?kBPk); (case kBPa | kBPb => assumption); (case kBPf | kBPg | kBPj | kBPk => exact rfl); (case kBPh | kBPi => kernel_rfl))
        walk_at "ac"
        walk_at "nm"
        walk_at "ac"
        with_reducible refine' ev_list ?_
        walk_at "evl"
        ((with_reducible refine' new_ls ?kBQa ?_ ?kBQc); (case kBQa => assumption); (case kBQc => walk_at "sz")); intro a' h' S'
        with_reducible refine' args_nil ?_
        (refine ⟨St.base (by assumption), ?_⟩)
        have hl1 : (0 : Nat) < 2 := by lia
        refine pickD S' bs (room'.l (k := 0 + 2)) H.well (by simp) (by simp) ?_
        intro h' wc' nv tk' S' hw' hnv
        replace H := H.withWell hw'
        obtain ⟨nm, nt, rfl, hnm⟩ : ∃ nm t, nv = Value.str nm t ∧ (nm = "p" ∨ nm = "q") := by
          simp only [List.mem_cons, List.not_mem_nil, or_false] at hnv
          rcases hnv with e | e
          · exact ⟨_, _, e, .inl rfl⟩
          · exact ⟨_, _, e, .inr rfl⟩
        walk_at "ac"
        ((with_reducible refine' call_def_node ?kBRa ?kBRb (G_law_pick _) (P_law_pick _) ?_ ?kBRf ?kBRg ?kBRh ?kBRi ?kBRj ?kBRk); (case kBRa | kBRb => assumption); (case kBRf | kBRg | kBRj | kBRk => exact rfl); (case kBRh | kBRi => kernel_rfl))
        walk_at "ac"
        walk_at "nm"
        walk_at "ac"
        with_reducible refine' ev_list ?_
        walk_at "evl"
        ((with_reducible refine' new_ls ?kBSa ?_ ?kBSc); (case kBSa => assumption); (case kBSc => walk_at "sz")); intro a' h' S'
        with_reducible refine' args_nil ?_
        (refine ⟨St.base (by assumption), ?_⟩)
        refine pickD S' bs (room'.l (k := 0 + 2)) H.well (by simp) (by simp) ?_
        intro h' wc' mv tk' S' hw' hmv
        replace H := H.withWell hw'
        obtain ⟨more, mt, rfl, hmore⟩ := intsAre_mem (ns := [0, 4, 8]) (.cons _ _ (.cons _ _ (.cons _ _ .nil))) mv hmv
        with_reducible refine' args_nil ?_
        ((with_reducible refine' new_tp ?kBTa ?_ ?kBTc); (case kBTa => assumption); (case kBTc => walk_at "sz")); intro a' h' S'
        walk_at "unp"; intro h' S'
        (refine assignInOrder_cons ?_)
        (first | ((with_reducible refine' assign_Name ?_)) | ((with_reducible refine' bindName_ ?_)))
        walk_at "st"; intro h' t' S'
        (refine assignInOrder_cons ?_)
        (first | ((with_reducible refine' assign_Name ?_)) | ((with_reducible refine' bindName_ ?_)))
        walk_at "st"; intro h' t' S'
        (refine assignInOrder_nil ?_)
        walk_at "nx"
        walk_at "ex"
        (first | ((with_reducible refine' Assign_Tuple ?_ ?kBMb ?kBMc); (case kBMb | kBMc => exact rfl)) | ((with_reducible refine' Assign_Tuple_swapped ?_ ?kBMb ?kBMc); (case kBMb | kBMc => exact rfl)))
        with_reducible refine' ev_tuple ?_
        walk_at "ac"
        with_reducible refine' ev_tuple ?_
        walk_at "ac"
        with_reducible refine' k_str ?_
        walk_at "ac"
        with_reducible refine' ev_list ?_
        with_reducible refine' args_nil ?_
        ((with_reducible refine' new_ls ?kBWa ?_ ?kBWc); (case kBWa => assumption); (case kBWc => walk_at "sz")); intro al h' S'
        walk_at "ac"
        with_reducible refine' ev_tuple ?_
        walk_at "evl"
        ((with_reducible refine' new_tp ?kBXa ?_ ?kBXc); (case kBXa => assumption); (case kBXc => walk_at "sz")); intro am h' S'
        with_reducible refine' args_nil ?_
        ((with_reducible refine' new_tp ?kBYa ?_ ?kBYc); (case kBYa => assumption); (case kBYc => walk_at "sz")); intro af h' S'
        walk_at "ac"
        with_reducible refine' ev_tuple ?_
        walk_at "ac"
        with_reducible refine' wpAny_BinOp ?_
        with_reducible refine' Subscript_ ?_
        ((with_reducible refine' call_def_node0 ?kBXa ?kBXb (G_law_homes _) (P_law_homes _) ?_ ?kBXf ?kBXg ?kBXh ?kBXi); (case kBXa | kBXb => assumption); (case kBXf | kBXg => exact rfl); (case kBXh | kBXi => kernel_rfl))
        refine homesL S' bs (room'.l (k := 0 + 1)) ?_
        intro g1 hd' h' th1 th2 tk' hl1 hhd S'
        replace H := H.mono hl1
        walk_at "nm"
        obtain ⟨b, tb, hlk, hb'⟩ : ∃ b t, Lk [("p", .int 65536 th1), ("q", .int 69632 th2)] nm (.int b t) ∧ (nm = "p" ∧ b = 65536 ∨ nm = "q" ∧ b = 69632) := by
          rcases hnm with rfl | rfl
          · exact ⟨_, _, Lk.of rfl, .inl ⟨rfl, rfl⟩⟩
          · exact ⟨_, _, Lk.of rfl, .inr ⟨rfl, rfl⟩⟩
        refine sub_dS (by walk_at "at") hlk ?_ (by with_unfolding_all rfl)
        walk_at "nm"
        with_reducible refine' i_add ?_
        walk_at "ac"
        with_reducible refine' ev_tuple ?_
        walk_at "evl"
        ((with_reducible refine' new_tp ?kBZa ?_ ?kBZc); (case kBZa => assumption); (case kBZc => walk_at "sz")); intro ag h' S'
        walk_at "evl"
        ((with_reducible refine' new_tp ?kCAa ?_ ?kCAc); (case kCAa => assumption); (case kCAc => walk_at "sz")); intro av h' S'
        with_reducible refine' args_nil ?_
        ((with_reducible refine' new_tp ?kCBa ?_ ?kCBc); (case kCBa => assumption); (case kCBc => walk_at "sz")); intro a' h' S'
        walk_at "unp"; intro h' S'
        (refine assignInOrder_cons ?_)
        (first | ((with_reducible refine' assign_Name ?_)) | ((with_reducible refine' bindName_ ?_)))
        walk_at "st"; intro h' t' S'
        (refine assignInOrder_cons ?_)
        (first | ((with_reducible refine' assign_Name ?_)) | ((with_reducible refine' bindName_ ?_)))
        walk_at "st"; intro h' t' S'
        (refine assignInOrder_nil ?_)
        walk_at "nx"
        walk_at "exn"
        walk_at "nx"
        walk_at "exn"
        obtain ⟨g3, hl3, hfz, S3⟩ := S'.freezeAll hKD
        exact hR9 _ _ af av _ al _ _ [] _ ⟨b + more, .nm nm, more⟩ _ (hl1.trans hl3) ((H.mono hl3).well) (hfz (af, _) (by walk_at "memc")) (hfz (al, _) (by walk_at "memc")) .nil (fun h => absurd h (show ¬ Str.ofString "name" = Str.ofString "slot" by decide)) ⟨av, _, _, .ref ag, rfl, hfz (av, _) (by walk_at "memc"), ag, _, _, rfl, (hfz (ag, _) (by walk_at "memc") : At w g3 ag (.tp [.str "name" _, .str nm _]))⟩ (fun c p1 hgoal => .name hb' hmore hgoal) _ _ (St.weak S3 (by walk_at "lsub"))
      ·
        replace hb := ne_of_beq_false hb
        walk_at "ex"
        ((with_reducible refine' wpAny_Assign_Name ?_ ?kCEb); (case kCEb => first | exact rfl | kernel_rfl))
        ((with_reducible refine' call_def_node ?kCFa ?kCFb (G_law_pick _) (P_law_pick _) ?_ ?kCFf ?kCFg ?kCFh ?kCFi ?kCFj ?kCFk); (case kCFa | kCFb => assumption); (case kCFf | kCFg | kCFj | kCFk => exact rfl); (case kCFh | kCFi => kernel_rfl))
        walk_at "evl"
        (refine ⟨St.base (by assumption), ?_⟩)
        with_reducible refine absG fun G9 k9 => ?_
        obtain ⟨spv, es, hspat, hspi, rfl, hsp1, hspr⟩ := hsp
        with_reducible refine k9 ?_
        refine pickH S' bs (room'.l (k := 0 + 2)) H.well (.inr (.inr hspat)) (by lia) (by lia) ?_
        intro h' wc' ev tk' S' hw' hev
        replace H := H.withWell hw'
        with_reducible refine absG fun G9 k9 => ?_
        obtain ⟨e, et, rfl, hes⟩ := intsAre_mem hspi ev hev
        obtain ⟨r, hr, hrn⟩ := hspr e hes
        obtain ⟨rv, hrv, ar, t1, t2, gv, rfl, hat, gc, tg1, tg2, rfl, hgr⟩ := H.reg hr
        with_reducible refine k9 ?_
        walk_at "st"; intro h' t' S'
        walk_at "nx"
        walk_at "ex"
        (first | ((with_reducible refine' Assign_Tuple ?_ ?kCFb ?kCFc); (case kCFb | kCFc => exact rfl)) | ((with_reducible refine' Assign_Tuple_swapped ?_ ?kCFb ?kCFc); (case kCFb | kCFc => exact rfl)))
        with_reducible refine' Subscript_ ?_
        walk_at "ev"
        walk_at "nm"
        refine sub_dI (by walk_at "at") hrv ?_
        walk_at "unp"; intro h' S'
        (refine assignInOrder_cons ?_)
        (first | ((with_reducible refine' assign_Name ?_)) | ((with_reducible refine' bindName_ ?_)))
        walk_at "st"; intro h' t' S'
        (refine assignInOrder_cons ?_)
        (first | ((with_reducible refine' assign_Name ?_)) | ((with_reducible refine' bindName_ ?_)))
        walk_at "st"; intro h' t' S'
        (refine assignInOrder_cons ?_)
        (first | ((with_reducible refine' assign_Name ?_)) | ((with_reducible refine' bindName_ ?_)))
        walk_at "st"; intro h' t' S'
        (refine assignInOrder_nil ?_)
        walk_at "nx"
        walk_at "ex"
        with_reducible refine' wpAny_If ?_
        ((with_reducible refine' evb_ ?kCJa ?kCJb ?_ ?kCJd ?kCJe); (case kCJa => assumption); (case kCJb => walk_at "eec"); (case kCJd | kCJe => exact rfl))
        refine ite_b (fun hb => ?_) (fun hb => ?_)
        ·
          replace hb := eq_of_beq hb
          walk_at "ex"
          (first | ((with_reducible refine' Assign_Tuple ?_ ?kCMb ?kCMc); (case kCMb | kCMc => exact rfl)) | ((with_reducible refine' Assign_Tuple_swapped ?_ ?kCMb ?kCMc); (case kCMb | kCMc => exact rfl)))
          with_reducible refine' ev_tuple ?_
          walk_at "ac"
          with_reducible refine' ev_tuple ?_
          walk_at "ac"
          with_reducible refine' k_str ?_
          walk_at "ac"
          with_reducible refine' ev_list ?_
          walk_at "ac"
          with_reducible refine' ev_tuple ?_
          walk_at "evl"
          ((with_reducible refine' new_tp ?kCKa ?_ ?kCKc); (case kCKa => assumption); (case kCKc => walk_at "sz")); intro ax h' S'
          with_reducible refine' args_nil ?_
          ((with_reducible refine' new_ls ?kCLa ?_ ?kCLc); (case kCLa => assumption); (case kCLc => walk_at "sz")); intro al h' S'
          walk_at "evl"
          ((with_reducible refine' new_tp ?kCMa ?_ ?kCMc); (case kCMa => assumption); (case kCMc => walk_at "sz")); intro af h' S'
          walk_at "ac"
          with_reducible refine' ev_tuple ?_
          walk_at "evl"
          ((with_reducible refine' new_tp ?kCNa ?_ ?kCNc); (case kCNa => assumption); (case kCNc => walk_at "sz")); intro av h' S'
          with_reducible refine' args_nil ?_
          ((with_reducible refine' new_tp ?kCOa ?_ ?kCOc); (case kCOa => assumption); (case kCOc => walk_at "sz")); intro a' h' S'
          walk_at "unp"; intro h' S'
          (refine assignInOrder_cons ?_)
          (first | ((with_reducible refine' assign_Name ?_)) | ((with_reducible refine' bindName_ ?_)))
          walk_at "st"; intro h' t' S'
          (refine assignInOrder_cons ?_)
          (first | ((with_reducible refine' assign_Name ?_)) | ((with_reducible refine' bindName_ ?_)))
          walk_at "st"; intro h' t' S'
          (refine assignInOrder_nil ?_)
          walk_at "nx"
          walk_at "exn"
          walk_at "nx"
          walk_at "exn"
          walk_at "nx"
          walk_at "exn"
          obtain ⟨g3, hl3, hfz, S3⟩ := S'.freezeAll hKD
          exact hR9 _ _ af av _ al _ _ [("r", e)] _ r _ hl3 ((H.mono hl3).well) (hfz (af, _) (by walk_at "memc")) (hfz (al, _) (by walk_at "memc")) (.cons ⟨ax, _, _, rfl, hfz (ax, _) (by walk_at "memc")⟩ .nil) (fun h => absurd h (show ¬ Str.ofString "copy" = Str.ofString "slot" by decide)) ⟨av, _, _, .ref gc, rfl, hfz (av, _) (by walk_at "memc"), gc, _, _, rfl, hgr.mono hl3⟩ (fun c p1 hgoal => .copy hr hrn hgoal) _ _ (St.weak S3 (by walk_at "lsub"))
        ·
          replace hb := ne_of_beq_false hb
          walk_at "ex"
          ((with_reducible refine' wpAny_Assign_Name ?_ ?kCRb); (case kCRb => first | exact rfl | kernel_rfl))
          ((with_reducible refine' call_def_node ?kCSa ?kCSb (G_law_pick _) (P_law_pick _) ?_ ?kCSf ?kCSg ?kCSh ?kCSi ?kCSj ?kCSk); (case kCSa | kCSb => assumption); (case kCSf | kCSg | kCSj | kCSk => exact rfl); (case kCSh | kCSi => kernel_rfl))
          walk_at "ac"
          walk_at "nm"
          walk_at "ac"
          with_reducible refine' ev_list ?_
          walk_at "evl"
          ((with_reducible refine' new_ls ?kCTa ?_ ?kCTc); (case kCTa => assumption); (case kCTc => walk_at "sz")); intro a' h' S'
          with_reducible refine' args_nil ?_
          (refine ⟨St.base (by assumption), ?_⟩)
          refine pickD S' bs (room'.l (k := 0 + 2)) H.well (by simp) (by simp) ?_
          intro h' wc' mv tk' S' hw' hmv
          replace H := H.withWell hw'
          obtain ⟨more, mt, rfl, hmore⟩ := intsAre_mem (ns := [4, 8, 1, 2, 4294967292]) (.cons _ _ (.cons _ _ (.cons _ _ (.cons _ _ (.cons _ _ .nil))))) mv hmv
          walk_at "st"; intro h' t' S'
          walk_at "nx"
          walk_at "ex"
          ((with_reducible refine' wpAny_Assign_Name ?_ ?kCUb); (case kCUb => first | exact rfl | kernel_rfl))
          with_reducible refine' ev_tuple ?_
          walk_at "ac"
          with_reducible refine' k_str ?_
          walk_at "ac"
          with_reducible refine' ev_list ?_
          walk_at "ac"
          with_reducible refine' ev_tuple ?_
          walk_at "evl"
          ((with_reducible refine' new_tp ?kCVa ?_ ?kCVc); (case kCVa => assumption); (case kCVc => walk_at "sz")); intro ax h' S'
          walk_at "ac"
          with_reducible refine' ev_tuple ?_
          walk_at "evl"
          ((with_reducible refine' new_tp ?kCWa ?_ ?kCWc); (case kCWa => assumption); (case kCWc => walk_at "sz")); intro ay h' S'
          with_reducible refine' args_nil ?_
          ((with_reducible refine' new_ls ?kCXa ?_ ?kCXc); (case kCXa => assumption); (case kCXc => walk_at "sz")); intro al h' S'
          walk_at "evl"
          ((with_reducible refine' new_tp ?kCYa ?_ ?kCYc); (case kCYa => assumption); (case kCYc => walk_at "sz")); intro af h' S'
          walk_at "st"; intro h' t' S'
          walk_at "nx"
          walk_at "ex"
          ((with_reducible refine' wpAny_Assign_Name ?_ ?kCZb); (case kCZb => first | exact rfl | kernel_rfl))
          with_reducible refine' ev_tuple ?_
          walk_at "ac"
          with_reducible refine' wpAny_BinOp ?_
          walk_at "ev"
          ((with_reducible refine' nm_g ?kDJa ?kDJb (G_law_wide _) ?_ ?kDJe ?kDJf ?kDJg ?kDJh); (case kDJa | kDJb => assumption); (case kDJe | kDJf => exact rfl); (case kDJg | kDJh => kernel_rfl))
          ((with_reducible refine' i_mod ?kDKa ?_); (case kDKa => lia))
          walk_at "ac"
          walk_at "nm"
          walk_at "ac"
          with_reducible refine' wpAny_BinOp ?_
          walk_at "nm"
          ((with_reducible refine' call_def_node ?kDMa ?kDMb (G_law_signed _) (P_law_signed _) ?_ ?kDMf ?kDMg ?kDMh ?kDMi ?kDMj ?kDMk); (case kDMa | kDMb => assumption); (case kDMf | kDMg | kDMj | kDMk => exact rfl); (case kDMh | kDMi => kernel_rfl))
          walk_at "evl"
          (refine ⟨St.base (by assumption), ?_⟩)
          refine signedL S' bs (room'.l (k := 0 + 1)) ?_
          intro h' sg tsg tk' S' hsg
          with_reducible refine' i_add ?_
          with_reducible refine' args_nil ?_
          ((with_reducible refine' new_tp ?kDAa ?_ ?kDAc); (case kDAa => assumption); (case kDAc => walk_at "sz")); intro av h' S'
          walk_at "st"; intro h' t' S'
          walk_at "nx"
          walk_at "exn"
          walk_at "nx"
          walk_at "exn"
          walk_at "nx"
          walk_at "exn"
          subst hsg
          obtain ⟨g3, hl3, hfz, S3⟩ := S'.freezeAll hKD
          exact hR9 _ _ af av _ al _ _ [("r", e), ("k", more)] _ ⟨(r.num + more) % 4294967296, r.gr, r.off + signed more⟩ _ hl3 ((H.mono hl3).well) (hfz (af, _) (by walk_at "memc")) (hfz (al, _) (by walk_at "memc")) (.cons ⟨ax, _, _, rfl, hfz (ax, _) (by walk_at "memc")⟩ (.cons ⟨ay, _, _, rfl, hfz (ay, _) (by walk_at "memc")⟩ .nil)) (fun h => absurd h (show ¬ Str.ofString "add" = Str.ofString "slot" by decide)) ⟨av, _, _, .ref gc, rfl, hfz (av, _) (by walk_at "memc"), gc, _, _, rfl, hgr.mono hl3⟩ (fun c p1 hgoal => .add hr hrn hmore hgoal) _ _ (St.weak S3 (by walk_at "lsub"))
  case cutB =>
    rintro g9 wc' af av op al mv avs args more rg t1 hle hwl haf hal hargs hmv hreg hstp h' t' S'
    replace H := (H.mono hle).withWell hwl
    walk_at "nx"
    walk_at "ex"
    ((with_reducible refine' wpAny_Assign_Name ?_ ?kDBb); (case kDBb => first | exact rfl | kernel_rfl))
    ((with_reducible refine' call_def_node ?kDQa ?kDQb (G_law_goal _) (P_law_goal _) ?_ ?kDQf ?kDQg ?kDQh ?kDQi ?kDQj ?kDQk); (case kDQa | kDQb => assumption); (case kDQf | kDQg | kDQj | kDQk => exact rfl); (case kDQh | kDQi => kernel_rfl))
    walk_at "evl"
    (refine ⟨St.base (by assumption), ?_⟩)
    refine goal_ S' bs H (by lia) (room'.l (k := 0 + 3)) ?_
    intro h' wc' tn' c tc p1 tk' hgoal S' H
    walk_at "st"; intro h' t' S'
    walk_at "nx"
    walk_at "ex"
    ((with_reducible refine' wpAny_Assign_Subscript ?_ ?kDSb); (case kDSb => exact rfl))
    walk_at "nm"
    walk_at "ev"
    walk_at "nm"
    have hbr := H.b1
    ((with_reducible refine' set_dI ?kDTa ?kDTb ?kDTc ?_); (case kDTa => assumption); (case kDTb => walk_at "upd"); (case kDTc => walk_at "sz")); intro h' S'
    walk_at "nx"
    walk_at "ex"
    with_reducible refine' wpAny_Return_some ?_
    ((with_reducible refine' call_def_node ?kDCa ?kDCb (GStep _) (PStep _) ?_ ?kDCf ?kDCg ?kDCh ?kDCi ?kDCj ?kDCk); (case kDCa | kDCb => assumption); (case kDCf | kDCg | kDCj | kDCk => exact rfl); (case kDCh | kDCi => kernel_rfl))
    walk_at "evl"
    (refine ⟨St.base (by assumption), ?_⟩)
    refine mkStepL S' bs (room'.l (k := 0 + 2)) ?_
    intro g2 x' d2 tl h' tk' hl2 hx1 hx2 S'
    walk_at "cret"
    with_reducible refine' rt_ret ?_
    obtain ⟨g3, hl3, hfz, S3⟩ := S'.freezeAll hKD
    exact bk (Λx := []) S3 (fun S => q g3 _ _ _ _ _ _ _ _ _ _ _ _ (hle.trans (hl2.trans hl3)) (hstp _ _ hgoal) ⟨x', d2, al, _, _, tl, _, _, rfl, hx1.mono hl3, hx2.mono hl3, hal.mono (hl2.trans hl3), hargs.mono (hl2.trans hl3), hmv⟩ S (((H.mono (hl2.trans hl3)).setReg (c := c) (hreg.mono (hl2.trans hl3))).up (M := N + 2) (by lia)))
theorem stored_ {w : World} {A : Around} {E : Value → Shared → Prop} {s : Shared} {hp : Heap} {tk : Nat} {K : Ent} {L : Addr} {m : Loc} {g : Frz} {Γ : List (Addr × Cell)} {n : Nat} {Q : Value → Shared → Prop} {a : HA} {sz : List Int} {wc : Cell} {regs words : List (Int × Value)} {seen : List Value} {out : List (Int × Value)} {N : Nat} {p : PS} {tm tn : Tok} {asp : Addr}
    (S : St w K L m g (hs a wc regs p.many tm p.next tn words seen out asp ++ Γ) hp) (bs : Bs w K.B) (H : HOk w g a sz wc regs words seen out N p) (hN : N < 50) {ks : Nat} (hsp : SpotsOk w g asp p ks) (hks : 0 < ks) (room : Room A (n + 5)) 
    (q : ∀ g' h' wc' regs' tm' tn' words' seen' out' v row p' tk, g.le g' → Stp sz.length p row p' → RowOk w g' v row → St w K L m g' (hs a wc' regs' p'.many tm' p'.next tn' words' seen' out' asp ++ Γ) h' → HOk w g' a sz wc' regs' words' seen' out' (N + 4) p' → Q v (sh s h' tk)) :
    wpAny (model PG w) A (call (.ref 225) [.ref a.aw, .ref a.ah]) Q E (sh s hp tk) := by
  refine call_fn (hs a wc regs p.many tm p.next tn words seen out asp) [("house", .ref a.ah), ("well", .ref a.aw)] S bs room (by rfl) (by kernel_rfl) (by rfl) (by kernel_rfl) ?_ (by decide) rfl rfl rfl
  intro L' h₁ tk' A' K' Pp hK room' bk S'
  have bs : Bs w K'.B := by rw [hK]; exact bs
  have hKD : K'.D = (hs a wc regs p.many tm p.next tn words seen out asp).map (·.1) := by rw [hK]
  have hb1 := H.b1; have hb2 := H.b2; have hb3 := H.b3; have hb4 := H.b4; have hszl := H.szl
  walk_at "ex"
  (first | ((with_reducible refine' Assign_Tuple ?_ ?kBb ?kBc); (case kBb | kBc => exact rfl)) | ((with_reducible refine' Assign_Tuple_swapped ?_ ?kBb ?kBc); (case kBb | kBc => exact rfl)))
  with_reducible refine' ev_tuple ?_
  walk_at "ac"
  ((with_reducible refine' call_def_node ?kDDa ?kDDb (G_law_pick _) (P_law_pick _) ?_ ?kDDf ?kDDg ?kDDh ?kDDi ?kDDj ?kDDk); (case kDDa | kDDb => assumption); (case kDDf | kDDg | kDDj | kDDk => exact rfl); (case kDDh | kDDi => kernel_rfl))
  walk_at "evl"
  (refine ⟨St.base (by assumption), ?_⟩)
  with_reducible refine absG fun G9 k9 => ?_
  obtain ⟨spv, es, hspat, hspi, rfl, hsp1, hspr⟩ := hsp
  with_reducible refine k9 ?_
  refine pickH S' bs (room'.l (k := 0 + 2)) H.well (.inr (.inr hspat)) (by lia) (by lia) ?_
  intro h' wc' ev tk' S' hw' hev
  replace H := H.withWell hw'
  with_reducible refine absG fun G9 k9 => ?_
  obtain ⟨e, et, rfl, hes⟩ := intsAre_mem hspi ev hev
  obtain ⟨r, hrr, hrnr⟩ := hspr e hes
  with_reducible refine k9 ?_
  walk_at "ac"
  ((with_reducible refine' call_def_node ?kDEa ?kDEb (G_law_pick _) (P_law_pick _) ?_ ?kDEf ?kDEg ?kDEh ?kDEi ?kDEj ?kDEk); (case kDEa | kDEb => assumption); (case kDEf | kDEg | kDEj | kDEk => exact rfl); (case kDEh | kDEi => kernel_rfl))
  walk_at "ac"
  walk_at "nm"
  walk_at "ac"
  with_reducible refine' ev_list ?_
  walk_at "evl"
  ((with_reducible refine' new_ls ?kDFa ?_ ?kDFc); (case kDFa => assumption); (case kDFc => walk_at "sz")); intro a' h' S'
  with_reducible refine' args_nil ?_
  (refine ⟨St.base (by assumption), ?_⟩)
  refine pickD S' bs (room'.l (k := 0 + 2)) H.well (by simp) (by simp) ?_
  intro h' wc' mv tk' S' hw' hmv
  replace H := H.withWell hw'
  obtain ⟨octets, mt, rfl, hoctets⟩ := intsAre_mem (ns := [4, 4, 2, 1]) (.cons _ _ (.cons _ _ (.cons _ _ (.cons _ _ .nil)))) mv hmv
  with_reducible refine' args_nil ?_
  ((with_reducible refine' new_tp ?kDGa ?_ ?kDGc); (case kDGa => assumption); (case kDGc => walk_at "sz")); intro a' h' S'
  walk_at "unp"; intro h' S'
  (refine assignInOrder_cons ?_)
  (first | ((with_reducible refine' assign_Name ?_)) | ((with_reducible refine' bindName_ ?_)))
  walk_at "st"; intro h' t' S'
  (refine assignInOrder_cons ?_)
  (first | ((with_reducible refine' assign_Name ?_)) | ((with_reducible refine' bindName_ ?_)))
  walk_at "st"; intro h' t' S'
  (refine assignInOrder_nil ?_)
  walk_at "nx"
  walk_at "ex"
  ((with_reducible refine' wpAny_Assign_Name ?_ ?kDJb); (case kDJb => first | exact rfl | kernel_rfl))
  with_reducible refine' ev_tuple ?_
  walk_at "evl"
  ((with_reducible refine' new_tp ?kDKa ?_ ?kDKc); (case kDKa => assumption); (case kDKc => walk_at "sz")); intro ao h' S'
  walk_at "st"; intro h' t' S'
  obtain ⟨g0, hl0, hfz0, S'⟩ := S'.freezeAll hKD
  have hat0 : At w g0 ao (.tp [.str "k" _, .int 9 _]) := hfz0 (ao, _) (by walk_at "memc")
  replace H := H.mono hl0
  walk_at "nx"
  walk_at "ex"
  refine cutG (T := fun R => ∀ g1, ∀ ao, ∀ kd, ∀ n9, ∀ t1, ∀ t2, ∀ p1, ∀ out1, ∀ wc1, g0.le g1 → HOk w g1 a sz wc1 regs words seen out1 (N + 1) p1 → At w g1 ao (.tp [.str kd t1, .int n9 t2]) → ((kd = "k" ∧ n9 = 9 ∧ p1 = p ∨ kd = "r" ∧ (∃ rf, p.R n9 = some rf) ∧ p1 = p.hand [n9])) → R (([("house", .ref a.ah), ("well", .ref a.aw), ("chest", .int e et), ("octets", .int octets mt), ("operand", .ref ao)] : Loc)) g1 (hs a wc1 regs p1.many tm p1.next tn words seen out1 asp)) S' ?cutA ?cutB
  case cutA =>
    intro P9 hR9
    with_reducible refine' wpAny_If ?_
    ((with_reducible refine' wpAny_isTrue_Compare1 ?_ ?kDLb); (case kDLb => with_unfolding_all rfl))
    ((with_reducible refine' call_def_node ?kNa ?kNb (G_law_draw _) (P_law_draw _) ?_ ?kNf ?kNg ?kNh ?kNi ?kNj ?kNk); (case kNa | kNb => assumption); (case kNf | kNg | kNj | kNk => exact rfl); (case kNh | kNi => kernel_rfl))
    walk_at "evl"
    (refine ⟨St.base (by assumption), ?_⟩)
    refine drawH S' bs (room'.l (k := 0 + 1)) H.well (by lia) ?_
    intro h' wc' dr tr tk' S' hw' hr0 hr1
    replace H := H.withWell hw'
    with_reducible refine' k_int ?_
    (first | ((with_reducible refine' PySem.P.gt_int ?_)))
    with_reducible refine' wpAny_truthy_bool ?_
    refine ite_b (fun hb => ?_) (fun hb => ?_)
    ·
      replace hb := of_decide_eq_true hb
      walk_at "ex"
      ((with_reducible refine' wpAny_Assign_Name ?_ ?kDNb); (case kDNb => first | exact rfl | kernel_rfl))
      with_reducible refine' ev_tuple ?_
      walk_at "ac"
      with_reducible refine' k_str ?_
      walk_at "ac"
      ((with_reducible refine' call_def_node ?kDOa ?kDOb (G_law_pick _) (P_law_pick _) ?_ ?kDOf ?kDOg ?kDOh ?kDOi ?kDOj ?kDOk); (case kDOa | kDOb => assumption); (case kDOf | kDOg | kDOj | kDOk => exact rfl); (case kDOh | kDOi => kernel_rfl))
      walk_at "ac"
      walk_at "nm"
      walk_at "ac"
      ((with_reducible refine' call_bi_node ?kTa ?kTb (Nsorted _) Bsorted ?kTe ?_ ?kTg ?kTh ?kTi ?kTj ?kTk ?kTl ?kTm); (case kTa | kTb => assumption); (case kTe => decide); (case kTg | kTh | kTi | kTl | kTm => exact rfl); (case kTj | kTk => kernel_rfl))
      walk_at "evl"
      ((with_reducible refine' sorted_dI ?kUa ?kUb ?kUc ?kUd ?kUe ?_); (case kUa => assumption); (case kUb => walk_at "at"); (case kUc => walk_at "ns"); (case kUd => exact Room.hh (by assumption)); (case kUe => lia)); intro a' h' t' vs' S' hl' hv' hs'
      with_reducible refine' args_nil ?_
      (refine ⟨St.base (by assumption), ?_⟩)
      have hrz : 0 < regs.length := by
        obtain ⟨v, hv, _⟩ := H.reg hrr
        cases regs with
        | nil => simp [valueAt] at hv
        | cons x r => simp
      have hl2 : 0 < vs'.length := by lia
      refine pickD S' bs (room'.l (k := 0 + 2)) H.well (by lia) (by lia) ?_
      intro h' wc' fv tk' S' hw' hfv
      with_reducible refine absG fun G9 k9 => ?_
      obtain ⟨f, tf, rfl, hkk⟩ := hv' fv hfv
      replace H := H.withWell hw'
      rw [H.rk] at hkk
      obtain ⟨rf, hrf⟩ := Option.isSome_iff_exists.mp hkk
      obtain ⟨rfv, hrfv, arf, t1f, t2f, gvf, rfl, hatf, gcf, tg1f, tg2f, rfl, hgrf⟩ := H.reg hrf
      with_reducible refine k9 ?_
      with_reducible refine' args_nil ?_
      ((with_reducible refine' new_tpF ?kYa ?_ ?kYc); (case kYa => assumption); (case kYc => walk_at "sz")); intro ao2 g02 h' hl02 hat02 S'
      replace H := H.mono hl02
      walk_at "st"; intro h' t' S'
      walk_at "nx"
      walk_at "ex"
      ((with_reducible refine' wpAny_Expr_any ?_ ?kZb ?kZc); (case kZb | kZc => exact rfl))
      ((with_reducible refine' call_def_node ?kBAa ?kBAb (G_law_handed _) (P_law_handed _) ?_ ?kBAf ?kBAg ?kBAh ?kBAi ?kBAj ?kBAk); (case kBAa | kBAb => assumption); (case kBAf | kBAg | kBAj | kBAk => exact rfl); (case kBAh | kBAi => kernel_rfl))
      walk_at "ac"
      walk_at "nm"
      walk_at "ac"
      with_reducible refine' ev_list ?_
      walk_at "evl"
      ((with_reducible refine' new_ls ?kDPa ?_ ?kDPc); (case kDPa => assumption); (case kDPc => walk_at "sz")); intro alf h' S'
      with_reducible refine' args_nil ?_
      (refine ⟨St.base (by assumption), ?_⟩)
      refine handed_ S' bs H (by lia) (room'.l (k := 0 + 1)) (cs := [f]) (.inr (.inl (List.Mem.head _))) (.cons _ _ .nil) (fun c hc => by cases List.mem_singleton.mp hc; exact hkk) (by simp) ?_
      intro h' out1 tk' S' H
      replace H := H.up (M := N + 1) (by simp)
      walk_at "nx"
      walk_at "exn"
      obtain ⟨g3, hl3, hfz, S3⟩ := S'.freezeAll hKD
      exact hR9 _ ao2 _ f _ _ (p.hand [f]) _ _ (hl02.trans hl3) (H.mono hl3) (hat02.mono hl3) (.inr ⟨rfl, ⟨rf, hrf⟩, rfl⟩) _ _ (St.weak S3 (by walk_at "lsub"))
    ·
      replace hb := of_decide_eq_false hb
      walk_at "exn"
      exact hR9 _ ao _ 9 _ _ p _ _ Frz.le.refl (H.up (Nat.le_succ N)) hat0 (.inl ⟨rfl, rfl, rfl⟩) _ _ (St.weak S' (by walk_at "lsub"))
  case cutB =>
    rintro g9 ao kd n9 t19 t29 p1 out1 wc' hl9 H hao hkd h' t' S'
    have hrr1 : p1.R e = some r := by rcases hkd with ⟨_, _, rfl⟩ | ⟨_, _, rfl⟩ <;> exact hrr
    walk_at "nx"
    walk_at "ex"
    ((with_reducible refine' wpAny_Assign_Name ?_ ?kDQb); (case kDQb => first | exact rfl | kernel_rfl))
    ((with_reducible refine' call_def_node ?kBEa ?kBEb (G_law_reached _) (P_law_reached _) ?_ ?kBEf ?kBEg ?kBEh ?kBEi ?kBEj ?kBEk); (case kBEa | kBEb => assumption); (case kBEf | kBEg | kBEj | kBEk => exact rfl); (case kBEh | kBEi => kernel_rfl))
    walk_at "evl"
    (refine ⟨St.base (by assumption), ?_⟩)
    refine reached_ (p := p1) S' bs H (by lia) (room'.l (k := 0 + 1)) (r := r) hrr1 ?_
    intro g1 h' tn1 seen1 tk' hl1 S' H
    replace hao := hao.mono hl1
    walk_at "st"; intro h' t' S'
    walk_at "nx"
    walk_at "ex"
    ((with_reducible refine' wpAny_Expr_any ?_ ?kBGb ?kBGc); (case kBGb | kBGc => exact rfl))
    ((with_reducible refine' call_def_node ?kBHa ?kBHb (G_law_cleared _) (P_law_cleared _) ?_ ?kBHf ?kBHg ?kBHh ?kBHi ?kBHj ?kBHk); (case kBHa | kBHb => assumption); (case kBHf | kBHg | kBHj | kBHk => exact rfl); (case kBHh | kBHi => kernel_rfl))
    walk_at "evl"
    (refine ⟨St.base (by assumption), ?_⟩)
    refine cleared_ (p := p1.see ⟨r.num, r.gr, r.off, octets⟩) S' bs H (by lia) (room'.l (k := 0 + 1)) ?_
    intro h' words1 tk' hsub S'
    replace H := H.subW hsub
    walk_at "nx"
    walk_at "ex"
    refine cutG (T := fun R => ∀ words2, ∀ wv, HOk w g1 a sz wc' regs words2 seen1 out1 (N + 3) { p1.see ⟨r.num, r.gr, r.off, octets⟩ with wv := wv } → Stp sz.length p ⟨"store", -1, [("r", e), (kd, n9)], 0⟩ { p1.see ⟨r.num, r.gr, r.off, octets⟩ with wv := wv } → R (([("house", .ref a.ah), ("well", .ref a.aw), ("chest", .int e et), ("octets", .int octets mt), ("operand", .ref ao)] : Loc)) g1 (hs a wc' regs p1.many tm p1.next tn words2 seen1 out1 asp)) S' ?cutA ?cutB
    case cutA =>
      intro P9 hR9
      with_reducible refine' wpAny_If ?_
      ((with_reducible refine' evb_ ?kDRa ?kDRb ?_ ?kDRd ?kDRe); (case kDRa => assumption); (case kDRb => walk_at "eec"); (case kDRd | kDRe => exact rfl))
      refine ite_b (fun hb => ?_) (fun hb => ?_)
      ·
        replace hb := eq_of_beq hb
        walk_at "ex"
        ((with_reducible refine' wpAny_Assign_Subscript ?_ ?kBKb); (case kBKb => exact rfl))
        with_reducible refine' wpAny_IfExp ?_
        ((with_reducible refine' wpAny_isTrue_Compare1 ?_ ?kDSb); (case kDSb => with_unfolding_all rfl))
        walk_at "ev"
        with_reducible refine' k_str ?_
        refine PyProof.Rows.eq_str ?_
        with_reducible refine' wpAny_truthy_bool ?_
        refine ite_b (fun hb => ?_) (fun hb => ?_)
        ·
          replace hb := eq_of_beq hb
          obtain ⟨rfl, rfl, hp1⟩ : kd = "k" ∧ n9 = 9 ∧ p1 = p := hkd.elim id fun z => absurd (hb.symm.trans z.1) (by decide)
          with_reducible refine' k_int ?_
          walk_at "ev"
          walk_at "nm"
          have hbw := H.b2
          ((with_reducible refine' set_dI ?kBOa ?kBOb ?kBOc ?_); (case kBOa => assumption); (case kBOb => walk_at "upd"); (case kBOc => walk_at "sz")); intro h' S'
          walk_at "nx"
          walk_at "exn"
          exact hR9 _ _ H.setW (by rw [hp1]; exact .storeK hrr hrnr hoctets (fun x hx => by rcases List.mem_cons.mp hx with rfl | hx; exact .inl rfl; exact .inr hx)) _ _ (St.weak S' (by walk_at "lsub"))
        ·
          replace hb := ne_of_beq_false hb
          with_reducible refine absG fun G9 k9 => ?_
          obtain ⟨rfl, ⟨rf, hrf⟩, hp1⟩ : kd = "r" ∧ (∃ rf, p.R n9 = some rf) ∧ p1 = p.hand [n9] := hkd.elim (fun z => absurd z.1 hb) id
          obtain ⟨rfv, hrfv, arf, t1f, t2f, gvf, rfl, hatf, gcf, tg1f, tg2f, rfl, hgrf⟩ := H.reg (k := n9) (r := rf) (show p1.R n9 = some rf by rw [hp1]; exact hrf)
          with_reducible refine k9 ?_
          with_reducible refine' Subscript_ ?_
          with_reducible refine' Subscript_ ?_
          walk_at "ev"
          walk_at "ev"
          refine sub_dI (by walk_at "at") hrfv ?_
          with_reducible refine' k_int ?_
          walk_at "tail"
          walk_at "ev"
          walk_at "nm"
          have hbw := H.b2
          ((with_reducible refine' set_dI ?kBSa ?kBSb ?kBSc ?_); (case kBSa => assumption); (case kBSb => walk_at "upd"); (case kBSc => walk_at "sz")); intro h' S'
          walk_at "nx"
          walk_at "exn"
          exact hR9 _ _ H.setW (by rw [hp1]; exact .storeR hrr hrnr hrf hoctets (fun x hx => by rcases List.mem_cons.mp hx with rfl | hx; exact .inl rfl; exact .inr hx)) _ _ (St.weak S' (by walk_at "lsub"))
      ·
        replace hb := ne_of_beq_false hb
        walk_at "exn"
        refine hR9 _ p1.wv (H.up (by lia)) (?_) _ _ (St.weak S' (by walk_at "lsub"))
        rcases hkd with ⟨rfl, rfl, hp1⟩ | ⟨rfl, ⟨rf, hrf⟩, hp1⟩
        · rw [hp1]; exact .storeK hrr hrnr hoctets fun x hx => .inr hx
        · rw [hp1]; exact .storeR hrr hrnr hrf hoctets fun x hx => .inr hx
    case cutB =>
      rintro words2 wv H hst h' t' S'
      walk_at "nx"
      walk_at "ex"
      with_reducible refine' wpAny_Return_some ?_
      ((with_reducible refine' call_def_node ?kDUa ?kDUb (GStep _) (PStep _) ?_ ?kDUf ?kDUg ?kDUh ?kDUi ?kDUj ?kDUk); (case kDUa | kDUb => assumption); (case kDUf | kDUg | kDUj | kDUk => exact rfl); (case kDUh | kDUi => kernel_rfl))
      walk_at "ac"
      with_reducible refine' k_str ?_
      walk_at "ac"
      ((with_reducible refine' k_neg ?_); intro _)
      walk_at "ac"
      with_reducible refine' ev_list ?_
      walk_at "ac"
      with_reducible refine' ev_tuple ?_
      walk_at "evl"
      ((with_reducible refine' new_tp ?kDVa ?_ ?kDVc); (case kDVa => assumption); (case kDVc => walk_at "sz")); intro ax h' S'
      walk_at "evl"
      ((with_reducible refine' new_ls ?kDWa ?_ ?kDWc); (case kDWa => assumption); (case kDWc => walk_at "sz")); intro al h' S'
      walk_at "evl"
      (refine ⟨St.base (by assumption), ?_⟩)
      refine mkStepL S' bs (room'.l (k := 0 + 2)) ?_
      intro g2 x' d2 tl h' tk' hl2 hx1 hx2 S'
      walk_at "cret"
      with_reducible refine' rt_ret ?_
      obtain ⟨g3, hl3, hfz, S3⟩ := S'.freezeAll hKD
      exact bk (Λx := []) S3 (fun S => q g3 _ _ _ _ _ _ _ _ _ _ _ _ (hl0.trans (hl9.trans (hl1.trans (hl2.trans hl3)))) hst ⟨x', d2, al, _, _, tl, _, _, rfl, hx1.mono hl3, hx2.mono hl3, hfz (al, _) (by walk_at "memc"), .cons ⟨ax, _, _, rfl, hfz (ax, _) (by walk_at "memc")⟩ (.cons ⟨ao, _, _, rfl, hao.mono (hl2.trans hl3)⟩ .nil), fun h => absurd h (show ¬ Str.ofString "store" = Str.ofString "slot" by decide)⟩ S ((H.mono (hl2.trans hl3)).up (M := N + 4) (by lia)))
theorem loaded_ {w : World} {A : Around} {E : Value → Shared → Prop} {s : Shared} {hp : Heap} {tk : Nat} {K : Ent} {L : Addr} {m : Loc} {g : Frz} {Γ : List (Addr × Cell)} {n : Nat} {Q : Value → Shared → Prop} {a : HA} {sz : List Int} {wc : Cell} {regs words : List (Int × Value)} {seen : List Value} {out : List (Int × Value)} {N : Nat} {p : PS} {tm tn : Tok} {asp : Addr}
    (S : St w K L m g (hs a wc regs p.many tm p.next tn words seen out asp ++ Γ) hp) (bs : Bs w K.B) (H : HOk w g a sz wc regs words seen out N p) (hN : N < 50) {ks : Nat} (hsp : SpotsOk w g asp p ks) (hks : 0 < ks) (room : Room A (n + 5)) 
    (q : ∀ g' h' wc' regs' tm' tn' words' seen' out' v row p' tk, g.le g' → Stp sz.length p row p' → RowOk w g' v row → St w K L m g' (hs a wc' regs' p'.many tm' p'.next tn' words' seen' out' asp ++ Γ) h' → HOk w g' a sz wc' regs' words' seen' out' (N + 4) p' → Q v (sh s h' tk)) :
    wpAny (model PG w) A (call (.ref 232) [.ref a.aw, .ref a.ah]) Q E (sh s hp tk) := by
  refine call_fn (hs a wc regs p.many tm p.next tn words seen out asp) [("house", .ref a.ah), ("well", .ref a.aw)] S bs room (by rfl) (by kernel_rfl) (by rfl) (by kernel_rfl) ?_ (by decide) rfl rfl rfl
  intro L' h₁ tk' A' K' Pp hK room' bk S'
  have bs : Bs w K'.B := by rw [hK]; exact bs
  have hKD : K'.D = (hs a wc regs p.many tm p.next tn words seen out asp).map (·.1) := by rw [hK]
  have hb1 := H.b1; have hb2 := H.b2; have hb3 := H.b3; have hb4 := H.b4; have hszl := H.szl
  walk_at "ex"
  (first | ((with_reducible refine' Assign_Tuple ?_ ?kCAb ?kCAc); (case kCAb | kCAc => exact rfl)) | ((with_reducible refine' Assign_Tuple_swapped ?_ ?kCAb ?kCAc); (case kCAb | kCAc => exact rfl)))
  with_reducible refine' ev_tuple ?_
  walk_at "ac"
  ((with_reducible refine' call_def_node ?kDXa ?kDXb (G_law_pick _) (P_law_pick _) ?_ ?kDXf ?kDXg ?kDXh ?kDXi ?kDXj ?kDXk); (case kDXa | kDXb => assumption); (case kDXf | kDXg | kDXj | kDXk => exact rfl); (case kDXh | kDXi => kernel_rfl))
  walk_at "evl"
  (refine ⟨St.base (by assumption), ?_⟩)
  with_reducible refine absG fun G9 k9 => ?_
  obtain ⟨spv, es, hspat, hspi, rfl, hsp1, hspr⟩ := hsp
  with_reducible refine k9 ?_
  refine pickH S' bs (room'.l (k := 0 + 2)) H.well (.inr (.inr hspat)) (by lia) (by lia) ?_
  intro h' wc' ev tk' S' hw' hev
  replace H := H.withWell hw'
  with_reducible refine absG fun G9 k9 => ?_
  obtain ⟨e, et, rfl, hes⟩ := intsAre_mem hspi ev hev
  obtain ⟨r, hrr, hrnr⟩ := hspr e hes
  with_reducible refine k9 ?_
  walk_at "ac"
  ((with_reducible refine' call_def_node ?kDYa ?kDYb (G_law_pick _) (P_law_pick _) ?_ ?kDYf ?kDYg ?kDYh ?kDYi ?kDYj ?kDYk); (case kDYa | kDYb => assumption); (case kDYf | kDYg | kDYj | kDYk => exact rfl); (case kDYh | kDYi => kernel_rfl))
  walk_at "ac"
  walk_at "nm"
  walk_at "ac"
  with_reducible refine' ev_list ?_
  walk_at "evl"
  ((with_reducible refine' new_ls ?kDZa ?_ ?kDZc); (case kDZa => assumption); (case kDZc => walk_at "sz")); intro a' h' S'
  with_reducible refine' args_nil ?_
  (refine ⟨St.base (by assumption), ?_⟩)
  refine pickD S' bs (room'.l (k := 0 + 2)) H.well (by simp) (by simp) ?_
  intro h' wc' mv tk' S' hw' hmv
  replace H := H.withWell hw'
  obtain ⟨octets, mt, rfl, hoctets⟩ := intsAre_mem (ns := [4, 4, 2, 1]) (.cons _ _ (.cons _ _ (.cons _ _ (.cons _ _ .nil)))) mv hmv
  with_reducible refine' args_nil ?_
  ((with_reducible refine' new_tp ?kEAa ?_ ?kEAc); (case kEAa => assumption); (case kEAc => walk_at "sz")); intro a' h' S'
  walk_at "unp"; intro h' S'
  (refine assignInOrder_cons ?_)
  (first | ((with_reducible refine' assign_Name ?_)) | ((with_reducible refine' bindName_ ?_)))
  walk_at "st"; intro h' t' S'
  (refine assignInOrder_cons ?_)
  (first | ((with_reducible refine' assign_Name ?_)) | ((with_reducible refine' bindName_ ?_)))
  walk_at "st"; intro h' t' S'
  (refine assignInOrder_nil ?_)
  walk_at "nx"
  walk_at "ex"
  ((with_reducible refine' wpAny_Assign_Name ?_ ?kEDb); (case kEDb => first | exact rfl | kernel_rfl))
  ((with_reducible refine' call_def_node ?kCKa ?kCKb (G_law_reached _) (P_law_reached _) ?_ ?kCKf ?kCKg ?kCKh ?kCKi ?kCKj ?kCKk); (case kCKa | kCKb => assumption); (case kCKf | kCKg | kCKj | kCKk => exact rfl); (case kCKh | kCKi => kernel_rfl))
  walk_at "evl"
  (refine ⟨St.base (by assumption), ?_⟩)
  refine reached_ (p := p) S' bs H (by lia) (room'.l (k := 0 + 1)) (r := r) hrr ?_
  intro g1 h' tn1 seen1 tk' hl1 S' H
  walk_at "st"; intro h' t' S'
  walk_at "nx"
  walk_at "ex"
  ((with_reducible refine' wpAny_Assign_Name ?_ ?kEEb); (case kEEb => first | exact rfl | kernel_rfl))
  ((with_reducible refine' call_def_node ?kCMa ?kCMb (G_law_fresh _) (P_law_fresh _) ?_ ?kCMf ?kCMg ?kCMh ?kCMi ?kCMj ?kCMk); (case kCMa | kCMb => assumption); (case kCMf | kCMg | kCMj | kCMk => exact rfl); (case kCMh | kCMi => kernel_rfl))
  walk_at "ac"
  walk_at "nm"
  walk_at "ac"
  with_reducible refine' wpAny_IfExp ?_
  ((with_reducible refine' evb_ ?kEFa ?kEFb ?_ ?kEFd ?kEFe); (case kEFa => assumption); (case kEFb => walk_at "eec"); (case kEFd | kEFe => exact rfl))
  refine ite_b (fun hb => ?_) (fun hb => ?_)
  ·
    replace hb := eq_of_beq hb
    ((with_reducible refine' meth_node PySem.F.plainAttrs_dict PySem.F.slot_dict_get PySem.F.type_dict_get ?_ ?kCOe ?kCOf ?kCOg ?kCOh ?kCOi); (case kCOe | kCOf | kCOg | kCOh | kCOi => exact rfl))
    walk_at "ev"
    (refine ⟨_, rfl, ?_, ?_⟩; (first | exact obj_lx (by walk_at "at") | exact obj_dI (by walk_at "at") | exact obj_dS (by walk_at "at") | exact obj_st (by walk_at "at")))
    walk_at "evl"
    (show wpAny _ _ (call _ [_, _, _]) _ _ _)
    have hgd : ∀ t3, ∃ n t, (valueAt words r.num).getD (.int 3 t3) = .int n t ∧ (n = 3 ∨ n ∈ p.wv) := by
      intro t3
      cases hq : valueAt words r.num with
      | none => exact ⟨3, _, rfl, .inl rfl⟩
      | some v =>
        obtain ⟨kv, h1, h2⟩ := Option.map_eq_some_iff.mp hq
        obtain ⟨i, t, h3, h4⟩ := H.wd kv (List.mem_of_find?_eq_some h1)
        exact ⟨i, t, by rw [← h2, h3]; rfl, .inr h4⟩
    obtain ⟨nn, tnn, hn, hnw⟩ := hgd _
    refine dict_getV (by walk_at "at") (by walk_at "ns") hn ?_
    with_reducible refine' args_nil ?_
    (refine ⟨St.base (by assumption), ?_⟩)
    refine fresh_ (p := p.see ⟨r.num, r.gr, r.off, octets⟩) S' bs H (room'.l (k := 0 + 1)) ?_
    intro gf h' tmf vf tk' hlf S' hvreg H
    walk_at "st"; intro h' t' S'
    walk_at "nx"
    walk_at "ex"
    ((with_reducible refine' wpAny_Assign_Name ?_ ?kEGb); (case kEGb => first | exact rfl | kernel_rfl))
    ((with_reducible refine' call_def_node ?kCSa ?kCSb (G_law_goal _) (P_law_goal _) ?_ ?kCSf ?kCSg ?kCSh ?kCSi ?kCSj ?kCSk); (case kCSa | kCSb => assumption); (case kCSf | kCSg | kCSj | kCSk => exact rfl); (case kCSh | kCSi => kernel_rfl))
    walk_at "evl"
    (refine ⟨St.base (by assumption), ?_⟩)
    refine goal_ (p := { p.see ⟨r.num, r.gr, r.off, octets⟩ with many := p.many + 1 }) S' bs H (by lia) (room'.l (k := 0 + 3)) ?_
    intro h' wc' tn' c tc p1 tk' hgoal S' H
    walk_at "st"; intro h' t' S'
    walk_at "nx"
    walk_at "ex"
    ((with_reducible refine' wpAny_Assign_Subscript ?_ ?kCUb); (case kCUb => exact rfl))
    walk_at "nm"
    walk_at "ev"
    walk_at "nm"
    have hbr := H.b1
    ((with_reducible refine' set_dI ?kCVa ?kCVb ?kCVc ?_); (case kCVa => assumption); (case kCVb => walk_at "upd"); (case kCVc => walk_at "sz")); intro h' S'
    walk_at "nx"
    walk_at "ex"
    with_reducible refine' wpAny_Return_some ?_
    ((with_reducible refine' call_def_node ?kEHa ?kEHb (GStep _) (PStep _) ?_ ?kEHf ?kEHg ?kEHh ?kEHi ?kEHj ?kEHk); (case kEHa | kEHb => assumption); (case kEHf | kEHg | kEHj | kEHk => exact rfl); (case kEHh | kEHi => kernel_rfl))
    walk_at "ac"
    with_reducible refine' k_str ?_
    walk_at "ac"
    walk_at "nm"
    walk_at "ac"
    with_reducible refine' ev_list ?_
    walk_at "ac"
    with_reducible refine' ev_tuple ?_
    walk_at "evl"
    ((with_reducible refine' new_tp ?kEIa ?_ ?kEIc); (case kEIa => assumption); (case kEIc => walk_at "sz")); intro ax h' S'
    with_reducible refine' args_nil ?_
    ((with_reducible refine' new_ls ?kEJa ?_ ?kEJc); (case kEJa => assumption); (case kEJc => walk_at "sz")); intro al h' S'
    walk_at "ac"
    with_reducible refine' ev_tuple ?_
    walk_at "evl"
    ((with_reducible refine' new_tp ?kEKa ?_ ?kEKc); (case kEKa => assumption); (case kEKc => walk_at "sz")); intro a' h' S'
    with_reducible refine' args_nil ?_
    (refine ⟨St.base (by assumption), ?_⟩)
    refine mkStepL S' bs (room'.l (k := 0 + 2)) ?_
    intro g2 x' d2 tl h' tk' hl2 hx1 hx2 S'
    walk_at "cret"
    with_reducible refine' rt_ret ?_
    obtain ⟨g3, hl3, hfz, S3⟩ := S'.freezeAll hKD
    have HH := ((H.mono (hl2.trans hl3)).setReg (c := c) (hvreg.mono (hl2.trans hl3))).up (M := N + 4) (by lia)
    exact bk (Λx := []) S3 (fun S => q g3 _ _ _ _ _ _ _ _ _ _ _ _ (hl1.trans (hlf.trans (hl2.trans hl3))) (.load hrr hrnr hoctets (hnw) hgoal) ⟨x', d2, al, _, _, tl, _, _, rfl, hx1.mono hl3, hx2.mono hl3, hfz (al, _) (by walk_at "memc"), .cons ⟨ax, _, _, rfl, hfz (ax, _) (by walk_at "memc")⟩ .nil, fun h => absurd h (show ¬ Str.ofString "load" = Str.ofString "slot" by decide)⟩ S HH)
  ·
    replace hb := ne_of_beq_false hb
    with_reducible refine' k_int ?_
    with_reducible refine' args_nil ?_
    (refine ⟨St.base (by assumption), ?_⟩)
    refine fresh_ (p := p.see ⟨r.num, r.gr, r.off, octets⟩) S' bs H (room'.l (k := 0 + 1)) ?_
    intro gf h' tmf vf tk' hlf S' hvreg H
    walk_at "st"; intro h' t' S'
    walk_at "nx"
    walk_at "ex"
    ((with_reducible refine' wpAny_Assign_Name ?_ ?kELb); (case kELb => first | exact rfl | kernel_rfl))
    ((with_reducible refine' call_def_node ?kDIa ?kDIb (G_law_goal _) (P_law_goal _) ?_ ?kDIf ?kDIg ?kDIh ?kDIi ?kDIj ?kDIk); (case kDIa | kDIb => assumption); (case kDIf | kDIg | kDIj | kDIk => exact rfl); (case kDIh | kDIi => kernel_rfl))
    walk_at "evl"
    (refine ⟨St.base (by assumption), ?_⟩)
    refine goal_ (p := { p.see ⟨r.num, r.gr, r.off, octets⟩ with many := p.many + 1 }) S' bs H (by lia) (room'.l (k := 0 + 3)) ?_
    intro h' wc' tn' c tc p1 tk' hgoal S' H
    walk_at "st"; intro h' t' S'
    walk_at "nx"
    walk_at "ex"
    ((with_reducible refine' wpAny_Assign_Subscript ?_ ?kDKb); (case kDKb => exact rfl))
    walk_at "nm"
    walk_at "ev"
    walk_at "nm"
    have hbr := H.b1
    ((with_reducible refine' set_dI ?kDLa ?kDLb ?kDLc ?_); (case kDLa => assumption); (case kDLb => walk_at "upd"); (case kDLc => walk_at "sz")); intro h' S'
    walk_at "nx"
    walk_at "ex"
    with_reducible refine' wpAny_Return_some ?_
    ((with_reducible refine' call_def_node ?kEMa ?kEMb (GStep _) (PStep _) ?_ ?kEMf ?kEMg ?kEMh ?kEMi ?kEMj ?kEMk); (case kEMa | kEMb => assumption); (case kEMf | kEMg | kEMj | kEMk => exact rfl); (case kEMh | kEMi => kernel_rfl))
    walk_at "ac"
    with_reducible refine' k_str ?_
    walk_at "ac"
    walk_at "nm"
    walk_at "ac"
    with_reducible refine' ev_list ?_
    walk_at "ac"
    with_reducible refine' ev_tuple ?_
    walk_at "evl"
    ((with_reducible refine' new_tp ?kENa ?_ ?kENc); (case kENa => assumption); (case kENc => walk_at "sz")); intro ax h' S'
    with_reducible refine' args_nil ?_
    ((with_reducible refine' new_ls ?kEOa ?_ ?kEOc); (case kEOa => assumption); (case kEOc => walk_at "sz")); intro al h' S'
    walk_at "ac"
    with_reducible refine' ev_tuple ?_
    walk_at "evl"
    ((with_reducible refine' new_tp ?kEPa ?_ ?kEPc); (case kEPa => assumption); (case kEPc => walk_at "sz")); intro a' h' S'
    with_reducible refine' args_nil ?_
    (refine ⟨St.base (by assumption), ?_⟩)
    refine mkStepL S' bs (room'.l (k := 0 + 2)) ?_
    intro g2 x' d2 tl h' tk' hl2 hx1 hx2 S'
    walk_at "cret"
    with_reducible refine' rt_ret ?_
    obtain ⟨g3, hl3, hfz, S3⟩ := S'.freezeAll hKD
    have HH := ((H.mono (hl2.trans hl3)).setReg (c := c) (hvreg.mono (hl2.trans hl3))).up (M := N + 4) (by lia)
    exact bk (Λx := []) S3 (fun S => q g3 _ _ _ _ _ _ _ _ _ _ _ _ (hl1.trans (hlf.trans (hl2.trans hl3))) (.load hrr hrnr hoctets (.inl rfl) hgoal) ⟨x', d2, al, _, _, tl, _, _, rfl, hx1.mono hl3, hx2.mono hl3, hfz (al, _) (by walk_at "memc"), .cons ⟨ax, _, _, rfl, hfz (ax, _) (by walk_at "memc")⟩ .nil, fun h => absurd h (show ¬ Str.ofString "load" = Str.ofString "slot" by decide)⟩ S HH)
section
variable {w : World} {A : Around} {E : Value → Shared → Prop} {s : Shared} {h h' : Heap} {t : Nat} {K : Ent} {L : Addr} {m m' : Loc} {g : Frz} {Γ Γ' ΓD Λ : List (Addr × Cell)} {env : Env}
theorem comp_exA {elt target iter : Expr} {ifs : List Expr} {scope : Scope} {pos spos py : Pos} {cl : List (Str × Addr)} {y : Str} {Q : Flow → Shared → Prop}
    (q : wpAny (model PG w) A (eval iter env) (fun x s₁ => wpAny (model PG w) A (pyIter x) (fun it s₂ => wpAny (model PG w) A (newList []) (fun acc s₃ => CmpU w A E elt target iter ifs scope pos cl env (some (assign (.Name y py) env)) (fun _ => Q .next) it acc s₃) E s₂) E s₁) E s)
    (hsw : swapsWith (.ListComp elt [⟨target, iter, ifs, 0⟩] scope pos) (some (.Name y py)) spos.line env = pure true)
    (hs : ∀ x, foldedSetIterable iter env x = pure x) (hclos : closureFor scope env = pure cl) (hkind : scope.kind = .function) (hnames : ∀ x ∈ scope.names, x.2 = .local → scope.names.lookup x.1 = some .local) :
    wpAny (model PG w) A (exec (.Assign [.Name y py] (.ListComp elt [⟨target, iter, ifs, 0⟩] scope pos) spos) env) Q E s := by
  rw [exec_Assign_Name_used _ _ _ _ hsw, arm_evalThenUse_ListComp]
  refine wpAny_bind (wpAny_standAt (wpAny_bind (wpAny_bind ?_)))
  refine wpAny_mono (wpAny_comprehension_free (e := .ListComp elt [⟨target, iter, ifs, 0⟩] scope pos) rfl hs hclos hkind hnames q) (fun v s' h' => ?_) fun _ _ e => e
  exact wpAny_pure (wpAny_pure h')
theorem comp_TDA {elt target iter : Expr} {ifs : List Expr} {scope : Scope} {pos : Pos} {cl : List (Str × Addr)} {it ac : Addr} {n : Nat} {P : Nat → Value → Prop} {Ic : Nat → Cell} {Ok : Heap → Prop} {py : Pos} {y : Str} {Q : Flow → Shared → Prop}
    (T : Nat → List Value → (Frz → List (Addr × Cell) → Prop) → Prop) (sr : Src w A it n P Ic Ok) (S : St w K L m g (ΓD ++ (ac, .lx []) :: (it, Ic 0) :: Λ) h) (hn : n ≤ 1000)
    (tt : ∀ i vs R, (∀ g ΓD₁, (∀ R' : Frz → List (Addr × Cell) → Prop, T i vs R' → R' g ΓD₁) → R g ΓD₁) → T i vs R) (j0 : ∀ R : Frz → List (Addr × Cell) → Prop, T 0 [] R → R g ΓD)
    (ok : ∀ K2 C i vs, T i vs fun g₁ ΓD₁ => ∀ h₁, g.le g₁ → St w K2 C [] g₁ (ΓD₁ ++ (ac, .lx vs) :: (it, Ic i) :: Λ) h₁ → Ok h₁)
    (keys : ∀ i vs, T i vs fun _ ΓD₁ => ΓD₁.map (·.1) = ΓD.map (·.1) ∧ vs.length ≤ i)
    (ht : ∀ v, letOwnedTupleGo target (.ref it) v = pure ())
    (step : ∀ K2 C i v vs (PE : Value → Shared → Prop) (PF : Shared → Prop), K2 = ⟨K.B, h, (ΓD ++ (ac, .lx []) :: (it, Ic 0) :: Λ).map (·.1), g⟩ → i < n → P i v →
      (∀ x, T (i + 1) (vs ++ [x]) fun g₁ ΓD₁ => ∀ m h₁ t₁, St w K2 C m g₁ (ΓD₁ ++ (ac, .lx vs) :: (it, Ic (i + 1)) :: Λ) h₁ → PE x (sh s h₁ t₁)) →
      (T (i + 1) vs fun g₁ ΓD₁ => ∀ m h₁ t₁, St w K2 C m g₁ (ΓD₁ ++ (ac, .lx vs) :: (it, Ic (i + 1)) :: Λ) h₁ → PF (sh s h₁ t₁)) →
      T i vs fun g₁ ΓD₁ => ∀ h₁ t₁, St w K2 C [] g₁ (ΓD₁ ++ (ac, .lx vs) :: (it, Ic (i + 1)) :: Λ) h₁ →
      wpAny (model PG w) A (assign target (compEnvC scope cl C env) v) (fun _ s₂ =>
        wpAny (model PG w) A (forIn ifs true fun c r => if r = true then do let ok ← isTrue c (compEnvC scope cl C env) (eval c (compEnvC scope cl C env)); pure (ForInStep.yield ok) else pure (ForInStep.yield r)) (fun ok s₃ =>
          if ok = true then wpAny (model PG w) A (eval elt (compEnvC scope cl C env)) PE (fun _ _ => False) s₃ else PF s₃) (fun _ _ => False) s₂) (fun _ _ => False) (sh s h₁ t₁))
    (hm : FSet m y (.ref ac) m')
    (done : ∀ vs, T n vs fun g₁ ΓD₁ => ∀ h₁ t₁, g.le g₁ → St w K L m' g₁ (ΓD₁ ++ (ac, .lx vs) :: Λ) h₁ → Q .next (sh s h₁ t₁))
    (hcell : ∀ x ∈ scope.names, x.2 ≠ .cell) (hk : scope.kind = .function) (hL : env.locals = L) (hy : env.kindOf y = some .local) (hkf : env.scope.kind = .function) :
    CmpU w A E elt target iter ifs scope pos cl env (some (assign (.Name y py) env)) (fun _ => Q .next) (.ref it) (.ref ac) (sh s h t) := by
  refine comp_D0 (J := fun i vs g ΓD => ∀ R : Frz → List (Addr × Cell) → Prop, T i vs R → R g ΓD) sr S hn j0 (fun K2 C i vs _ _ h j hl S => j _ (ok K2 C i vs) h hl S) (fun i vs _ _ j => j _ (keys i vs)) ht
    (fun K2 C i v vs _ _ h t PE PF hK hi hx j XE XF S => j _ (step K2 C i v vs PE PF hK hi hx (fun _ => tt _ _ _ fun _ _ jj _ _ _ S => XE S jj) (tt _ _ _ fun _ _ jj _ _ _ S => XF S jj)) h t S) ?_ hcell hk
  · intro vs g₁ ΓD₁ h₂ t₂ f fl j hl nsC S2 C1 C2 C3
    show wpAny (model PG w) A (assign (.Name y py) env (.ref ac)) _ E _
    refine assign_Name ?_
    obtain ⟨fo, nso, zo⟩ := S2.ns
    refine wpAny_storeName_local hy (hL ▸ nso) (fun h₃ hn₃ hs₃ => ?_) (by rw [hkf]; rfl)
    have S3 : St w K L m' g₁ (ΓD₁ ++ (ac, .lx vs) :: Λ) h₃ := S2.name ⟨_, hL ▸ hn₃, fun z u e => by
      have e : (if z = y then some (Value.ref ac) else m.lookup z) = some u := (congrFun hm z).trans e
      split
      · rename_i q; rw [if_pos q] at e; exact e
      · rename_i q; rw [if_neg q] at e; exact zo z u e⟩ (hL ▸ hs₃)
    obtain ⟨oC, es, ep, ho, r⟩ := nsC
    refine ⟨_, ⟨oC, es, ep, (hs₃.2 _ (hL ▸ C1)).trans ho, r⟩, fun h₄ hs₄ => ?_⟩
    exact j _ (done vs) h₄ _ hl (S3.other hs₄.extBut C1 C2 C3 S.bsize S.grow)
theorem comp_TFA {elt target iter : Expr} {ifs : List Expr} {scope : Scope} {pos : Pos} {cl : List (Str × Addr)} {it ac : Addr} {n : Nat} {P : Nat → Value → Prop} {Ic : Nat → Cell} {Ok : Heap → Prop} {py : Pos} {y : Str} {Q : Flow → Shared → Prop}
    (T : Nat → List Value → (Frz → Prop) → Prop) (sr : Src w A it n P Ic Ok) (S : St w K L m g (ΓD ++ (ac, .lx []) :: (it, Ic 0) :: Λ) h) (hn : n ≤ 1000)
    (tt : ∀ i vs R, (∀ g, (∀ R' : Frz → Prop, T i vs R' → R' g) → R g) → T i vs R) (j0 : ∀ R : Frz → Prop, T 0 [] R → R g)
    (ok : ∀ K2 C i vs, T i vs fun g₁ => ∀ h₁, g.le g₁ → St w K2 C [] g₁ (ΓD ++ (ac, .lx vs) :: (it, Ic i) :: Λ) h₁ → Ok h₁)
    (keys : ∀ i vs, T i vs fun _ => vs.length ≤ i)
    (ht : ∀ v, letOwnedTupleGo target (.ref it) v = pure ())
    (step : ∀ K2 C i v vs (PE : Value → Shared → Prop) (PF : Shared → Prop), K2 = ⟨K.B, h, (ΓD ++ (ac, .lx []) :: (it, Ic 0) :: Λ).map (·.1), g⟩ → i < n → P i v →
      (∀ x, T (i + 1) (vs ++ [x]) fun g₁ => ∀ m h₁ t₁, St w K2 C m g₁ (ΓD ++ (ac, .lx vs) :: (it, Ic (i + 1)) :: Λ) h₁ → PE x (sh s h₁ t₁)) →
      (T (i + 1) vs fun g₁ => ∀ m h₁ t₁, St w K2 C m g₁ (ΓD ++ (ac, .lx vs) :: (it, Ic (i + 1)) :: Λ) h₁ → PF (sh s h₁ t₁)) →
      T i vs fun g₁ => ∀ h₁ t₁, St w K2 C [] g₁ (ΓD ++ (ac, .lx vs) :: (it, Ic (i + 1)) :: Λ) h₁ →
      wpAny (model PG w) A (assign target (compEnvC scope cl C env) v) (fun _ s₂ =>
        wpAny (model PG w) A (forIn ifs true fun c r => if r = true then do let ok ← isTrue c (compEnvC scope cl C env) (eval c (compEnvC scope cl C env)); pure (ForInStep.yield ok) else pure (ForInStep.yield r)) (fun ok s₃ =>
          if ok = true then wpAny (model PG w) A (eval elt (compEnvC scope cl C env)) PE (fun _ _ => False) s₃ else PF s₃) (fun _ _ => False) s₂) (fun _ _ => False) (sh s h₁ t₁))
    (hm : FSet m y (.ref ac) m')
    (done : ∀ vs, T n vs fun g₁ => ∀ h₁ t₁, g.le g₁ → St w K L m' g₁ (ΓD ++ (ac, .lx vs) :: Λ) h₁ → Q .next (sh s h₁ t₁))
    (hcell : ∀ x ∈ scope.names, x.2 ≠ .cell) (hk : scope.kind = .function) (hL : env.locals = L) (hy : env.kindOf y = some .local) (hkf : env.scope.kind = .function) :
    CmpU w A E elt target iter ifs scope pos cl env (some (assign (.Name y py) env)) (fun _ => Q .next) (.ref it) (.ref ac) (sh s h t) := 
  comp_TDA (T := fun i vs R => T i vs fun g => R g ΓD) sr S hn (fun i vs R H => tt i vs _ fun g k => H g ΓD fun R' r => k (fun g => R' g ΓD) r) (fun R r => j0 _ r) ok (fun i vs => tt i vs _ fun _ k => ⟨rfl, k _ (keys i vs)⟩) ht step hm done hcell hk hL hy hkf
end
theorem HOk.setWin {w : World} {g : Frz} {a : HA} {sz : List Int} {wc : Cell} {regs words : List (Int × Value)} {seen : List Value} {out : List (Int × Value)} {N : Nat} {p : PS} (x : HOk w g a sz wc regs words seen out N p) {k i : Int} {t : Tok} (hi : i ∈ p.wv) : HOk w g a sz wc regs (stored words k (.int i t)) seen out (N + 1) p :=
  { x.up (Nat.le_succ N) with
    wd := fun kv h => (mem_stored h).elim (fun e => ⟨i, t, by rw [e], hi⟩) (x.wd kv)
    b2 := by have := x.b2; have := len_stored words k (.int i t); lia }
theorem moved_ {w : World} {A : Around} {E : Value → Shared → Prop} {s : Shared} {hp : Heap} {tk : Nat} {K : Ent} {L : Addr} {m : Loc} {g : Frz} {Γ : List (Addr × Cell)} {n : Nat} {Q : Value → Shared → Prop} {a : HA} {sz : List Int} {wc : Cell} {regs words : List (Int × Value)} {seen : List Value} {out : List (Int × Value)} {N : Nat} {p : PS} {tm tn : Tok} {asp : Addr}
    (S : St w K L m g (hs a wc regs p.many tm p.next tn words seen out asp ++ Γ) hp) (bs : Bs w K.B) (H : HOk w g a sz wc regs words seen out N p) (hN : N < 50) {ks : Nat} (hsp : SpotsOk w g asp p ks) (hks : 0 < ks) (room : Room A (n + 5)) 
    (q : ∀ g' h' wc' regs' tm' tn' words' seen' out' v row p' tk, g.le g' → Stp sz.length p row p' → RowOk w g' v row → St w K L m g' (hs a wc' regs' p'.many tm' p'.next tn' words' seen' out' asp ++ Γ) h' → HOk w g' a sz wc' regs' words' seen' out' (N + 4) p' → Q v (sh s h' tk)) :
    wpAny (model PG w) A (call (.ref 237) [.ref a.aw, .ref a.ah]) Q E (sh s hp tk) := by
  refine call_fnC (hs a wc regs p.many tm p.next tn words seen out asp) [("well", .ref a.aw)] [("whence", none), ("house", some (.ref a.ah))] S bs room (by rfl) (by kernel_rfl) (by rfl) (by kernel_rfl) (by decide) (fun _ => by walk_at "lkf") (fun _ => by rfl) ?_ rfl rfl rfl
  intro L' h₁ tk' cl' Λ' A' K' Pp hCA hK room' bk S'
  have bs : Bs w K'.B := by rw [hK]; exact bs
  have hKD : K'.D = (hs a wc regs p.many tm p.next tn words seen out asp).map (·.1) := by rw [hK]
  obtain _ | hCA := hCA
  obtain _ | hCA := hCA
  cases hCA
  have hb1 := H.b1; have hb2 := H.b2; have hb3 := H.b3; have hb4 := H.b4; have hszl := H.szl
  walk_at "ex"
  (first | ((with_reducible refine' Assign_Tuple ?_ ?kBb ?kBc); (case kBb | kBc => exact rfl)) | ((with_reducible refine' Assign_Tuple_swapped ?_ ?kBb ?kBc); (case kBb | kBc => exact rfl)))
  with_reducible refine' ev_tuple ?_
  walk_at "ac"
  ((with_reducible refine' call_def_node ?kEQa ?kEQb (G_law_pick _) (P_law_pick _) ?_ ?kEQf ?kEQg ?kEQh ?kEQi ?kEQj ?kEQk); (case kEQa | kEQb => assumption); (case kEQf | kEQg | kEQj | kEQk => exact rfl); (case kEQh | kEQi => kernel_rfl))
  walk_at "evl"
  (refine ⟨St.base (by assumption), ?_⟩)
  with_reducible refine absG fun G9 k9 => ?_
  obtain ⟨spv, es, hspat, hspi, rfl, hsp1, hspr⟩ := hsp
  with_reducible refine k9 ?_
  refine pickH S' bs (room'.l (k := 0 + 2)) H.well (.inr (.inr hspat)) (by lia) (by lia) ?_
  intro h' wc' ev tk' S' hw' hev
  replace H := H.withWell hw'
  with_reducible refine absG fun G9 k9 => ?_
  obtain ⟨e, et, rfl, hes⟩ := intsAre_mem hspi ev hev
  obtain ⟨r, hrr, hrnr⟩ := hspr e hes
  with_reducible refine k9 ?_
  walk_at "ac"
  ((with_reducible refine' call_def_node ?kERa ?kERb (G_law_pick _) (P_law_pick _) ?_ ?kERf ?kERg ?kERh ?kERi ?kERj ?kERk); (case kERa | kERb => assumption); (case kERf | kERg | kERj | kERk => exact rfl); (case kERh | kERi => kernel_rfl))
  walk_at "evl"
  (refine ⟨St.base (by assumption), ?_⟩)
  refine pickH S' bs (room'.l (k := 0 + 2)) H.well (.inr (.inr hspat)) (by lia) (by lia) ?_
  intro h' wc' ev tk' S' hw' hev
  replace H := H.withWell hw'
  with_reducible refine absG fun G9 k9 => ?_
  obtain ⟨f, et, rfl, hes⟩ := intsAre_mem hspi ev hev
  obtain ⟨rf, hrrf, hrnrf⟩ := hspr f hes
  with_reducible refine k9 ?_
  walk_at "ac"
  ((with_reducible refine' call_def_node ?kESa ?kESb (G_law_pick _) (P_law_pick _) ?_ ?kESf ?kESg ?kESh ?kESi ?kESj ?kESk); (case kESa | kESb => assumption); (case kESf | kESg | kESj | kESk => exact rfl); (case kESh | kESi => kernel_rfl))
  walk_at "ac"
  walk_at "nm"
  walk_at "ac"
  with_reducible refine' ev_list ?_
  walk_at "evl"
  ((with_reducible refine' new_ls ?kETa ?_ ?kETc); (case kETa => assumption); (case kETc => walk_at "sz")); intro a' h' S'
  with_reducible refine' args_nil ?_
  (refine ⟨St.base (by assumption), ?_⟩)
  refine pickD S' bs (room'.l (k := 0 + 2)) H.well (by simp) (by simp) ?_
  intro h' wc' mv tk' S' hw' hmv
  replace H := H.withWell hw'
  obtain ⟨octets, mt, rfl, hoctets⟩ := intsAre_mem (ns := [4, 8]) (.cons _ _ (.cons _ _ .nil)) mv hmv
  with_reducible refine' args_nil ?_
  ((with_reducible refine' new_tp ?kEUa ?_ ?kEUc); (case kEUa => assumption); (case kEUc => walk_at "sz")); intro a' h' S'
  walk_at "unp"; intro h' S'
  (refine assignInOrder_cons ?_)
  (first | ((with_reducible refine' assign_Name ?_)) | ((with_reducible refine' bindName_ ?_)))
  walk_at "st"; intro h' t' S'
  (refine assignInOrder_cons ?_)
  (first | ((with_reducible refine' assign_Name ?_)) | ((with_reducible refine' bindName_ ?_)))
  walk_at "st"; intro h' t' S'
  (refine assignInOrder_cons ?_)
  (first | ((with_reducible refine' assign_Name ?_)) | ((with_reducible refine' bindName_ ?_)))
  walk_at "st"; intro h' t' S'
  (refine assignInOrder_nil ?_)
  walk_at "nx"
  walk_at "ex"
  (first | ((with_reducible refine' Assign_Tuple ?_ ?kNb ?kNc); (case kNb | kNc => exact rfl)) | ((with_reducible refine' Assign_Tuple_swapped ?_ ?kNb ?kNc); (case kNb | kNc => exact rfl)))
  with_reducible refine' ev_tuple ?_
  walk_at "ac"
  ((with_reducible refine' call_def_node ?kPa ?kPb (G_law_reached _) (P_law_reached _) ?_ ?kPf ?kPg ?kPh ?kPi ?kPj ?kPk); (case kPa | kPb => assumption); (case kPf | kPg | kPj | kPk => exact rfl); (case kPh | kPi => kernel_rfl))
  walk_at "evl"
  (refine ⟨St.base (by assumption), ?_⟩)
  refine reached_ (p := p) S' bs H (by lia) (room'.l (k := 0 + 1)) (r := r) hrr ?_
  intro g1 h' tn1 seen1 tk' hl1 S' H
  walk_at "ac"
  ((with_reducible refine' call_def_node ?kRa ?kRb (G_law_reached _) (P_law_reached _) ?_ ?kRf ?kRg ?kRh ?kRi ?kRj ?kRk); (case kRa | kRb => assumption); (case kRf | kRg | kRj | kRk => exact rfl); (case kRh | kRi => kernel_rfl))
  walk_at "evl"
  (refine ⟨St.base (by assumption), ?_⟩)
  refine reached_ (p := (p.see ⟨r.num, r.gr, r.off, octets⟩)) S' bs H (by lia) (room'.l (k := 0 + 1)) (r := rf) hrrf ?_
  intro g1b h' tn1b seen1b tk' hl1b S' H
  with_reducible refine' args_nil ?_
  ((with_reducible refine' new_tp ?kEYa ?_ ?kEYc); (case kEYa => assumption); (case kEYc => walk_at "sz")); intro a' h' S'
  walk_at "unp"; intro h' S'
  (refine assignInOrder_cons ?_)
  (first | ((with_reducible refine' assign_Name ?_)) | ((with_reducible refine' bindName_ ?_)))
  walk_at "st"; intro h' t' S'
  (refine assignInOrder_cons ?_)
  (first | ((with_reducible refine' assign_Name ?_)) | ((with_reducible refine' bindName_ ?_)))
  walk_at "st"; intro h' t' S'
  (refine assignInOrder_nil ?_)
  walk_at "nx"
  walk_at "ex"
  ((with_reducible refine' comp_exA ?_ ?kXb ?kXc ?kXd ?kXe ?kXf); (case kXb => first | exact rfl | kernel_rfl); (case kXc => intro _; rfl); (case kXd | kXe => exact rfl); (case kXf => decide))
  ((with_reducible refine' call_ty_node ?kYa ?kYb (Nrange _) Brange ?kYe ?_ ?kYg ?kYh ?kYi ?kYj ?kYk ?kYl ?kYm); (case kYa | kYb => assumption); (case kYe => decide); (case kYg | kYh | kYi | kYl | kYm => exact rfl); (case kYj | kYk => kernel_rfl))
  walk_at "evl"
  refine rng3 (by decide) (by decide) S' ?_
  intro ra' h' t' S'
  obtain ⟨nr, hnr, hsm, hn2⟩ : ∃ nr : Nat, Builtin.Range.rangeSize 0 octets 4 = nr ∧ Builtin.Range.small 0 octets 4 = true ∧ nr ≤ 2 := by
    simp only [List.mem_cons, List.not_mem_nil, or_false] at hoctets
    rcases hoctets with rfl | rfl
    · exact ⟨1, by decide, by decide, by decide⟩
    · exact ⟨2, by decide, by decide, by decide⟩
  refine iter_rg S' (by walk_at "at") hnr hsm ?_; intro it' h' S'
  ((with_reducible refine' new_ls ?kFBa ?_ ?kFBc); (case kFBa => assumption); (case kFBc => walk_at "sz")); intro ac' h' S'
  refine' comp_TFA (T := fun i vs R => vs.length = i → (∀ v ∈ vs, v = .none ∨ ∃ i t, v = .int i t ∧ i ∈ p.wv) → R g1b) (src_rg (by exact Room.hh (by assumption)) it' 0 4 nr) S' ?hn (fun i vs R H x0 x1 => H _ fun R9 k9 => k9 x0 x1) ?j0 ?ok ?keys (fun _ => rfl) ?step ?hm ?done (by decide) rfl rfl (by kernel_rfl) rfl
  case hm => walk_at "fset"
  case hn =>
    lia
  case j0 =>
    exact fun R9 k9 => k9 rfl (fun v h => by simp at h)
  case ok => intro K2 C i vs; intros; intro _ _ _; trivial
  case keys =>
    intro i vs; intros; first | assumption | (apply Nat.le_of_eq; assumption) | (subst_vars; simp; done) | (rename_i h; rw [h, List.length_map, List.length_take]; exact Nat.min_le_left _ _)
  case step =>
    rintro K2 C' i' v' vs' PE PF hK2 hi' hx' XE XF hln hvs h' t' S'
    have bs : Bs w K2.B := by rw [hK2]; exact bs
    obtain ⟨t9, rfl⟩ := hx'
    with_reducible refine' assign_Name ?_
    walk_at "st"; intro h' t' S'
    with_reducible refine' if0 ?_
    with_reducible refine' ite_t ?_
    ((with_reducible refine' meth_node PySem.F.plainAttrs_dict PySem.F.slot_dict_get PySem.F.type_dict_get ?_ ?kBCe ?kBCf ?kBCg ?kBCh ?kBCi); (case kBCe | kBCf | kBCg | kBCh | kBCi => exact rfl))
    walk_at "ev"
    (refine ⟨_, rfl, ?_, ?_⟩; (first | exact obj_lx (by walk_at "at") | exact obj_dI (by walk_at "at") | exact obj_dS (by walk_at "at") | exact obj_st (by walk_at "at")))
    walk_at "evl"
    (show wpAny _ _ (call _ [_, _]) _ _ _)
    refine dict_get1 (by walk_at "at") (by walk_at "ns") ?_
    refine XE _ (by simp [hln]) (fun v hv => ?_) _ _ _ S'
    rcases List.mem_append.mp hv with hv | hv
    · exact hvs v hv
    · cases List.mem_singleton.mp hv
      cases hq : valueAt words (rf.num + (0 + i' * 4)) with
      | none => exact .inl rfl
      | some v =>
        obtain ⟨kv, h1, h2⟩ := Option.map_eq_some_iff.mp hq
        obtain ⟨i, t, h3, h4⟩ := H.wd kv (List.mem_of_find?_eq_some h1)
        exact .inr ⟨i, t, by rw [← h2, h3]; rfl, h4⟩
  case done =>
    rintro vs' hln hvs h' t' hgl' S'
    have hlmp := hvs
    walk_at "nx"
    walk_at "ex"
    ((with_reducible refine' wpAny_Expr_any ?_ ?kBEb ?kBEc); (case kBEb | kBEc => exact rfl))
    ((with_reducible refine' call_def_node ?kBFa ?kBFb (G_law_cleared _) (P_law_cleared _) ?_ ?kBFf ?kBFg ?kBFh ?kBFi ?kBFj ?kBFk); (case kBFa | kBFb => assumption); (case kBFf | kBFg | kBFj | kBFk => exact rfl); (case kBFh | kBFi => kernel_rfl))
    walk_at "evl"
    (refine ⟨St.base (by assumption), ?_⟩)
    refine cleared_ (p := ((p.see ⟨r.num, r.gr, r.off, octets⟩).see ⟨rf.num, rf.gr, rf.off, octets⟩)) S' bs H (by lia) (room'.l (k := 0 + 1)) ?_
    intro h' words1 tk' hsub S'
    replace H := H.subW hsub
    walk_at "nx"
    walk_at "ex"
    ((with_reducible refine' for_ex ?_ ?kBHb); (case kBHb => intro _; rfl))
    ((with_reducible refine' call_ty_node ?kBIa ?kBIb (Nrange _) Brange ?kBIe ?_ ?kBIg ?kBIh ?kBIi ?kBIj ?kBIk ?kBIl ?kBIm); (case kBIa | kBIb => assumption); (case kBIe => decide); (case kBIg | kBIh | kBIi | kBIl | kBIm => exact rfl); (case kBIj | kBIk => kernel_rfl))
    walk_at "ac"
    ((with_reducible refine' call_bi_node ?kBJa ?kBJb (Nlen _) Blen ?kBJe ?_ ?kBJg ?kBJh ?kBJi ?kBJj ?kBJk ?kBJl ?kBJm); (case kBJa | kBJb => assumption); (case kBJe => decide); (case kBJg | kBJh | kBJi | kBJl | kBJm => exact rfl); (case kBJj | kBJk => kernel_rfl))
    walk_at "evl"
    (first | ((with_reducible refine' len_ls ?kBKa ?kBKb ?_); (case kBKa => walk_at "at"); (case kBKb => first | lia | decide)) | ((with_reducible refine' len_dI ?kBKa ?kBKb ?kBKc ?_); (case kBKa => walk_at "at"); (case kBKb => walk_at "ns"); (case kBKc => lia); intro _))
    with_reducible refine' args_nil ?_
    ((with_reducible refine' rng1 ?kBMa ?_); (case kBMa => assumption)); intro r' h' t' S'
    refine iter_rg (n := vs'.length) S' (by walk_at "at") (by rw [range_n (by lia)]; rfl) (by rcases (show vs'.length = 0 ∨ vs'.length = 1 ∨ vs'.length = 2 by lia) with h | h | h <;> rw [h] <;> decide) ?_; intro it' h' S'
    refine for_T (T := fun i R => ∀ wds, wds.length ≤ words1.length + i → HOk w g1b a sz wc' regs wds seen1b out (N + 2 + i) ((p.see ⟨r.num, r.gr, r.off, octets⟩).see ⟨rf.num, rf.gr, rf.off, octets⟩) → R g1b (hs a wc' regs p.many tm p.next tn wds seen1b out asp)) (src_rg (by exact Room.hh (by assumption)) it' 0 1 vs'.length) S' (fun i R H x0 x1 x2 => H _ _ fun R9 k9 => k9 x0 x1 x2) ?j0 ?ok ?hg ?step ?done
    case j0 =>
      exact fun R9 k9 => k9 words1 (by lia) H
    case ok => intro i; intros; intro _ _; trivial
    case hg => first | exact .inl ⟨_, _, rfl⟩ | exact .inr ⟨_, _, _, rfl, by walk_at "hgt"⟩
    case step =>
      rintro i' v' P' hi' hx' X' wds hwl HW h' t' S'
      obtain ⟨t9, rfl⟩ := hx'
      have hbw := HW.b2
      obtain ⟨lv, hlv⟩ : ∃ v, vs'[i']? = some v := ⟨_, List.getElem?_eq_getElem hi'⟩
      have hlm := hlmp lv (List.mem_of_getElem? hlv)
      have hlv' : vs'[((0 : Int) + i' * 1).toNat]? = some lv := by rw [show ((0 : Int) + i' * 1).toNat = i' by lia]; exact hlv
      with_reducible refine' assign_Name ?_
      walk_at "st"; intro h' t' S'
      walk_at "ex"
      with_reducible refine' wpAny_If ?_
      ((with_reducible refine' wpAny_isTrue_Compare1 ?_ ?kFCb); (case kFCb => with_unfolding_all rfl))
      with_reducible refine' Subscript_ ?_
      walk_at "nm"
      walk_at "nm"
      refine sub_ls (by walk_at "at") (by lia) hlv' ?_ (by lia)
      with_reducible refine' wpAny_Constant_none ?_
      refine isnot_none (b := decide (lv ≠ .none)) (by
        rcases hlm with rfl | ⟨i, t, rfl, _⟩
        · exact .inl ⟨rfl, by simp⟩
        · exact .inr ⟨⟨_, _, rfl⟩, by simp⟩) ?_
      with_reducible refine' wpAny_truthy_bool ?_
      refine ite_b (fun hb => ?_) (fun hb => ?_)
      ·
        replace hb := of_decide_eq_true hb
        obtain ⟨iw, tw, rfl, hiw⟩ : ∃ i t, lv = Value.int i t ∧ i ∈ p.wv := by
          rcases hlm with h | h
          · exact absurd h hb
          · exact h
        walk_at "ex"
        ((with_reducible refine' wpAny_Assign_Subscript ?_ ?kBRb); (case kBRb => exact rfl))
        with_reducible refine' Subscript_ ?_
        walk_at "nm"
        walk_at "nm"
        refine sub_ls (by walk_at "at") (by lia) hlv' ?_ (by lia)
        walk_at "ev"
        with_reducible refine' wpAny_BinOp ?_
        walk_at "nm"
        with_reducible refine' wpAny_BinOp ?_
        with_reducible refine' k_int ?_
        walk_at "nm"
        ((with_reducible refine' i_mul ?_ ?kBWb); (case kBWb => first | exact IntMulOk.of_right (by decide +kernel) | exact IntMulOk.of_left (by decide +kernel)))
        with_reducible refine' i_add ?_
        ((with_reducible refine' set_dI ?kBYa ?kBYb ?kBYc ?_); (case kBYa => assumption); (case kBYb => walk_at "upd"); (case kBYc => walk_at "sz")); intro h' S'
        walk_at "nx"
        walk_at "exn"
        walk_at "nx"
        walk_at "exn"
        first
         | (refine X' _ (?_) ((HW.setWin hiw).up (by lia)) _ _ _ (.inl rfl) (St.weak S' (by walk_at "lsub")); (have := len_stored wds (r.num + 4 * (0 + i' * 1)) (.int iw tw); lia))
         | (refine X' wds (by lia) (HW.up (by lia)) _ _ _ (.inl rfl) (St.weak S' (by walk_at "lsub")))
      ·
        replace hb := of_decide_eq_false hb
        walk_at "exn"
        walk_at "nx"
        walk_at "exn"
        first
         | (refine X' _ (?_) ((HW.setWin hiw).up (by lia)) _ _ _ (.inl rfl) (St.weak S' (by walk_at "lsub")); (have := len_stored wds (r.num + 4 * (0 + i' * 1)) (.int iw tw); lia))
         | (refine X' wds (by lia) (HW.up (by lia)) _ _ _ (.inl rfl) (St.weak S' (by walk_at "lsub")))
    case done =>
      rintro wds hwl HW h' t' S'
      walk_at "nx"
      walk_at "ex"
      with_reducible refine' wpAny_Return_some ?_
      ((with_reducible refine' call_def_node ?kFEa ?kFEb (GStep _) (PStep _) ?_ ?kFEf ?kFEg ?kFEh ?kFEi ?kFEj ?kFEk); (case kFEa | kFEb => assumption); (case kFEf | kFEg | kFEj | kFEk => exact rfl); (case kFEh | kFEi => kernel_rfl))
      walk_at "ac"
      with_reducible refine' k_str ?_
      walk_at "ac"
      ((with_reducible refine' k_neg ?_); intro _)
      walk_at "ac"
      with_reducible refine' ev_list ?_
      walk_at "ac"
      with_reducible refine' ev_tuple ?_
      walk_at "evl"
      ((with_reducible refine' new_tp ?kFFa ?_ ?kFFc); (case kFFa => assumption); (case kFFc => walk_at "sz")); intro ax h' S'
      walk_at "ac"
      with_reducible refine' ev_tuple ?_
      walk_at "evl"
      ((with_reducible refine' new_tp ?kFGa ?_ ?kFGc); (case kFGa => assumption); (case kFGc => walk_at "sz")); intro ay h' S'
      with_reducible refine' args_nil ?_
      ((with_reducible refine' new_ls ?kFHa ?_ ?kFHc); (case kFHa => assumption); (case kFHc => walk_at "sz")); intro al h' S'
      walk_at "ac"
      with_reducible refine' ev_tuple ?_
      walk_at "evl"
      ((with_reducible refine' new_tp ?kFIa ?_ ?kFIc); (case kFIa => assumption); (case kFIc => walk_at "sz")); intro a' h' S'
      with_reducible refine' args_nil ?_
      (refine ⟨St.base (by assumption), ?_⟩)
      refine mkStepL S' bs (room'.l (k := 0 + 2)) ?_
      intro g2 x' d2 tl h' tk' hl2 hx1 hx2 S'
      walk_at "cret"
      with_reducible refine' rt_ret ?_
      obtain ⟨g3, hl3, hfz, S3⟩ := S'.freezeAll hKD
      exact bk (Λx := []) S3 (fun S => q g3 _ _ _ _ _ _ _ _ _ _ _ _ (hl1.trans (hl1b.trans (hl2.trans hl3))) (.move hrr hrnr hrrf hrnrf hoctets) ⟨x', d2, al, _, _, tl, _, _, rfl, hx1.mono hl3, hx2.mono hl3, hfz (al, _) (by walk_at "memc"), .cons ⟨ax, _, _, rfl, hfz (ax, _) (by walk_at "memc")⟩ (.cons ⟨ay, _, _, rfl, hfz (ay, _) (by walk_at "memc")⟩ .nil), fun h => absurd h (show ¬ Str.ofString "move" = Str.ofString "slot" by decide)⟩ S ((HW.mono (hl2.trans hl3)).up (M := N + 4) (by lia)))
theorem ArgsOk.snoc {w : World} {g : Frz} {vs : List Value} {xs : List (Str × Int)} {v : Value} {x : Str × Int} (h : ArgsOk w g vs xs) (k : ArgOk w g v x) : ArgsOk w g (vs ++ [v]) (xs ++ [x]) := by
  induction h with
  | nil => exact .cons k .nil
  | cons h _ ih => exact .cons h ih
theorem IntsAre.snoc {vs : List Value} {ns : List Int} {n : Int} {t : Tok} (h : IntsAre vs ns) : IntsAre (vs ++ [.int n t]) (ns ++ [n]) := by
  induction h with
  | nil => exact .cons _ _ .nil
  | cons n t _ ih => exact .cons n t ih
theorem other_ {w : World} {A : Around} {E : Value → Shared → Prop} {s : Shared} {hp : Heap} {tk : Nat} {K : Ent} {L : Addr} {m : Loc} {g : Frz} {Γ : List (Addr × Cell)} {n : Nat} {Q : Value → Shared → Prop} {a : HA} {sz : List Int} {wc : Cell} {regs words : List (Int × Value)} {seen : List Value} {out : List (Int × Value)} {N : Nat} {p : PS} {tm tn : Tok} {asp : Addr}
    (S : St w K L m g (hs a wc regs p.many tm p.next tn words seen out asp ++ Γ) hp) (bs : Bs w K.B) (H : HOk w g a sz wc regs words seen out N p) (hN : N < 50) (hR : ∃ k, (p.R k).isSome = true) (room : Room A (n + 5)) {way : Int} {tw : Tok}
    (q : ∀ g' h' wc' regs' tm' tn' words' seen' out' v row p' tk, g.le g' → Stp sz.length p row p' → RowOk w g' v row → St w K L m g' (hs a wc' regs' p'.many tm' p'.next tn' words' seen' out' asp ++ Γ) h' → HOk w g' a sz wc' regs' words' seen' out' (N + 4) p' → Q v (sh s h' tk)) :
    wpAny (model PG w) A (call (.ref 242) [.ref a.aw, .ref a.ah, .int way tw]) Q E (sh s hp tk) := by
  refine call_fnC (hs a wc regs p.many tm p.next tn words seen out asp) [("way", .int way tw), ("house", .ref a.ah)] [("every", none), ("well", some (.ref a.aw))] S bs room (by rfl) (by kernel_rfl) (by rfl) (by kernel_rfl) (by decide) (fun _ => by walk_at "lkf") (fun _ => by rfl) ?_ rfl rfl rfl
  intro L' h₁ tk' cl' Λ' A' K' Pp hCA hK room' bk S'
  have bs : Bs w K'.B := by rw [hK]; exact bs
  have hKD : K'.D = (hs a wc regs p.many tm p.next tn words seen out asp).map (·.1) := by rw [hK]
  obtain _ | hCA := hCA
  obtain _ | hCA := hCA
  cases hCA
  have hb1 := H.b1; have hb2 := H.b2; have hb3 := H.b3; have hb4 := H.b4; have hszl := H.szl
  walk_at "ex"
  ((with_reducible refine' wpAny_Assign_Name ?_ ?kFJb); (case kFJb => first | exact rfl | kernel_rfl))
  ((with_reducible refine' call_bi_node ?kBa ?kBb (Nsorted _) Bsorted ?kBe ?_ ?kBg ?kBh ?kBi ?kBj ?kBk ?kBl ?kBm); (case kBa | kBb => assumption); (case kBe => decide); (case kBg | kBh | kBi | kBl | kBm => exact rfl); (case kBj | kBk => kernel_rfl))
  walk_at "evl"
  have hrz : 0 < regs.length := by
    obtain ⟨k, hk⟩ := hR
    rw [← H.rk] at hk
    cases regs with
    | nil => simp [valueAt] at hk
    | cons x r => simp
  ((with_reducible refine' sorted_dI ?kCa ?kCb ?kCc ?kCd ?kCe ?_); (case kCa => assumption); (case kCb => walk_at "at"); (case kCc => walk_at "ns"); (case kCd => exact Room.hh (by assumption)); (case kCe => lia)); intro a' h' t' vs' S' hl' hv' hs'
  have hl2 : 0 < vs'.length := by lia
  walk_at "st"; intro h' t' S'
  walk_at "nx"
  walk_at "ex"
  refine cutG (T := fun R => ∀ g1, ∀ rga, ∀ nm, ∀ nt, ∀ vs, ∀ cs, ∀ wc1, g.le g1 → Well w g1 wc1 → At w g1 rga (.lx vs) → IntsAre vs cs → (∀ c ∈ cs, (p.R c).isSome = true) → cs.length ≤ 2 → ((way = 7 ∧ nm = ("call" : Str) ∨ way ≠ 7 ∧ (nm = ("sub" : Str) ∨ nm = ("eq" : Str)))) → R (([("way", .int way tw), ("house", .ref a.ah), ("registers", .ref rga), ("doing", .str nm nt)] : Loc)) g1 (hs a wc1 regs p.many tm p.next tn words seen out asp)) S' ?cutA ?cutB
  case cutA =>
    intro P9 hR9
    with_reducible refine' wpAny_If ?_
    ((with_reducible refine' evb_ ?kFKa ?kFKb ?_ ?kFKd ?kFKe); (case kFKa => assumption); (case kFKb => walk_at "eec"); (case kFKd | kFKe => exact rfl))
    refine ite_b (fun hb => ?_) (fun hb => ?_)
    ·
      replace hb := eq_of_beq hb
      have hw7 := hb
      walk_at "ex"
      (first | ((with_reducible refine' Assign_Tuple ?_ ?kEb ?kEc); (case kEb | kEc => exact rfl)) | ((with_reducible refine' Assign_Tuple_swapped ?_ ?kEb ?kEc); (case kEb | kEc => exact rfl)))
      with_reducible refine' ev_tuple ?_
      walk_at "ac"
      ((with_reducible refine' comp_ex ?_ ?kGb ?kGc ?kGd ?kGe); (case kGb => intro _; rfl); (case kGc | kGd => exact rfl); (case kGe => decide))
      ((with_reducible refine' call_ty_node ?kHa ?kHb (Nrange _) Brange ?kHe ?_ ?kHg ?kHh ?kHi ?kHj ?kHk ?kHl ?kHm); (case kHa | kHb => assumption); (case kHe => decide); (case kHg | kHh | kHi | kHl | kHm => exact rfl); (case kHj | kHk => kernel_rfl))
      walk_at "ac"
      ((with_reducible refine' call_def_node ?kIa ?kIb (G_law_draw _) (P_law_draw _) ?_ ?kIf ?kIg ?kIh ?kIi ?kIj ?kIk); (case kIa | kIb => assumption); (case kIf | kIg | kIj | kIk => exact rfl); (case kIh | kIi => kernel_rfl))
      walk_at "evl"
      (refine ⟨St.base (by assumption), ?_⟩)
      refine drawH S' bs (room'.l (k := 0 + 1)) H.well (by lia) ?_
      intro h' wc' dr tr tk' S' hw' hr0 hr1
      replace H := H.withWell hw'
      with_reducible refine' args_nil ?_
      ((with_reducible refine' rng1 ?kLa ?_); (case kLa => assumption)); intro r' h' t' S'
      refine iter_rg (n := dr.toNat) S' (by walk_at "at") (range_n hr0) (by rcases (show dr = 0 ∨ dr = 1 ∨ dr = 2 by lia) with h | h | h <;> rw [h] <;> decide) ?_; intro it' h' S'
      ((with_reducible refine' new_ls ?kFLa ?_ ?kFLc); (case kFLa => assumption); (case kFLc => walk_at "sz")); intro rga h' S'
      refine comp_TD (T := fun i vs R => ∀ wc1, Well w g wc1 → vs.length = i → ∀ cs, IntsAre vs cs → (∀ c ∈ cs, (p.R c).isSome = true) → R g (hs a wc1 regs p.many tm p.next tn words seen out asp)) (src_rg (by exact Room.hh (by assumption)) it' 0 1 dr.toNat) S' ?hn (fun i vs R H x0 x1 x2 x3 x4 x5 => H _ _ fun R9 k9 => k9 x0 x1 x2 x3 x4 x5) ?j0 ?ok ?keys (fun _ => rfl) ?step ?done (by decide) rfl
      case hn =>
        lia
      case j0 =>
        exact fun R9 k9 => k9 wc' H.well rfl [] .nil (fun c h => by simp at h)
      case ok => intro K2 C i vs; intros; intro _ _ _; trivial
      case keys =>
        rintro i vs _ _ h _ _ _; exact ⟨rfl, Nat.le_of_eq h⟩
      case step =>
        rintro K2 C' i' v' vs' PE PF hK2 hi' hx' XE XF wc1 hwl hln cs hcsI hcsr h' t' S'
        have bs : Bs w K2.B := by rw [hK2]; exact bs
        obtain ⟨t9, rfl⟩ := hx'
        with_reducible refine' assign_Name ?_
        walk_at "st"; intro h' t' S'
        with_reducible refine' if0 ?_
        with_reducible refine' ite_t ?_
        ((with_reducible refine' call_def_node ?kFMa ?kFMb (G_law_pick _) (P_law_pick _) ?_ ?kFMf ?kFMg ?kFMh ?kFMi ?kFMj ?kFMk); (case kFMa | kFMb => assumption); (case kFMf | kFMg | kFMj | kFMk => exact rfl); (case kFMh | kFMi => kernel_rfl))
        walk_at "evl"
        (refine ⟨St.base (by assumption), ?_⟩)
        refine pickH S' bs (room'.l (k := 0 + 2)) hwl (.inr (.inl (by walk_at "memc"))) hl2 (by lia) ?_
        intro h' wc2 fv tk' S' hw' hfv
        obtain ⟨f, tf, rfl, hkkf⟩ := hv' fv hfv
        rw [H.rk] at hkkf
        refine XE _ wc2 hw' (by simp [hln]) (cs ++ [f]) (IntsAre.snoc hcsI) (fun c hc => ?_) _ _ _ S'
        rcases List.mem_append.mp hc with hc | hc
        · exact hcsr c hc
        · cases List.mem_singleton.mp hc; exact hkkf
      case done =>
        rintro vs' wc' hwl hln cs hcsI hcsr h' t' hgl' S'
        replace H := H.withWell hwl
        have hcs2 : cs.length ≤ 2 := by have := (intsAre_nd hcsI).1; lia
        walk_at "evl"
        ((with_reducible refine' new_tp ?kFNa ?_ ?kFNc); (case kFNa => assumption); (case kFNc => walk_at "sz")); intro a' h' S'
        walk_at "unp"; intro h' S'
        (refine assignInOrder_cons ?_)
        (first | ((with_reducible refine' assign_Name ?_)) | ((with_reducible refine' bindName_ ?_)))
        walk_at "st"; intro h' t' S'
        (refine assignInOrder_cons ?_)
        (first | ((with_reducible refine' assign_Name ?_)) | ((with_reducible refine' bindName_ ?_)))
        walk_at "st"; intro h' t' S'
        (refine assignInOrder_nil ?_)
        walk_at "nx"
        walk_at "exn"
        obtain ⟨gr, hlr, hrg, S'⟩ := S'.freezeL (S'.freshL hKD (List.Mem.head _))
        replace S' := S'.drop
        exact hR9 _ rga _ _ _ cs _ hlr ((H.mono hlr).well) hrg hcsI hcsr hcs2 (.inl ⟨hw7, rfl⟩) _ _ (St.weak S' (by walk_at "lsub"))
    ·
      replace hb := ne_of_beq_false hb
      have hw7 := hb
      walk_at "ex"
      (first | ((with_reducible refine' Assign_Tuple ?_ ?kTb ?kTc); (case kTb | kTc => exact rfl)) | ((with_reducible refine' Assign_Tuple_swapped ?_ ?kTb ?kTc); (case kTb | kTc => exact rfl)))
      with_reducible refine' ev_tuple ?_
      walk_at "ac"
      with_reducible refine' ev_list ?_
      walk_at "ac"
      ((with_reducible refine' call_def_node ?kFQa ?kFQb (G_law_pick _) (P_law_pick _) ?_ ?kFQf ?kFQg ?kFQh ?kFQi ?kFQj ?kFQk); (case kFQa | kFQb => assumption); (case kFQf | kFQg | kFQj | kFQk => exact rfl); (case kFQh | kFQi => kernel_rfl))
      walk_at "evl"
      (refine ⟨St.base (by assumption), ?_⟩)
      refine pickH S' bs (room'.l (k := 0 + 2)) H.well (.inr (.inl (by walk_at "memc"))) hl2 (by lia) ?_
      intro h' wc' fv tk' S' hw' hfv
      obtain ⟨f1, tf1, rfl, hkkf1⟩ := hv' fv hfv
      replace H := H.withWell hw'
      rw [H.rk] at hkkf1
      walk_at "ac"
      ((with_reducible refine' call_def_node ?kFRa ?kFRb (G_law_pick _) (P_law_pick _) ?_ ?kFRf ?kFRg ?kFRh ?kFRi ?kFRj ?kFRk); (case kFRa | kFRb => assumption); (case kFRf | kFRg | kFRj | kFRk => exact rfl); (case kFRh | kFRi => kernel_rfl))
      walk_at "evl"
      (refine ⟨St.base (by assumption), ?_⟩)
      refine pickH S' bs (room'.l (k := 0 + 2)) H.well (.inr (.inl (by walk_at "memc"))) hl2 (by lia) ?_
      intro h' wc' fv tk' S' hw' hfv
      obtain ⟨f2, tf2, rfl, hkkf2⟩ := hv' fv hfv
      replace H := H.withWell hw'
      rw [H.rk] at hkkf2
      with_reducible refine' args_nil ?_
      ((with_reducible refine' new_ls ?kFSa ?_ ?kFSc); (case kFSa => assumption); (case kFSc => walk_at "sz")); intro rga h' S'
      obtain ⟨gr, hlr, hrg, S'⟩ := S'.freezeL (S'.freshL hKD (List.Mem.head _))
      replace H := H.mono hlr
      walk_at "ac"
      ((with_reducible refine' call_def_node ?kFTa ?kFTb (G_law_pick _) (P_law_pick _) ?_ ?kFTf ?kFTg ?kFTh ?kFTi ?kFTj ?kFTk); (case kFTa | kFTb => assumption); (case kFTf | kFTg | kFTj | kFTk => exact rfl); (case kFTh | kFTi => kernel_rfl))
      walk_at "ac"
      walk_at "nm"
      walk_at "ac"
      with_reducible refine' ev_list ?_
      walk_at "evl"
      ((with_reducible refine' new_ls ?kFUa ?_ ?kFUc); (case kFUa => assumption); (case kFUc => walk_at "sz")); intro a' h' S'
      with_reducible refine' args_nil ?_
      (refine ⟨St.base (by assumption), ?_⟩)
      refine pickD S' bs (room'.l (k := 0 + 2)) H.well (by simp) (by simp) ?_
      intro h' wc' nv tk' S' hw' hnv
      replace H := H.withWell hw'
      with_reducible refine absG fun G9 k9 => ?_
      obtain ⟨nm, nt, rfl, hnm⟩ : ∃ nm t, nv = Value.str nm t ∧ (nm = "sub" ∨ nm = "eq") := by
        simp only [List.mem_cons, List.not_mem_nil, or_false] at hnv
        rcases hnv with e | e
        · exact ⟨_, _, e, .inl rfl⟩
        · exact ⟨_, _, e, .inr rfl⟩
      obtain ⟨cs, hcsI, hcsr, hcs2⟩ : ∃ cs, IntsAre [Value.int f1 tf1, Value.int f2 tf2] cs ∧ (∀ c ∈ cs, (p.R c).isSome = true) ∧ cs.length ≤ 2 := ⟨[f1, f2], .cons _ tf1 (.cons _ tf2 .nil), fun c hc => by
        rcases List.mem_cons.mp hc with rfl | hc
        · exact hkkf1
        · cases List.mem_singleton.mp hc; exact hkkf2, by simp⟩
      with_reducible refine k9 ?_
      with_reducible refine' args_nil ?_
      ((with_reducible refine' new_tp ?kFVa ?_ ?kFVc); (case kFVa => assumption); (case kFVc => walk_at "sz")); intro a' h' S'
      walk_at "unp"; intro h' S'
      (refine assignInOrder_cons ?_)
      (first | ((with_reducible refine' assign_Name ?_)) | ((with_reducible refine' bindName_ ?_)))
      walk_at "st"; intro h' t' S'
      (refine assignInOrder_cons ?_)
      (first | ((with_reducible refine' assign_Name ?_)) | ((with_reducible refine' bindName_ ?_)))
      walk_at "st"; intro h' t' S'
      (refine assignInOrder_nil ?_)
      walk_at "nx"
      walk_at "exn"
      exact hR9 _ rga _ _ _ cs _ hlr H.well hrg hcsI hcsr hcs2 (.inr ⟨hw7, hnm⟩) _ _ (St.weak S' (by walk_at "lsub"))
  case cutB =>
    rintro gA rga nm nt vsr cs wc' hlr hwl hrg hcsI hcsr hcs2 hwn h' t' S'
    replace H := (H.mono hlr).withWell hwl
    walk_at "nx"
    walk_at "ex"
    ((with_reducible refine' wpAny_Expr_any ?_ ?kBGb ?kBGc); (case kBGb | kBGc => exact rfl))
    ((with_reducible refine' call_def_node ?kBHa ?kBHb (G_law_handed _) (P_law_handed _) ?_ ?kBHf ?kBHg ?kBHh ?kBHi ?kBHj ?kBHk); (case kBHa | kBHb => assumption); (case kBHf | kBHg | kBHj | kBHk => exact rfl); (case kBHh | kBHi => kernel_rfl))
    walk_at "evl"
    (refine ⟨St.base (by assumption), ?_⟩)
    refine handed_ S' bs H (by lia) (room'.l (k := 0 + 1)) (cs := cs) (.inr (.inr hrg)) hcsI hcsr (by lia) ?_
    intro h' out1 tk' S' H
    replace H := H.up (M := N + 2) (by lia)
    walk_at "nx"
    walk_at "ex"
    refine cutG (T := fun R => ∀ c, ∀ tc, ∀ p1, ∀ wc1, ∀ tn1, HOk w gA a sz wc1 regs words seen out1 (N + 2) p1 → ((way = 7 ∧ c = -1 ∧ p1 = p.hand cs ∨ Goal (p.hand cs) c p1)) → R (([("way", .int way tw), ("house", .ref a.ah), ("registers", .ref rga), ("doing", .str nm nt), ("goal", .int c tc)] : Loc)) gA (hs a wc1 regs p1.many tm p1.next tn1 words seen out1 asp)) S' ?cutA ?cutB
    case cutA =>
      intro P9 hR9
      ((with_reducible refine' wpAny_Assign_Name ?_ ?kFYb); (case kFYb => first | exact rfl | kernel_rfl))
      with_reducible refine' wpAny_IfExp ?_
      with_reducible refine' isTrue_and ?_
      ((with_reducible refine' evb_ ?kFZa ?kFZb ?_ ?kFZd ?kFZe); (case kFZa => assumption); (case kFZb => walk_at "eec"); (case kFZd | kFZe => exact rfl))
      refine ite_b (fun hb => ?_) (fun hb => ?_)
      ·
        replace hb := eq_of_beq hb
        have hw7 := hb
        with_reducible refine' isTrue_and ?_
        ((with_reducible refine' wpAny_isTrue_Compare1 ?_ ?kGAb); (case kGAb => with_unfolding_all rfl))
        ((with_reducible refine' call_def_node ?kBMa ?kBMb (G_law_draw _) (P_law_draw _) ?_ ?kBMf ?kBMg ?kBMh ?kBMi ?kBMj ?kBMk); (case kBMa | kBMb => assumption); (case kBMf | kBMg | kBMj | kBMk => exact rfl); (case kBMh | kBMi => kernel_rfl))
        walk_at "evl"
        (refine ⟨St.base (by assumption), ?_⟩)
        refine drawH S' bs (room'.l (k := 0 + 1)) H.well (by lia) ?_
        intro h' wc' d2r tr tk' S' hw' hr0 hr1
        replace H := H.withWell hw'
        with_reducible refine' k_int ?_
        (first | ((with_reducible refine' PySem.P.eq_int ?_)) | ((with_reducible refine' PySem.P.eq_str ?_)) | ((with_reducible refine' eq_bool ?_)))
        with_reducible refine' wpAny_truthy_bool ?_
        refine ite_b (fun hb => ?_) (fun hb => ?_)
        ·
          replace hb := eq_of_beq hb
          with_reducible refine' isTrue_and_nil ?_
          with_reducible refine' ite_t ?_
          ((with_reducible refine' k_neg ?_); intro _)
          walk_at "st"; intro h' t' S'
          exact hR9 _ _ (p.hand cs) _ _ H (.inl ⟨hw7, rfl, rfl⟩) _ _ (St.weak S' (by walk_at "lsub"))
        ·
          replace hb := ne_of_beq_false hb
          with_reducible refine' ite_f ?_
          ((with_reducible refine' call_def_node ?kBUa ?kBUb (G_law_goal _) (P_law_goal _) ?_ ?kBUf ?kBUg ?kBUh ?kBUi ?kBUj ?kBUk); (case kBUa | kBUb => assumption); (case kBUf | kBUg | kBUj | kBUk => exact rfl); (case kBUh | kBUi => kernel_rfl))
          walk_at "evl"
          (refine ⟨St.base (by assumption), ?_⟩)
          refine goal_ (p := p.hand cs) S' bs H (by lia) (room'.l (k := 0 + 3)) ?_
          intro h' wc' tn' c tc p1 tk' hgoal S' H
          walk_at "st"; intro h' t' S'
          exact hR9 _ _ p1 _ _ H (.inr hgoal) _ _ (St.weak S' (by walk_at "lsub"))
      ·
        replace hb := ne_of_beq_false hb
        have hw7 := hb
        with_reducible refine' ite_f ?_
        ((with_reducible refine' call_def_node ?kBXa ?kBXb (G_law_goal _) (P_law_goal _) ?_ ?kBXf ?kBXg ?kBXh ?kBXi ?kBXj ?kBXk); (case kBXa | kBXb => assumption); (case kBXf | kBXg | kBXj | kBXk => exact rfl); (case kBXh | kBXi => kernel_rfl))
        walk_at "evl"
        (refine ⟨St.base (by assumption), ?_⟩)
        refine goal_ (p := p.hand cs) S' bs H (by lia) (room'.l (k := 0 + 3)) ?_
        intro h' wc' tn' c tc p1 tk' hgoal S' H
        walk_at "st"; intro h' t' S'
        exact hR9 _ _ p1 _ _ H (.inr hgoal) _ _ (St.weak S' (by walk_at "lsub"))
    case cutB =>
      rintro c tc p1 wc' tn' H hgoal h' t' S'
      walk_at "nx"
      walk_at "ex"
      refine cutG (T := fun R => ∀ g3, ∀ regs2, ∀ tm2, ∀ p2, gA.le g3 → HOk w g3 a sz wc' regs2 words seen out1 (N + 4) p2 → ((c = -1 ∧ p2 = p.hand cs ∨ ∃ p1, Goal (p.hand cs) c p1 ∧ (0 ≤ c ∧ p2 = { p1 with many := p1.many + 1 }.set c ⟨7, .v (p1.many + 1), 0⟩ ∨ c < 0 ∧ p2 = p1))) → R (([("way", .int way tw), ("house", .ref a.ah), ("registers", .ref rga), ("doing", .str nm nt), ("goal", .int c tc)] : Loc)) g3 (hs a wc' regs2 p2.many tm2 p2.next tn' words seen out1 asp)) S' ?cutA ?cutB
      case cutA =>
        intro P9 hR9
        with_reducible refine' wpAny_If ?_
        ((with_reducible refine' evb_ ?kGCa ?kGCb ?_ ?kGCd ?kGCe); (case kGCa => assumption); (case kGCb => walk_at "eec"); (case kGCd | kGCe => exact rfl))
        refine ite_b (fun hb => ?_) (fun hb => ?_)
        ·
          replace hb := of_decide_eq_true hb
          walk_at "ex"
          ((with_reducible refine' wpAny_Assign_Subscript ?_ ?kCAb); (case kCAb => exact rfl))
          ((with_reducible refine' call_def_node ?kCBa ?kCBb (G_law_fresh _) (P_law_fresh _) ?_ ?kCBf ?kCBg ?kCBh ?kCBi ?kCBj ?kCBk); (case kCBa | kCBb => assumption); (case kCBf | kCBg | kCBj | kCBk => exact rfl); (case kCBh | kCBi => kernel_rfl))
          walk_at "evl"
          (refine ⟨St.base (by assumption), ?_⟩)
          have hb0 := hb
          have hgoal1 := hgoal.elim (fun z => absurd z.2.1 (by lia)) id
          refine fresh_ (p := p1) S' bs H (room'.l (k := 0 + 1)) ?_
          intro gf h' tmf vf tk' hlf S' hvreg H
          walk_at "ev"
          walk_at "nm"
          have hbr := H.b1
          ((with_reducible refine' set_dI ?kCDa ?kCDb ?kCDc ?_); (case kCDa => assumption); (case kCDb => walk_at "upd"); (case kCDc => walk_at "sz")); intro h' S'
          walk_at "nx"
          walk_at "exn"
          exact hR9 _ _ _ _ hlf ((H.setReg (c := c) hvreg).up (by lia)) (.inr ⟨p1, hgoal1, .inl ⟨hb0, rfl⟩⟩) _ _ (St.weak S' (by walk_at "lsub"))
        ·
          replace hb := of_decide_eq_false hb
          walk_at "exn"
          exact hR9 _ _ _ p1 Frz.le.refl (H.up (by lia)) (hgoal.elim (fun z => .inl ⟨z.2.1, z.2.2⟩) fun z => .inr ⟨p1, z, .inr ⟨by lia, rfl⟩⟩) _ _ (St.weak S' (by walk_at "lsub"))
      case cutB =>
        rintro gC regs2 tm2 p2 hlC H hp2 h' t' S'
        replace hrg := hrg.mono hlC
        walk_at "nx"
        walk_at "ex"
        with_reducible refine' wpAny_Return_some ?_
        ((with_reducible refine' call_def_node ?kGDa ?kGDb (GStep _) (PStep _) ?_ ?kGDf ?kGDg ?kGDh ?kGDi ?kGDj ?kGDk); (case kGDa | kGDb => assumption); (case kGDf | kGDg | kGDj | kGDk => exact rfl); (case kGDh | kGDi => kernel_rfl))
        walk_at "ac"
        walk_at "nm"
        walk_at "ac"
        walk_at "nm"
        walk_at "ac"
        ((with_reducible refine' comp_ex ?_ ?kCFb ?kCFc ?kCFd ?kCFe); (case kCFb => intro _; rfl); (case kCFc | kCFd => exact rfl); (case kCFe => decide))
        walk_at "nm"
        ((with_reducible refine' iter_ls ?kCGa ?kCGb ?_); (case kCGa => assumption); (case kCGb => walk_at "at")); intro it' h' S'
        ((with_reducible refine' new_ls ?kGEa ?_ ?kGEc); (case kGEa => assumption); (case kGEc => walk_at "sz")); intro ac2 h' S'
        refine comp_TF (T := fun i vs R => ∀ g₁, vs.length = i → ArgsOk w g₁ vs ((cs.take i).map fun e => ("r", e)) → R g₁) (src_ls (by exact Room.hh (by assumption)) it' rga vsr) S' ?hn (fun i vs R H x0 x1 x9 => H _ fun R9 k9 => k9 x0 x1 x9) ?j0 ?ok ?keys (fun _ => rfl) ?step ?done (by decide) rfl
        case hn =>
          have := (intsAre_nd hcsI).1; lia
        case j0 =>
          exact fun R9 k9 => k9 _ rfl .nil
        case ok =>
          rintro K2 C i vs g₁ _ _ h₁ hgl S; exact (S.fz (hrg.mono hgl)).lx
        case keys =>
          intro i vs; intros; first | assumption | (apply Nat.le_of_eq; assumption) | (subst_vars; simp; done) | (rename_i h; rw [h, List.length_map, List.length_take]; exact Nat.min_le_left _ _)
        case step =>
          rintro K2 C' i' v' vs' PE PF hK2 hi' hx' XE XF g' hln2 hargs h' t' S'
          have bs : Bs w K2.B := by rw [hK2]; exact bs
          obtain ⟨tc9, hic, rfl⟩ := (intsAre_nd hcsI).2 _ _ hx'
          with_reducible refine' assign_Name ?_
          walk_at "st"; intro h' t' S'
          with_reducible refine' if0 ?_
          with_reducible refine' ite_t ?_
          with_reducible refine' ev_tuple ?_
          walk_at "evl"
          ((with_reducible refine' new_tpF ?kCLa ?_ ?kCLc); (case kCLa => assumption); (case kCLc => walk_at "sz")); intro an gn h' hlan hatn S'
          refine XE _ _ (by simp [hln2]) (?_) _ _ _ S'
          rw [← List.take_append_getElem hic, List.map_append]
          exact (hargs.mono hlan).snoc ⟨an, _, _, rfl, hatn⟩
        case done =>
          rintro vs' g' hln2 hargs h' t' hgl' S'
          have hla := hgl'
          rw [List.take_of_length_le (by have := (intsAre_nd hcsI).1; lia)] at hargs
          walk_at "ac"
          refine cutV ?cutA ?cutB
          case cutA =>
            intro P9 hR9
            with_reducible refine' wpAny_IfExp ?_
            ((with_reducible refine' evb_ ?kGFa ?kGFb ?_ ?kGFd ?kGFe); (case kGFa => assumption); (case kGFb => walk_at "eec"); (case kGFd | kGFe => exact rfl))
            refine ite_b (fun hb => ?_) (fun hb => ?_)
            ·
              replace hb := eq_of_beq hb
              have hw7 := hb
              with_reducible refine' k_str ?_
              exact hR9 _ _
            ·
              replace hb := ne_of_beq_false hb
              have hw7 := hb
              with_reducible refine' k_int ?_
              exact hR9 _ _
          case cutB =>
            intro mv9 t'
            with_reducible refine' args_nil ?_
            (refine ⟨St.base (by assumption), ?_⟩)
            refine mkStepL S' bs (room'.l (k := 0 + 2)) ?_
            intro g2 x' d2 tl h' tk' hl2 hx1 hx2 S'
            walk_at "cret"
            with_reducible refine' rt_ret ?_
            obtain ⟨g3, hl3, hfz, S3⟩ := S'.freezeAll hKD
            have hopn : ¬ nm = "slot" := by
              rcases hwn with ⟨_, rfl⟩ | ⟨_, rfl | rfl⟩
              · exact (show ¬ Str.ofString "call" = Str.ofString "slot" by decide)
              · exact (show ¬ Str.ofString "sub" = Str.ofString "slot" by decide)
              · exact (show ¬ Str.ofString "eq" = Str.ofString "slot" by decide)
            exact bk (Λx := []) S3 (fun S => q g3 _ _ _ _ _ _ _ _ _ _ _ _ (hlr.trans (hlC.trans (hla.trans (hl2.trans hl3)))) (.other (hwn.elim (fun z => .inl z.2) fun z => .inr z.2) hcs2 hcsr hp2) ⟨x', d2, ac2, _, _, tl, _, _, rfl, hx1.mono hl3, hx2.mono hl3, hfz (ac2, _) (by walk_at "memc"), hargs.mono (hl2.trans hl3), fun h => absurd h hopn⟩ S (H.mono (hla.trans (hl2.trans hl3))))
theorem done_ {w : World} {A : Around} {E : Value → Shared → Prop} {s : Shared} {hp : Heap} {tk : Nat} {K : Ent} {L : Addr} {m : Loc} {g : Frz} {Γ : List (Addr × Cell)} {n : Nat} {Q : Value → Shared → Prop} {a : HA} {sz : List Int} {wc : Cell} {regs words : List (Int × Value)} {seen : List Value} {out : List (Int × Value)} {N : Nat} {p : PS} {tm tn : Tok} {asp : Addr}
    (S : St w K L m g (hs a wc regs p.many tm p.next tn words seen out asp ++ Γ) hp) (bs : Bs w K.B) (H : HOk w g a sz wc regs words seen out N p) (hN : N < 50) (hR : ∃ k, (p.R k).isSome = true) (room : Room A (n + 7)) 
    (q : ∀ g' h' wc' regs' tm' tn' words' seen' out' asp' v row p' tk, g.le g' → Stp sz.length p row p' → RowOk w g' v row → St w K L m g' (hs a wc' regs' p'.many tm' p'.next tn' words' seen' out' asp' ++ Γ) h' → HOk w g' a sz wc' regs' words' seen' out' (N + 4) p' → Q v (sh s h' tk)) :
    wpAny (model PG w) A (call (.ref 247) [.ref a.aw, .ref a.ah]) Q E (sh s hp tk) := by
  refine call_fnC (hs a wc regs p.many tm p.next tn words seen out asp) [("well", .ref a.aw)] [("house", some (.ref a.ah))] S bs room (by rfl) (by kernel_rfl) (by rfl) (by kernel_rfl) (by decide) (fun _ => by walk_at "lkf") (fun _ => by rfl) ?_ rfl rfl rfl
  intro L' h₁ tk' cl' Λ' A' K' Pp hCA hK room' bk S'
  have bs : Bs w K'.B := by rw [hK]; exact bs
  have hKD : K'.D = (hs a wc regs p.many tm p.next tn words seen out asp).map (·.1) := by rw [hK]
  obtain _ | hCA := hCA
  cases hCA
  have hb1 := H.b1; have hb2 := H.b2; have hb3 := H.b3; have hb4 := H.b4; have hszl := H.szl
  walk_at "ex"
  ((with_reducible refine' wpAny_Assign_Subscript ?_ ?kBb); (case kBb => exact rfl))
  ((with_reducible refine' comp_ex ?_ ?kCb ?kCc ?kCd ?kCe); (case kCb => intro _; rfl); (case kCc | kCd => exact rfl); (case kCe => decide))
  ((with_reducible refine' call_bi_node ?kDa ?kDb (Nsorted _) Bsorted ?kDe ?_ ?kDg ?kDh ?kDi ?kDj ?kDk ?kDl ?kDm); (case kDa | kDb => assumption); (case kDe => decide); (case kDg | kDh | kDi | kDl | kDm => exact rfl); (case kDj | kDk => kernel_rfl))
  walk_at "evl"
  ((with_reducible refine' sorted_dI ?kEa ?kEb ?kEc ?kEd ?kEe ?_); (case kEa => assumption); (case kEb => walk_at "at"); (case kEc => walk_at "ns"); (case kEd => exact Room.hh (by assumption)); (case kEe => lia)); intro a' h' t' vs' S' hl' hv' hs'
  ((with_reducible refine' iter_ls ?kFa ?kFb ?_); (case kFa => assumption); (case kFb => walk_at "at")); intro it' h' S'
  ((with_reducible refine' new_ls ?kGGa ?_ ?kGGc); (case kGGa => assumption); (case kGGc => walk_at "sz")); intro aspn h' S'
  refine comp_TF (T := fun i vs R => vs.length ≤ i → (∀ v ∈ vs, ∃ e t, v = Value.int e t ∧ ∃ r, p.R e = some r ∧ 4096 ≤ r.num) → R g) (src_ls (by exact Room.hh (by assumption)) it' a' vs') S' ?hn (fun i vs R H x0 x1 => H _ fun R9 k9 => k9 x0 x1) ?j0 ?ok ?keys (fun _ => rfl) ?step ?done (by decide) rfl
  case hn =>
    lia
  case j0 =>
    exact fun R9 k9 => k9 (Nat.le_refl _) (fun v h => by simp at h)
  case ok =>
    rintro K2 C i vs _ _ h₁ hgl S; walk_at "at"
  case keys =>
    intro i vs; intros; first | assumption | (apply Nat.le_of_eq; assumption) | (subst_vars; simp; done) | (rename_i h; rw [h, List.length_map, List.length_take]; exact Nat.min_le_left _ _)
  case step =>
    rintro K2 C' i' v' vs' PE PF hK2 hi' hx' XE XF hln hvs h' t' S'
    have bs : Bs w K2.B := by rw [hK2]; exact bs
    with_reducible refine absG fun G9 k9 => ?_
    obtain ⟨k0, tk0, rfl, hk0⟩ := hv' _ (List.mem_of_getElem? hx')
    rw [H.rk] at hk0
    obtain ⟨r, hr⟩ := Option.isSome_iff_exists.mp hk0
    obtain ⟨rv, hrv, ar, t1, t2, gv, rfl, hat, gc, tg1, tg2, rfl, hgr⟩ := H.reg hr
    with_reducible refine k9 ?_
    with_reducible refine' assign_Name ?_
    walk_at "st"; intro h' t' S'
    with_reducible refine' if1 ?_
    ((with_reducible refine' wpAny_isTrue_Compare1 ?_ ?kGHb); (case kGHb => with_unfolding_all rfl))
    with_reducible refine' Subscript_ ?_
    with_reducible refine' Subscript_ ?_
    walk_at "ev"
    walk_at "nm"
    refine sub_dI (by walk_at "at") hrv ?_
    with_reducible refine' k_int ?_
    walk_at "tail"
    with_reducible refine' k_int ?_
    (first | ((with_reducible refine' PySem.P.ge_int ?_)))
    with_reducible refine' wpAny_truthy_bool ?_
    refine ite_b (fun hb => ?_) (fun hb => ?_)
    ·
      replace hb := of_decide_eq_true hb
      walk_at "nm"
      refine XE _ (by simp; lia) (fun v hv => ?_) _ _ _ S'
      rcases List.mem_append.mp hv with hv | hv
      · exact hvs v hv
      · cases List.mem_singleton.mp hv; exact ⟨_, _, rfl, r, hr, hb⟩
    ·
      replace hb := of_decide_eq_false hb
      exact XF (by lia) hvs _ _ _ S'
  case done =>
    rintro vs' hln hvs h' t' hgl' S'
    with_reducible refine absG fun G9 k9 => ?_
    obtain ⟨gs, hls, hatsp, S'⟩ := S'.freezeL (S'.freshL hKD (List.Mem.head _))
    replace H := H.mono hls
    obtain ⟨es, hesI, hesr⟩ := intsAre_of hvs
    with_reducible refine k9 ?_
    have hsp : SpotsOk w gs aspn p vs'.length := ⟨vs', es, hatsp, hesI, rfl, by lia, hesr⟩
    walk_at "nm"
    with_reducible refine' k_str ?_
    ((with_reducible refine' set_dS ?kOa ?kOb ?kOc ?kOd ?_); (case kOa => assumption); (case kOb => walk_at "upd"); (case kOc => walk_at "lset"); (case kOd => walk_at "sz")); intro h' S'
    walk_at "nx"
    walk_at "ex"
    ((with_reducible refine' wpAny_Assign_Name ?_ ?kGJb); (case kGJb => first | exact rfl | kernel_rfl))
    ((with_reducible refine' call_def_node ?kPa ?kPb (G_law_draw _) (P_law_draw _) ?_ ?kPf ?kPg ?kPh ?kPi ?kPj ?kPk); (case kPa | kPb => assumption); (case kPf | kPg | kPj | kPk => exact rfl); (case kPh | kPi => kernel_rfl))
    walk_at "evl"
    (refine ⟨St.base (by assumption), ?_⟩)
    refine drawH S' bs (room'.l (k := 0 + 1)) H.well (by lia) ?_
    intro h' wc' dr tr tk' S' hw' hr0 hr1
    replace H := H.withWell hw'
    walk_at "st"; intro h' t' S'
    walk_at "nx"
    walk_at "ex"
    refine cutG (T := fun R => ∀ wy, ∀ tw9, 0 ≤ wy → wy < 9 → ((wy < 2 ∨ 7 ≤ wy ∨ 0 < vs'.length)) → R (([("well", .ref a.aw), ("way", .int wy tw9)] : Loc)) gs (hs a wc' regs p.many tm p.next tn words seen out aspn)) S' ?cutA ?cutB
    case cutA =>
      intro P9 hR9
      with_reducible refine' wpAny_If ?_
      with_reducible refine' isTrue_and ?_
      ((with_reducible refine' wpAny_isTrue_Compare1 ?_ ?kGKb); (case kGKb => with_unfolding_all rfl))
      walk_at "ev"
      with_reducible refine' ev_list ?_
      with_reducible refine' args_nil ?_
      ((with_reducible refine' new_ls ?kGLa ?_ ?kGLc); (case kGLa => assumption); (case kGLc => walk_at "sz")); intro a' h' S'
      refine ls_eqI (by walk_at "at") (by walk_at "at") hesI .nil room' ?_
      with_reducible refine' wpAny_truthy_bool ?_
      refine ite_b (fun hb => ?_) (fun hb => ?_)
      ·
        replace hb := of_decide_eq_true hb
        have hvz : vs'.length = 0 := by rw [(intsAre_nd hesI).1, hb]; rfl
        with_reducible refine' isTrue_and ?_
        ((with_reducible refine' evb_ ?kGNa ?kGNb ?_ ?kGNd ?kGNe); (case kGNa => assumption); (case kGNb => walk_at "eec"); (case kGNd | kGNe => exact rfl))
        refine ite_b (fun hb => ?_) (fun hb => ?_)
        ·
          replace hb := of_decide_eq_true hb
          with_reducible refine' isTrue_and_nil ?_
          with_reducible refine' ite_t ?_
          walk_at "ex"
          ((with_reducible refine' wpAny_Assign_Name ?_ ?kGOb); (case kGOb => first | exact rfl | kernel_rfl))
          with_reducible refine' wpAny_BinOp ?_
          walk_at "nm"
          with_reducible refine' k_int ?_
          ((with_reducible refine' i_mod ?kBAa ?_); (case kBAa => lia))
          walk_at "st"; intro h' t' S'
          walk_at "nx"
          walk_at "exn"
          replace S' := S'.drop
          exact hR9 (dr % 2) _ (by lia) (by lia) (by lia) _ _ (St.weak S' (by walk_at "lsub"))
        ·
          replace hb := of_decide_eq_false hb
          with_reducible refine' ite_f ?_
          walk_at "exn"
          replace S' := S'.drop
          exact hR9 dr _ (by lia) (by lia) (by lia) _ _ (St.weak S' (by walk_at "lsub"))
      ·
        replace hb := of_decide_eq_false hb
        have hvz : 0 < vs'.length := by
          rw [(intsAre_nd hesI).1]
          cases es with
          | nil => exact absurd rfl hb
          | cons x r => simp
        with_reducible refine' ite_f ?_
        walk_at "exn"
        replace S' := S'.drop
        exact hR9 dr _ (by lia) (by lia) (by lia) _ _ (St.weak S' (by walk_at "lsub"))
    case cutB =>
      rintro wy tw9 hy0 hy1 hy2 h' t' S'
      walk_at "nx"
      walk_at "ex"
      with_reducible refine' wpAny_If ?_
      ((with_reducible refine' evb_ ?kGPa ?kGPb ?_ ?kGPd ?kGPe); (case kGPa => assumption); (case kGPb => walk_at "eec"); (case kGPd | kGPe => exact rfl))
      refine ite_b (fun hb => ?_) (fun hb => ?_)
      ·
        replace hb := of_decide_eq_true hb
        walk_at "ex"
        with_reducible refine' wpAny_Return_some ?_
        ((with_reducible refine' call_def_node ?kBFa ?kBFb (G_law_address _) (P_law_address _) ?_ ?kBFf ?kBFg ?kBFh ?kBFi ?kBFj ?kBFk); (case kBFa | kBFb => assumption); (case kBFf | kBFg | kBFj | kBFk => exact rfl); (case kBFh | kBFi => kernel_rfl))
        walk_at "evl"
        (refine ⟨St.base (by assumption), ?_⟩)
        refine address_ S' bs H (by lia) hsp (room'.l (k := 0 + 5)) (by lia) (by lia) ?_
        intro g2 h' wc' regs' tm' tn' words' seen' out' vr row p' tk' hl2 hst hrow S' HH
        replace HH := HH.up (M := N + 4) (by lia)
        walk_at "cret"
        with_reducible refine' rt_ret ?_
        exact bk (Λx := []) S' (fun S => q _ _ _ _ _ _ _ _ _ _ _ _ _ _ (hls.trans hl2) hst hrow S HH)
      ·
        replace hb := of_decide_eq_false hb
        walk_at "exn"
        walk_at "nx"
        walk_at "ex"
        with_reducible refine' wpAny_If ?_
        ((with_reducible refine' evb_ ?kGQa ?kGQb ?_ ?kGQd ?kGQe); (case kGQa => assumption); (case kGQb => walk_at "eec"); (case kGQd | kGQe => exact rfl))
        refine ite_b (fun hb => ?_) (fun hb => ?_)
        ·
          replace hb := eq_of_beq hb
          walk_at "ex"
          with_reducible refine' wpAny_Return_some ?_
          ((with_reducible refine' call_def_node ?kBKa ?kBKb (G_law_stored _) (P_law_stored _) ?_ ?kBKf ?kBKg ?kBKh ?kBKi ?kBKj ?kBKk); (case kBKa | kBKb => assumption); (case kBKf | kBKg | kBKj | kBKk => exact rfl); (case kBKh | kBKi => kernel_rfl))
          walk_at "evl"
          (refine ⟨St.base (by assumption), ?_⟩)
          refine stored_ S' bs H (by lia) hsp (by lia) (room'.l (k := 0 + 5)) ?_
          intro g2 h' wc' regs' tm' tn' words' seen' out' vr row p' tk' hl2 hst hrow S' HH
          walk_at "cret"
          with_reducible refine' rt_ret ?_
          exact bk (Λx := []) S' (fun S => q _ _ _ _ _ _ _ _ _ _ _ _ _ _ (hls.trans hl2) hst hrow S HH)
        ·
          replace hb := ne_of_beq_false hb
          walk_at "exn"
          walk_at "nx"
          walk_at "ex"
          with_reducible refine' wpAny_If ?_
          ((with_reducible refine' evb_ ?kGRa ?kGRb ?_ ?kGRd ?kGRe); (case kGRa => assumption); (case kGRb => walk_at "eec"); (case kGRd | kGRe => exact rfl))
          refine ite_b (fun hb => ?_) (fun hb => ?_)
          ·
            replace hb := eq_of_beq hb
            walk_at "ex"
            with_reducible refine' wpAny_Return_some ?_
            ((with_reducible refine' call_def_node ?kBPa ?kBPb (G_law_loaded _) (P_law_loaded _) ?_ ?kBPf ?kBPg ?kBPh ?kBPi ?kBPj ?kBPk); (case kBPa | kBPb => assumption); (case kBPf | kBPg | kBPj | kBPk => exact rfl); (case kBPh | kBPi => kernel_rfl))
            walk_at "evl"
            (refine ⟨St.base (by assumption), ?_⟩)
            refine loaded_ S' bs H (by lia) hsp (by lia) (room'.l (k := 0 + 5)) ?_
            intro g2 h' wc' regs' tm' tn' words' seen' out' vr row p' tk' hl2 hst hrow S' HH
            walk_at "cret"
            with_reducible refine' rt_ret ?_
            exact bk (Λx := []) S' (fun S => q _ _ _ _ _ _ _ _ _ _ _ _ _ _ (hls.trans hl2) hst hrow S HH)
          ·
            replace hb := ne_of_beq_false hb
            walk_at "exn"
            walk_at "nx"
            walk_at "ex"
            with_reducible refine' wpAny_Return_some ?_
            with_reducible refine' wpAny_IfExp ?_
            ((with_reducible refine' evb_ ?kGSa ?kGSb ?_ ?kGSd ?kGSe); (case kGSa => assumption); (case kGSb => walk_at "eec"); (case kGSd | kGSe => exact rfl))
            refine ite_b (fun hb => ?_) (fun hb => ?_)
            ·
              replace hb := eq_of_beq hb
              ((with_reducible refine' call_def_node ?kBUa ?kBUb (G_law_moved _) (P_law_moved _) ?_ ?kBUf ?kBUg ?kBUh ?kBUi ?kBUj ?kBUk); (case kBUa | kBUb => assumption); (case kBUf | kBUg | kBUj | kBUk => exact rfl); (case kBUh | kBUi => kernel_rfl))
              walk_at "evl"
              (refine ⟨St.base (by assumption), ?_⟩)
              refine moved_ S' bs H (by lia) hsp (by lia) (room'.l (k := 0 + 5)) ?_
              intro g2 h' wc' regs' tm' tn' words' seen' out' vr row p' tk' hl2 hst hrow S' HH
              walk_at "cret"
              with_reducible refine' rt_ret ?_
              exact bk (Λx := []) S' (fun S => q _ _ _ _ _ _ _ _ _ _ _ _ _ _ (hls.trans hl2) hst hrow S HH)
            ·
              replace hb := ne_of_beq_false hb
              ((with_reducible refine' call_def_node ?kBXa ?kBXb (G_law_other _) (P_law_other _) ?_ ?kBXf ?kBXg ?kBXh ?kBXi ?kBXj ?kBXk); (case kBXa | kBXb => assumption); (case kBXf | kBXg | kBXj | kBXk => exact rfl); (case kBXh | kBXi => kernel_rfl))
              walk_at "evl"
              (refine ⟨St.base (by assumption), ?_⟩)
              refine other_ S' bs H (by lia) hR (room'.l (k := 0 + 5)) ?_
              intro g2 h' wc' regs' tm' tn' words' seen' out' vr row p' tk' hl2 hst hrow S' HH
              walk_at "cret"
              with_reducible refine' rt_ret ?_
              exact bk (Λx := []) S' (fun S => q _ _ _ _ _ _ _ _ _ _ _ _ _ _ (hls.trans hl2) hst hrow S HH)
section
variable {w : World} {A : Around} {E : Value → Shared → Prop} {s : Shared} {h h' : Heap} {t : Nat} {K : Ent} {L : Addr} {m m' : Loc} {g : Frz} {Γ Γ' ΓD Λ : List (Addr × Cell)} {env : Env}
def SlF (w : World) (Q : Value → Shared → Prop) (o vl vu : Value) (s₃ : Shared) : Prop :=
  ∃ l items lo hi, o = .ref l ∧ s₃.heap.IsList l items ∧ items.size ≤ sizeLine ∧ IsPart vl lo ∧ IsPart vu hi ∧
    Q (.ref (s₃.heap.objs.size + 1)) { s₃ with heap := (s₃.heap.push { cls := .type "slice", data := .fields #[vl, vu, .none] }).push { cls := .type "list", data := .seq (slicePick items lo hi none) } }
theorem sl_ab {value lo up : Expr} {p pos : Pos} {Q : Value → Shared → Prop}
    (q : wpAny (model PG w) A (eval value env) (fun o s₁ => wpAny (model PG w) A (eval lo env) (fun vl s₂ => wpAny (model PG w) A (eval up env) (fun vu s₃ => SlF w Q o vl vu s₃) E s₂) E s₁) E s)
    (ht : ∀ o r, letTemporaryGo value o r = pure ()) : wpAny (model PG w) A (eval (.Subscript value (.Slice (some lo) (some up) none p) pos) env) Q E s := wpAny_Subscript_list_slice q ht
theorem St.two (S : St w K L m g (ΓD ++ Λ) h) {o1 o2 : Obj} {c : Cell} (hc : c.ok w o2) (h1 : o1.isFreed = false) (h2 : o2.isFreed = false) : ∃ g', g.le g' ∧ At w g' (h.objs.size + 1) c ∧ St w K L m g' (ΓD ++ Λ) ((h.push o1).push o2) := by
  have S1 := (S.pushL (o := o1) (c := .an fun _ => True) trivial h1).drop
  have S2 := S1.pushL hc h2
  rw [Heap.size_push] at S2
  exact S2.freezeL (Nat.le_succ_of_le S.grow)
theorem sl_fin {l : Addr} {vs : List Value} {a b : Int} {ta tb : Tok} {Q : Value → Shared → Prop} (S : St w K L m g (ΓD ++ Λ) h) (c : At w h.get? l (.ls vs)) (hz : vs.length ≤ 1000) (h0 : 0 ≤ a) (h1 : a ≤ b) (h2 : b ≤ vs.length)
    (q : ∀ x g' h', g.le g' → At w g' x (.lx ((vs.drop a.toNat).take (b.toNat - a.toNat))) → St w K L m g' (ΓD ++ Λ) h' → Q (.ref x) (sh s h' t)) : SlF w Q (.ref l) (.int a ta) (.int b tb) (sh s h t) := by
  refine ⟨l, vs.toArray, some a, some b, rfl, c.list, by simp [sizeLine_eq]; lia, .int .., .int .., ?_⟩
  have e : slicePick vs.toArray (some a) (some b) none = ((vs.drop a.toNat).take (b.toNat - a.toNat)).toArray := by
    have := slicePick_run vs.toArray a.toNat b.toNat (by simp; lia) (by lia)
    rw [Int.toNat_of_nonneg h0, Int.toNat_of_nonneg (by lia)] at this
    simpa using this
  rw [e]
  obtain ⟨g', l', c', S'⟩ := S.two (o1 := { cls := .type "slice", data := .fields #[.int a ta, .int b tb, .none] }) (o2 := { cls := .type "list", data := .seq ((vs.drop a.toNat).take (b.toNat - a.toNat)).toArray }) (c := .lx ((vs.drop a.toNat).take (b.toNat - a.toNat))) ⟨0, rfl⟩ rfl rfl
  exact q _ _ _ l' c' S'
theorem sl_finA {l : Addr} {vs : List Value} {a : Int} {ta : Tok} {Q : Value → Shared → Prop} (S : St w K L m g (ΓD ++ Λ) h) (c : At w h.get? l (.ls vs)) (hz : vs.length ≤ 1000) (h0 : 0 ≤ a)
    (q : ∀ x g' h', g.le g' → At w g' x (.lx (vs.drop a.toNat)) → St w K L m g' (ΓD ++ Λ) h' → Q (.ref x) (sh s h' t)) : SlF w Q (.ref l) (.int a ta) .none (sh s h t) := by
  refine ⟨l, vs.toArray, some a, none, rfl, c.list, by simp [sizeLine_eq]; lia, .int .., .none, ?_⟩
  have e : slicePick vs.toArray (some a) none none = (vs.drop a.toNat).toArray := by
    have := slicePick_from' vs.toArray a.toNat
    rw [Int.toNat_of_nonneg h0] at this
    simpa using this
  rw [e]
  obtain ⟨g', l', c', S'⟩ := S.two (o1 := { cls := .type "slice", data := .fields #[.int a ta, .none, .none] }) (o2 := { cls := .type "list", data := .seq (vs.drop a.toNat).toArray }) (c := .lx (vs.drop a.toNat)) ⟨0, rfl⟩ rfl rfl
  exact q _ _ _ l' c' S'
theorem add_ls {l b : Addr} {vs ws : List Value} {Q : Value → Shared → Prop} (S : St w K L m g (ΓD ++ Λ) h) (cl : At w h.get? l (.ls vs)) (cb : At w h.get? b (.ls ws)) (hz : vs.length + ws.length ≤ 1000)
    (q : ∀ x g' h', g.le g' → At w g' x (.lx (vs ++ ws)) → St w K L m g' (ΓD ++ Λ) h' → Q (.ref x) (sh s h' t)) : wpAny (model PG w) A (binaryOp .Add (.ref l) (.ref b)) Q E (sh s h t) := by
  obtain ⟨⟨cls, dd, data, sl⟩, ho, hc, n, hd⟩ := id cl
  obtain ⟨⟨cls2, dd2, data2, sl2⟩, ho2, hc2, n2, hd2⟩ := id cb
  simp only at hc hd hc2 hd2
  subst hc hd hc2 hd2
  have e : vs.toArray ++ ws.toArray = (vs ++ ws).toArray := by simp
  refine concat_meets (s := sh s h t) ⟨_, ho, rfl⟩ ⟨_, ho2, rfl⟩ noFill_list_add seq_list_add PySem.F.slot_list_add PySem.F.entry_list_add (PySem.F.args_list_add_2 _ _) (list_addW l b vs.toArray ws.toArray n n2 dd dd2 sl sl2 (by simp [sizeLine_eq]; lia)) ⟨ho, ho2, ?_⟩
  rw [e]
  have S1 := S.pushL (o := { cls := Value.type "list", data := Data.seq (vs ++ ws).toArray }) (c := .lx (vs ++ ws)) ⟨0, rfl⟩ rfl
  obtain ⟨g', l', c', S'⟩ := S1.freezeL S.grow
  exact q _ _ _ l' c' S'
theorem list_rg {r : Addr} {a b c : Int} {n : Nat} {Q : Value → Shared → Prop} (S : St w K L m g (ΓD ++ Λ) h) (x : At w h.get? r (rgObj a b c)) (hh : A.handled = none) (hn : Builtin.Range.rangeSize a b c = (n : Int)) (hs : Builtin.Range.small a b c = true) (hz : n ≤ 1000)
    (q : ∀ x g' h' t' vs, g.le g' → At w g' x (.lx vs) → vs.length = n → (∀ (i : Nat) v, vs[i]? = some v → ∃ t, v = .int (a + i * c) t) → St w K L m g' (ΓD ++ Λ) h' → Q (.ref x) (sh s h' t')) :
    wpAny (model PG w) A (call (.type "list") [.ref r]) Q E (sh s h t) := by
  obtain ⟨o, e, ta, tb, tc, rfl⟩ := x
  refine call_list_range (s := sh s h t) hh e hs hn (by lia) fun h' tk acc' c' hk hl hi => ?_
  have S1 := S.adopt (a := h.objs.size) (c := .lx acc'.toList) hk (Nat.le_refl _) ⟨_, hl, c', by simp⟩
  obtain ⟨g', l', c'', S'⟩ := S1.freezeL S.grow
  exact q _ _ _ tk acc'.toList l' c'' (by simpa using hi.1) (fun i v hv => hi.2 i v (by simpa using hv)) S'
theorem asg_at {o : Expr} {attr : Str} {pos : Pos} {v : Value} {Q : Unit → Shared → Prop} (q : wpAny (model PG w) A (eval o env) (fun ov s₁ => wpAny (model PG w) A (setAttr ov attr v) (fun _ s₂ => Q () s₂) E s₁) E s) :
    wpAny (model PG w) A (assign (.Attribute o attr pos) env v) Q E s := by
  rw [arm_assign_Attribute]
  refine wpAny_bind (wpAny_holding (wpAny_mono q (fun ov s₁ h₁ => wpAny_bind (wpAny_standAt (wpAny_bind (wpAny_holding (wpAny_mono h₁ (fun _ s₂ h₂ => ?_) fun _ _ e => e))))) fun _ _ e => e))
  exact fun Γ p hΓ => by simpa only [Sem.wp_release] using h₂
end
theorem mkBlock_ {w : World} {A : Around} {E : Value → Shared → Prop} {s : Shared} {hp : Heap} {tk : Nat} {K : Ent} {L : Addr} {m : Loc} {g : Frz} {Γ ΓD Λ : List (Addr × Cell)} {n : Nat} {Q : Value → Shared → Prop} {number : Value} (S : St w K L m g (ΓD ++ Λ) hp) (bs : Bs w K.B) (room : Room A (n + 2))
    (q : ∀ x d l0 h' tk, K.h₀.objs.size ≤ x → K.h₀.objs.size ≤ d → St w K L m g (ΓD ++ (x, .ins 52 d) :: (d, .dS [("number", number), ("steps", .ref l0), ("end", .none)]) :: Λ) h' → Q (.ref x) (sh s h' tk)) :
    wpAny (model PG w) A (call (.ref 52) [number]) Q E (sh s hp tk) := by
  refine new_inst (fI := 49) S bs (by kernel_rfl) (by kernel_rfl) (by kernel_rfl) ?_
  intro x d h' hx hd' S1
  refine call_code [(x, .ins 52 d), (d, .dS [])] [("number", number), ("self", .ref x)] S1 bs (room.under _ _) (by rfl) (by kernel_rfl) (by rfl) (by kernel_rfl) (Q := fun v s' => v = .none ∧ ∃ h' tk l0, s' = sh s h' tk ∧ St w K L m g ([(x, .ins 52 d), (d, .dS [("number", number), ("steps", .ref l0), ("end", .none)])] ++ (ΓD ++ Λ)) h') ?_ (by decide) rfl rfl rfl ?_
  case refine_2 =>
    rintro v s' ⟨rfl, h', tk, l0, rfl, S2⟩
    refine ⟨rfl, ?_⟩
    show Q _ _
    refine q x d l0 h' tk hx hd' (S2.perm ?_)
    exact (List.perm_middle.trans (List.Perm.cons _ List.perm_middle))
  intro L' h₁ tk' A' K' Pp hK room' bk S'
  subst hK
  walk_at "ex"
  ((with_reducible refine' plainObj_wpAny_Assign_Attribute ?_ ?kBb); (case kBb => exact rfl))
  walk_at "nm"
  walk_at "nm"
  ((with_reducible refine' set_at ?kGTa ?kGTb ?kGTc ?kGTd ?kGTe ?kGTf ?kGTg ?kGTh ?kGTi ?kGTj ?_); (case kGTa | kGTb => assumption); (case kGTc => walk_at "at"); (case kGTd => walk_at "upd"); (case kGTe => walk_at "lset"); (case kGTf | kGTg | kGTh | kGTi => kernel_rfl); (case kGTj => walk_at "sz")); intro h' t' S'
  walk_at "nx"
  walk_at "ex"
  ((with_reducible refine' plainObj_wpAny_Assign_Attribute ?_ ?kCb); (case kCb => exact rfl))
  with_reducible refine' ev_list ?_
  with_reducible refine' args_nil ?_
  ((with_reducible refine' new_ls ?kGUa ?_ ?kGUc); (case kGUa => assumption); (case kGUc => walk_at "sz")); intro a' h' S'
  walk_at "nm"
  ((with_reducible refine' set_at ?kGVa ?kGVb ?kGVc ?kGVd ?kGVe ?kGVf ?kGVg ?kGVh ?kGVi ?kGVj ?_); (case kGVa | kGVb => assumption); (case kGVc => walk_at "at"); (case kGVd => walk_at "upd"); (case kGVe => walk_at "lset"); (case kGVf | kGVg | kGVh | kGVi => kernel_rfl); (case kGVj => walk_at "sz")); intro h' t' S'
  walk_at "nx"
  walk_at "ex"
  ((with_reducible refine' plainObj_wpAny_Assign_Attribute ?_ ?kFb); (case kFb => exact rfl))
  with_reducible refine' wpAny_Constant_none ?_
  walk_at "nm"
  ((with_reducible refine' set_at ?kGWa ?kGWb ?kGWc ?kGWd ?kGWe ?kGWf ?kGWg ?kGWh ?kGWi ?kGWj ?_); (case kGWa | kGWb => assumption); (case kGWc => walk_at "at"); (case kGWd => walk_at "upd"); (case kGWe => walk_at "lset"); (case kGWf | kGWg | kGWh | kGWi => kernel_rfl); (case kGWj => walk_at "sz")); intro h' t' S'
  walk_at "nx"
  walk_at "exn"
  with_reducible refine' rt_next ?_
  refine bk (ΓD' := [_, _]) (Λx := []) S' (fun S => ⟨rfl, _, _, _, rfl, S⟩)
theorem mkFunc_ {w : World} {A : Around} {E : Value → Shared → Prop} {s : Shared} {hp : Heap} {tk : Nat} {K : Ent} {L : Addr} {m : Loc} {g : Frz} {Γ ΓD Λ : List (Addr × Cell)} {n : Nat} {Q : Value → Shared → Prop} {name : Value} (S : St w K L m g (ΓD ++ Λ) hp) (bs : Bs w K.B) (room : Room A (n + 2))
    (q : ∀ x d l0 l1 l2 t0 h' tk, K.h₀.objs.size ≤ x → K.h₀.objs.size ≤ d → St w K L m g (ΓD ++ (x, .ins 73 d) :: (d, .dS [("name", name), ("params", .ref l0), ("is_static", .bool false), ("slots", .ref l1), ("blocks", .ref l2), ("registers", .int 0 t0), ("has_value", .bool false)]) :: Λ) h' → Q (.ref x) (sh s h' tk)) :
    wpAny (model PG w) A (call (.ref 73) [name]) Q E (sh s hp tk) := by
  refine new_inst (fI := 70) S bs (by kernel_rfl) (by kernel_rfl) (by kernel_rfl) ?_
  intro x d h' hx hd' S1
  refine call_code [(x, .ins 73 d), (d, .dS [])] [("name", name), ("self", .ref x)] S1 bs (room.under _ _) (by rfl) (by kernel_rfl) (by rfl) (by kernel_rfl) (Q := fun v s' => v = .none ∧ ∃ h' tk l0 l1 l2 t0, s' = sh s h' tk ∧ St w K L m g ([(x, .ins 73 d), (d, .dS [("name", name), ("params", .ref l0), ("is_static", .bool false), ("slots", .ref l1), ("blocks", .ref l2), ("registers", .int 0 t0), ("has_value", .bool false)])] ++ (ΓD ++ Λ)) h') ?_ (by decide) rfl rfl rfl ?_
  case refine_2 =>
    rintro v s' ⟨rfl, h', tk, l0, l1, l2, t0, rfl, S2⟩
    refine ⟨rfl, ?_⟩
    show Q _ _
    refine q x d l0 l1 l2 t0 h' tk hx hd' (S2.perm ?_)
    exact (List.perm_middle.trans (List.Perm.cons _ List.perm_middle))
  intro L' h₁ tk' A' K' Pp hK room' bk S'
  subst hK
  walk_at "ex"
  ((with_reducible refine' plainObj_wpAny_Assign_Attribute ?_ ?kIb); (case kIb => exact rfl))
  walk_at "nm"
  walk_at "nm"
  ((with_reducible refine' set_at ?kGXa ?kGXb ?kGXc ?kGXd ?kGXe ?kGXf ?kGXg ?kGXh ?kGXi ?kGXj ?_); (case kGXa | kGXb => assumption); (case kGXc => walk_at "at"); (case kGXd => walk_at "upd"); (case kGXe => walk_at "lset"); (case kGXf | kGXg | kGXh | kGXi => kernel_rfl); (case kGXj => walk_at "sz")); intro h' t' S'
  walk_at "nx"
  walk_at "ex"
  ((with_reducible refine' plainObj_wpAny_Assign_Attribute ?_ ?kJb); (case kJb => exact rfl))
  with_reducible refine' ev_list ?_
  with_reducible refine' args_nil ?_
  ((with_reducible refine' new_ls ?kGYa ?_ ?kGYc); (case kGYa => assumption); (case kGYc => walk_at "sz")); intro a' h' S'
  walk_at "nm"
  ((with_reducible refine' set_at ?kGZa ?kGZb ?kGZc ?kGZd ?kGZe ?kGZf ?kGZg ?kGZh ?kGZi ?kGZj ?_); (case kGZa | kGZb => assumption); (case kGZc => walk_at "at"); (case kGZd => walk_at "upd"); (case kGZe => walk_at "lset"); (case kGZf | kGZg | kGZh | kGZi => kernel_rfl); (case kGZj => walk_at "sz")); intro h' t' S'
  walk_at "nx"
  walk_at "ex"
  ((with_reducible refine' plainObj_wpAny_Assign_Attribute ?_ ?kMb); (case kMb => exact rfl))
  with_reducible refine' wpAny_Constant_bool ?_
  walk_at "nm"
  ((with_reducible refine' set_at ?kHAa ?kHAb ?kHAc ?kHAd ?kHAe ?kHAf ?kHAg ?kHAh ?kHAi ?kHAj ?_); (case kHAa | kHAb => assumption); (case kHAc => walk_at "at"); (case kHAd => walk_at "upd"); (case kHAe => walk_at "lset"); (case kHAf | kHAg | kHAh | kHAi => kernel_rfl); (case kHAj => walk_at "sz")); intro h' t' S'
  walk_at "nx"
  walk_at "ex"
  ((with_reducible refine' plainObj_wpAny_Assign_Attribute ?_ ?kOb); (case kOb => exact rfl))
  with_reducible refine' ev_list ?_
  with_reducible refine' args_nil ?_
  ((with_reducible refine' new_ls ?kHBa ?_ ?kHBc); (case kHBa => assumption); (case kHBc => walk_at "sz")); intro a' h' S'
  walk_at "nm"
  ((with_reducible refine' set_at ?kHCa ?kHCb ?kHCc ?kHCd ?kHCe ?kHCf ?kHCg ?kHCh ?kHCi ?kHCj ?_); (case kHCa | kHCb => assumption); (case kHCc => walk_at "at"); (case kHCd => walk_at "upd"); (case kHCe => walk_at "lset"); (case kHCf | kHCg | kHCh | kHCi => kernel_rfl); (case kHCj => walk_at "sz")); intro h' t' S'
  walk_at "nx"
  walk_at "ex"
  ((with_reducible refine' plainObj_wpAny_Assign_Attribute ?_ ?kRb); (case kRb => exact rfl))
  with_reducible refine' ev_list ?_
  with_reducible refine' args_nil ?_
  ((with_reducible refine' new_ls ?kHDa ?_ ?kHDc); (case kHDa => assumption); (case kHDc => walk_at "sz")); intro a' h' S'
  walk_at "nm"
  ((with_reducible refine' set_at ?kHEa ?kHEb ?kHEc ?kHEd ?kHEe ?kHEf ?kHEg ?kHEh ?kHEi ?kHEj ?_); (case kHEa | kHEb => assumption); (case kHEc => walk_at "at"); (case kHEd => walk_at "upd"); (case kHEe => walk_at "lset"); (case kHEf | kHEg | kHEh | kHEi => kernel_rfl); (case kHEj => walk_at "sz")); intro h' t' S'
  walk_at "nx"
  walk_at "ex"
  ((with_reducible refine' plainObj_wpAny_Assign_Attribute ?_ ?kUb); (case kUb => exact rfl))
  with_reducible refine' k_int ?_
  walk_at "nm"
  ((with_reducible refine' set_at ?kHFa ?kHFb ?kHFc ?kHFd ?kHFe ?kHFf ?kHFg ?kHFh ?kHFi ?kHFj ?_); (case kHFa | kHFb => assumption); (case kHFc => walk_at "at"); (case kHFd => walk_at "upd"); (case kHFe => walk_at "lset"); (case kHFf | kHFg | kHFh | kHFi => kernel_rfl); (case kHFj => walk_at "sz")); intro h' t' S'
  walk_at "nx"
  walk_at "ex"
  ((with_reducible refine' plainObj_wpAny_Assign_Attribute ?_ ?kWb); (case kWb => exact rfl))
  with_reducible refine' wpAny_Constant_bool ?_
  walk_at "nm"
  ((with_reducible refine' set_at ?kHGa ?kHGb ?kHGc ?kHGd ?kHGe ?kHGf ?kHGg ?kHGh ?kHGi ?kHGj ?_); (case kHGa | kHGb => assumption); (case kHGc => walk_at "at"); (case kHGd => walk_at "upd"); (case kHGe => walk_at "lset"); (case kHGf | kHGg | kHGh | kHGi => kernel_rfl); (case kHGj => walk_at "sz")); intro h' t' S'
  walk_at "nx"
  walk_at "exn"
  with_reducible refine' rt_next ?_
  refine bk (ΓD' := [_, _]) (Λx := []) S' (fun S => ⟨rfl, _, _, _, _, _, _, rfl, S⟩)
section
variable {w : World} {A : Around} {E : Value → Shared → Prop} {s : Shared} {h h' : Heap} {t : Nat} {K : Ent} {L : Addr} {m m' : Loc} {g : Frz} {Γ Γ' ΓD Λ : List (Addr × Cell)} {env : Env}
theorem comp_N {elt target iter : Expr} {ifs : List Expr} {scope : Scope} {pos : Pos} {cl : List (Str × Addr)} {it ac : Addr} {n : Nat} {P : Nat → Value → Prop} {Ic : Nat → Cell} {Ok : Heap → Prop} {Q : Value → Shared → Prop}
    (J : Nat → List Value → Frz → List (Addr × Cell) → Prop) (sr : Src w A it n P Ic Ok) (S : St w K L m g (ΓD ++ (ac, .lx []) :: (it, Ic 0) :: Λ) h) (hn : n ≤ 1000) (j0 : J 0 [] g [] ∧ ∀ i vs g₁ N, J i vs g₁ N → vs.length ≤ i)
    (ok : ∀ K2 C i vs g₁ N h₁, J i vs g₁ N → g.le g₁ → St w K2 C [] g₁ ((ΓD ++ (ac, .lx vs) :: (it, Ic i) :: Λ) ++ N) h₁ → Ok h₁)
    (ht : ∀ v, letOwnedTupleGo target (.ref it) v = pure ())
    (step : ∀ K2 C i v vs g₁ N h₁ t₁ (PE : Value → Shared → Prop) (PF : Shared → Prop), K2 = ⟨K.B, h, (ΓD ++ (ac, .lx []) :: (it, Ic 0) :: Λ).map (·.1), g⟩ → i < n → P i v → J i vs g₁ N →
      (∀ {x m g₂ N₂ h₂ t₂}, St w K2 C m g₂ ((ΓD ++ (ac, .lx vs) :: (it, Ic (i + 1)) :: Λ) ++ N₂) h₂ → J (i + 1) (vs ++ [x]) g₂ N₂ → PE x (sh s h₂ t₂)) →
      (∀ {m g₂ N₂ h₂ t₂}, St w K2 C m g₂ ((ΓD ++ (ac, .lx vs) :: (it, Ic (i + 1)) :: Λ) ++ N₂) h₂ → J (i + 1) vs g₂ N₂ → PF (sh s h₂ t₂)) →
      St w K2 C [] g₁ ((ΓD ++ (ac, .lx vs) :: (it, Ic (i + 1)) :: Λ) ++ N) h₁ →
      wpAny (model PG w) A (assign target (compEnvC scope cl C env) v) (fun _ s₂ =>
        wpAny (model PG w) A (forIn ifs true fun c r => if r = true then do let ok ← isTrue c (compEnvC scope cl C env) (eval c (compEnvC scope cl C env)); pure (ForInStep.yield ok) else pure (ForInStep.yield r)) (fun ok s₃ =>
          if ok = true then wpAny (model PG w) A (eval elt (compEnvC scope cl C env)) PE (fun _ _ => False) s₃ else PF s₃) (fun _ _ => False) s₂) (fun _ _ => False) (sh s h₁ t₁))
    (done : ∀ vs g₁ N h₁ t₁, J n vs g₁ N → g.le g₁ → St w K L m g₁ (ΓD ++ (ac, .lx vs) :: (Λ ++ N)) h₁ → Q (.ref ac) (sh s h₁ t₁))
    (hcell : ∀ x ∈ scope.names, x.2 ≠ .cell) (hk : scope.kind = .function) :
    CmpU w A E elt target iter ifs scope pos cl env none Q (.ref it) (.ref ac) (sh s h t) :=
  comp_core (J := fun i vs g₁ ΓD₁ N => ΓD₁ = ΓD ∧ J i vs g₁ N) sr S hn ⟨rfl, j0.1⟩ (fun _ _ _ _ _ _ _ _ j hl S => ok _ _ _ _ _ _ _ j.2 hl (j.1 ▸ S)) (fun _ _ _ _ _ j => ⟨by rw [j.1], j0.2 _ _ _ _ j.2⟩) ht
    (fun _ _ _ _ _ _ _ _ _ _ _ _ hK hi hx j XE XF S => step _ _ _ _ _ _ _ _ _ _ _ hK hi hx j.2 (fun S j => XE _ _ _ _ _ _ _ S ⟨rfl, j⟩) (fun S j => XF _ _ _ _ _ _ S ⟨rfl, j⟩) (j.1 ▸ S))
    (fun _ _ _ _ _ _ _ _ j hl nsC S2 C1 C2 C3 => ⟨_, nsC, fun _ hs₃ => done _ _ _ _ _ j.2 hl (j.1 ▸ S2.other hs₃.extBut C1 C2 C3 S.bsize S.grow)⟩) hcell hk
end
structure BC where
  x : Addr
  d : Addr
  num : Value
  st : Value
  en : Value
def BC.cells (b : BC) : List (Addr × Cell) := [(b.x, .ins 52 b.d), (b.d, .dS [("number", b.num), ("steps", b.st), ("end", b.en)])]
def bcells (bs : List BC) : List (Addr × Cell) := bs.reverse.flatMap BC.cells
theorem bcells_snoc (bs : List BC) (b : BC) : bcells (bs ++ [b]) = (b.x, Cell.ins 52 b.d) :: (b.d, Cell.dS [("number", b.num), ("steps", b.st), ("end", b.en)]) :: bcells bs := by
  simp [bcells, BC.cells]
theorem bcells_mem {bs : List BC} {i : Nat} {b : BC} (h : bs[i]? = some b) : (b.x, Cell.ins 52 b.d) ∈ bcells bs ∧ (b.d, Cell.dS [("number", b.num), ("steps", b.st), ("end", b.en)]) ∈ bcells bs := by
  have hm := List.mem_of_getElem? h
  constructor <;> (unfold bcells; rw [List.mem_flatMap]; exact ⟨b, by simpa using hm, by simp [BC.cells]⟩)
theorem bcells_upd {bs : List BC} {i : Nat} {b : BC} {v w' : Value} (h : bs[i]? = some b) : Upd b.d (.dS [("number", b.num), ("steps", b.st), ("end", b.en)]) (.dS [("number", b.num), ("steps", v), ("end", w')]) (bcells bs) (bcells (bs.set i { b with st := v, en := w' })) := by
  have hi : i < bs.length := (List.getElem?_eq_some_iff.mp h).1
  have e : bs = bs.take i ++ b :: bs.drop (i + 1) := by
    have := (List.getElem?_eq_some_iff.mp h).2
    rw [← this]; simp
  have e2 : bs.set i { b with st := v, en := w' } = bs.take i ++ { b with st := v, en := w' } :: bs.drop (i + 1) := by
    rw [List.set_eq_take_append_cons_drop, if_pos hi]
  rw [e2]
  have e1 : bcells bs = bcells (bs.take i ++ b :: bs.drop (i + 1)) := congrArg bcells e
  rw [e1]
  simp only [bcells, List.reverse_append, List.reverse_cons, List.flatMap_append, List.append_assoc, List.flatMap_cons, List.flatMap_nil, List.nil_append, List.append_nil]
  refine Upd.right ?_
  exact .there .here
section
variable {w : World} {K : Ent} {L : Addr} {m : Loc} {g : Frz}
theorem St.rot {p : Addr × Cell} {Λ N : List (Addr × Cell)} {h : Heap} (S : St w K L m g ([] ++ p :: (Λ ++ N)) h) : St w K L m g (N ++ (p :: Λ)) h :=
  S.perm (show (N ++ (p :: Λ)).Perm ((p :: Λ) ++ N) from List.perm_append_comm)
theorem St.freezeAllN {ΓD : List (Addr × Cell)} {h : Heap} : ∀ {Λ : List (Addr × Cell)} {g : Frz}, St w K L m g (ΓD ++ Λ) h → K.D = [] → ∃ g', g.le g' ∧ (∀ p ∈ Λ, At w g' p.1 p.2) ∧ St w K L m g' (ΓD ++ []) h
  | [], g, S, _ => ⟨g, Frz.le.refl, fun _ h => (by simp at h), S⟩
  | (a, c) :: Λ, g, S, hD => by
    have hf : K.h₀.objs.size ≤ a := by
      rcases (S.off (a, c) (List.mem_append_right _ (.head _))).2.2 with z | z
      · rw [hD] at z; exact nomatch z
      · exact z
    obtain ⟨g1, l1, c1, S1⟩ := S.freezeL hf
    obtain ⟨g2, l2, c2, S2⟩ := St.freezeAllN S1 hD
    exact ⟨g2, l1.trans l2, fun p hp => by
      rcases List.mem_cons.mp hp with rfl | hp
      · exact c1.mono l2
      · exact c2 p hp, S2⟩
end
abbrev EndB (w : World) (g : Frz) (op : Str) (args : List (Str × Int)) (k : Int) (x d al : Addr) (t1 t2 tl t3 : Tok) (avs : List Value) : Prop := At w g x (.ins 31 d) ∧
  At w g d (.dS [("op", .str op t1), ("dst", .int (-1) t2), ("args", .ref al), ("more", .int k t3), ("is_volatile", .bool false), ("line", .int 0 tl)]) ∧
  At w g al (.lx avs) ∧ ArgsOk w g avs args
def EndOk (w : World) (g : Frz) (v : Value) (op : Str) (args : List (Str × Int)) (k : Int) : Prop := ∃ x d al t1 t2 tl t3 avs, v = .ref x ∧ EndB w g op args k x d al t1 t2 tl t3 avs
theorem EndOk.mono {w : World} {g g' : Frz} {v : Value} {op : Str} {args : List (Str × Int)} {k : Int} (h : EndOk w g v op args k) (l : g.le g') : EndOk w g' v op args k :=
  let ⟨x, d, al, t1, t2, tl, t3, avs, e, h⟩ := h; ⟨x, d, al, t1, t2, tl, t3, avs, e, h.1.mono l, h.2.1.mono l, h.2.2.1.mono l, h.2.2.2.mono l⟩
def rd (ways i : Nat) : Nat := if i = 0 then 0 else ways - i
def EndAt (w : World) (g : Frz) (v : Value) (eargs : List (Str × Int)) (ways i : Nat) : Prop :=
  if i + 1 < ways then EndOk w g v "jump" [] (rd ways (i + 1)) else EndOk w g v "give" eargs 0
def BlkOk (w : World) (g : Frz) (b : BC) (rvs : List Value) (eargs : List (Str × Int)) (ways i : Nat) : Prop :=
  ∃ ls, b.st = .ref ls ∧ At w g ls (.lx ((rvs.drop (i * rvs.length / ways)).take ((i + 1) * rvs.length / ways - i * rvs.length / ways))) ∧ EndAt w g b.en eargs ways i
theorem BlkOk.mono {w : World} {g g' : Frz} {b : BC} {rvs : List Value} {eargs : List (Str × Int)} {ways i : Nat} (h : BlkOk w g b rvs eargs ways i) (l : g.le g') : BlkOk w g' b rvs eargs ways i :=
  let ⟨ls, e, h1, h2⟩ := h; ⟨ls, e, h1.mono l, by unfold EndAt at h2 ⊢; split at h2 <;> rename_i q <;> simp only [q, if_true, if_false] <;> exact h2.mono l⟩
abbrev FuncB (w : World) (g : Frz) (sizes : List Int) (rvs : List Value) (eargs : List (Str × Int)) (ways : Nat) (x d pl sl bl : Addr) (nm t1 : Value) (t2 t3 : Tok) (svs : List Value) (bs : List BC) : Prop := At w g x (.ins 73 d) ∧
    At w g d (.dS [("name", nm), ("params", .ref pl), ("is_static", .bool false), ("slots", .ref sl), ("blocks", .ref bl), ("registers", t1), ("has_value", .bool false)]) ∧
    At w g pl (.lx [.int 0 t2, .int 1 t3]) ∧ At w g sl (.lx svs) ∧ svs.length = sizes.length ∧
    (∀ (i : Nat) (z : Int), sizes[i]? = some z → ∃ a t t', svs[i]? = some (.ref a) ∧ At w g a (.tp [.int z t, .int 4 t'])) ∧
    At w g bl (.lx (bs.map fun b => .ref b.x)) ∧ bs.length = ways ∧ (∀ p ∈ bcells bs, At w g p.1 p.2) ∧
    ∀ i < ways, ∃ b, bs[rd ways i]? = some b ∧ BlkOk w g b rvs eargs ways i
structure FuncOk (w : World) (g : Frz) (v : Value) (sizes : List Int) (rvs : List Value) (eargs : List (Str × Int)) (ways : Nat) : Prop where
  ex : ∃ x d pl sl bl nm t1 t2 t3 svs bs, v = .ref x ∧ FuncB w g sizes rvs eargs ways x d pl sl bl nm t1 t2 t3 svs bs
theorem fl_le {i n ways : Nat} (h : i < ways) : i * n / ways ≤ (i + 1) * n / ways ∧ (i + 1) * n / ways ≤ n := by
  constructor
  · exact Nat.div_le_div_right (Nat.mul_le_mul_right _ (Nat.le_succ i))
  · calc (i + 1) * n / ways ≤ ways * n / ways := Nat.div_le_div_right (Nat.mul_le_mul_right _ h)
      _ = n := Nat.mul_div_cancel_left _ (Nat.lt_of_le_of_lt (Nat.zero_le _) h)
theorem fl_cast (i n ways : Nat) : (0 + (i : Int) * 1) * (n : Int) / (ways : Int) = ((i * n / ways : Nat) : Int) := by
  rw [Int.zero_add, Int.mul_one]; simp
theorem fl_cast1 (i n ways : Nat) : (0 + (i : Int) * 1 + 1) * (n : Int) / (ways : Int) = (((i + 1) * n / ways : Nat) : Int) := by
  rw [Int.zero_add, Int.mul_one]; simp
theorem St.fresh0 {w : World} {K : Ent} {L : Addr} {m : Loc} {g : Frz} {h : Heap} {ΓD Λ : List (Addr × Cell)} {a : Addr} {c : Cell} (S : St w K L m g (ΓD ++ Λ) h) (hD : K.D = []) (e : (a, c) ∈ Λ) : K.h₀.objs.size ≤ a := by
  rcases (S.off (a, c) (List.mem_append_right _ e)).2.2 with z | z
  · rw [hD] at z; exact nomatch z
  · exact z
theorem map_set2 {bk2 : List BC} {k : Nat} {b b1 b2 : BC} (h : bk2[k]? = some b) (e1 : b1.x = b.x) (e2 : b2.x = b.x) : (((bk2.set k b1).set k b2).map fun b => Value.ref b.x) = bk2.map fun b => Value.ref b.x := by
  rw [List.set_set]
  refine List.ext_getElem? fun j => ?_
  rw [List.getElem?_map, List.getElem?_map, List.getElem?_set]
  split
  · rename_i q
    subst q
    have := (List.getElem?_eq_some_iff.mp h).1
    rw [if_pos this, h]; simp [e2]
  · rfl
theorem rd_inj {ways i j : Nat} (hi : i < ways) (hj : j < ways) (h : rd ways i = rd ways j) : i = j := by
  unfold rd at h; split at h <;> split at h <;> lia
theorem blk_step {w : World} {g g' : Frz} {rvs : List Value} {eargs : List (Str × Int)} {ways i : Nat} {bk2 : List BC} {b b1 b2 : BC} {xs : Addr} (hi : i < ways) (hw : 1 ≤ ways ∧ ways ≤ 3) (hbk : bk2[rd ways i]? = some b) (hl : bk2.length = ways)
    (h : ∀ j < i, ∃ b, bk2[rd ways j]? = some b ∧ BlkOk w g b rvs eargs ways j) (l : g.le g') (e : b2.st = .ref xs) (hs : At w g' xs (.lx ((rvs.drop (i * rvs.length / ways)).take ((i + 1) * rvs.length / ways - i * rvs.length / ways)))) (he : EndAt w g' b2.en eargs ways i) :
    ∀ j < i + 1, ∃ b, ((bk2.set (rd ways i) b1).set (rd ways i) b2)[rd ways j]? = some b ∧ BlkOk w g' b rvs eargs ways j := by
  intro j hj
  rw [List.set_set]
  by_cases q : j = i
  · subst q
    exact ⟨b2, List.getElem?_set_self (List.getElem?_eq_some_iff.mp hbk).1, xs, e, hs, he⟩
  · obtain ⟨b, e1, e2⟩ := h j (by lia)
    exact ⟨b, by rw [List.getElem?_set_ne (fun z => q (rd_inj (by lia) hi z.symm))]; exact e1, e2.mono l⟩
theorem function_ {w : World} {A : Around} {E : Value → Shared → Prop} {s : Shared} {hp : Heap} {tk : Nat} {K : Ent} {L : Addr} {m : Loc} {g : Frz} {Γ : List (Addr × Cell)} {n : Nat} {Q : Value → Shared → Prop} {a : HA} {sz : List Int} {wc : Cell} {regs words : List (Int × Value)} {seen : List Value} {out : List (Int × Value)} {N : Nat} {p : PS} {tm tn : Tok} {asp : Addr}
    (S : St w K L m g ([] ++ (hs a wc regs p.many tm p.next tn words seen out asp ++ Γ)) hp) (bs : Bs w K.B) (H : HOk w g a sz wc regs words seen out N p) (room : Room A (n + 5)) {rl el : Addr} {rvs evs : List Value} {eargs : List (Str × Int)} {ways : Nat} {tw : Tok} (hrl : At w g rl (.lx rvs)) (hel : At w g el (.lx evs)) (hea : ArgsOk w g evs eargs) (hwz : 1 ≤ ways ∧ ways ≤ 3) (hrn : rvs.length ≤ 12)
    (q : ∀ g' h' v tk, g.le g' → FuncOk w g' v sz rvs eargs ways → St w K L m g' ([] ++ (hs a wc regs p.many tm p.next tn words seen out asp ++ Γ)) h' → Q v (sh s h' tk)) :
    wpAny (model PG w) A (call (.ref 252) [.ref rl, .int ways tw, .ref a.ah, .ref el]) Q E (sh s hp tk) := by
  have hah : At w hp.get? a.ah (.dS (hdL a p.many tm p.next tn asp)) := S.rd (List.mem_append_right _ (List.mem_append_left _ (.tail _ (.head _))))
  have hrat0 : At w hp.get? rl (.ls rvs) := (S.fz hrl).lx
  refine call_fn ([]) [("ending", .ref el), ("house", .ref a.ah), ("ways", .int ways tw), ("rows", .ref rl)] S bs room (by rfl) (by kernel_rfl) (by rfl) (by kernel_rfl) ?_ (by decide) rfl rfl rfl
  intro L' h₁ tk' A' K' Pp hK room' bk S'
  subst hK
  have hb1 := H.b1; have hb2 := H.b2; have hb3 := H.b3; have hb4 := H.b4; have hszl := H.szl
  walk_at "ex"
  ((with_reducible refine' wpAny_Assign_Name ?_ ?kHHb); (case kHHb => first | exact rfl | kernel_rfl))
  ((with_reducible refine' call_def_node ?kBa ?kBb (GFunc _) (PFunc _) ?_ ?kBf ?kBg ?kBh ?kBi ?kBj ?kBk); (case kBa | kBb => assumption); (case kBf | kBg | kBj | kBk => exact rfl); (case kBh | kBi => kernel_rfl))
  walk_at "evl"
  (refine ⟨St.base (by assumption), ?_⟩)
  refine mkFunc_ (Γ := []) S' bs (room'.l (k := 0 + 2)) ?_
  intro fx fd l0 l1 l2 t0 h' tk' hfx hfd S'
  walk_at "st"; intro h' t' S'
  walk_at "nx"
  walk_at "ex"
  (first | ((with_reducible refine' Assign_Tuple ?_ ?kDb ?kDc); (case kDb | kDc => exact rfl)) | ((with_reducible refine' Assign_Tuple_swapped ?_ ?kDb ?kDc); (case kDb | kDc => exact rfl)))
  with_reducible refine' ev_tuple ?_
  walk_at "ac"
  with_reducible refine' ev_list ?_
  walk_at "evl"
  ((with_reducible refine' new_ls ?kHIa ?_ ?kHIc); (case kHIa => assumption); (case kHIc => walk_at "sz")); intro pl h' S'
  walk_at "ac"
  with_reducible refine' Subscript_ ?_
  walk_at "nm"
  with_reducible refine' k_str ?_
  refine sub_dS (S'.old hah (by simp)) (by walk_at "lk") ?_ (by with_unfolding_all rfl)
  with_reducible refine' args_nil ?_
  ((with_reducible refine' new_tp ?kHJa ?_ ?kHJc); (case kHJa => assumption); (case kHJc => walk_at "sz")); intro a' h' S'
  walk_at "unp"; intro h' S'
  (refine assignInOrder_cons ?_)
  with_reducible refine' asg_at ?_
  walk_at "nm"
  ((with_reducible refine' set_at ?kHKa ?kHKb ?kHKc ?kHKd ?kHKe ?kHKf ?kHKg ?kHKh ?kHKi ?kHKj ?_); (case kHKa | kHKb => assumption); (case kHKc => walk_at "at"); (case kHKd => walk_at "upd"); (case kHKe => walk_at "lset"); (case kHKf | kHKg | kHKh | kHKi => kernel_rfl); (case kHKj => walk_at "sz")); intro h' t' S'
  (refine assignInOrder_cons ?_)
  with_reducible refine' asg_at ?_
  walk_at "nm"
  ((with_reducible refine' set_at ?kHLa ?kHLb ?kHLc ?kHLd ?kHLe ?kHLf ?kHLg ?kHLh ?kHLi ?kHLj ?_); (case kHLa | kHLb => assumption); (case kHLc => walk_at "at"); (case kHLd => walk_at "upd"); (case kHLe => walk_at "lset"); (case kHLf | kHLg | kHLh | kHLi => kernel_rfl); (case kHLj => walk_at "sz")); intro h' t' S'
  (refine assignInOrder_nil ?_)
  walk_at "nx"
  walk_at "ex"
  ((with_reducible refine' plainObj_wpAny_Assign_Attribute ?_ ?kOb); (case kOb => exact rfl))
  ((with_reducible refine' comp_ex ?_ ?kPb ?kPc ?kPd ?kPe); (case kPb => intro _; rfl); (case kPc | kPd => exact rfl); (case kPe => decide))
  with_reducible refine' Subscript_ ?_
  walk_at "nm"
  with_reducible refine' k_str ?_
  refine sub_dS (S'.old hah (by simp)) (by walk_at "lk") ?_ (by with_unfolding_all rfl)
  obtain ⟨szv, hszv, hszi⟩ := H.szs
  have hszn := (intsAre_nd hszi).1
  refine iter_ls S' (S'.fz hszv) ?_; intro it' h' S'
  ((with_reducible refine' new_ls ?kHMa ?_ ?kHMc); (case kHMa => assumption); (case kHMc => walk_at "sz")); intro sl h' S'
  refine comp_TF (T := fun i vs R => ∀ g₁, vs.length = i → (∀ (j : Nat), j < i → ∃ z, sz[j]? = some z ∧ ∃ a t t', vs[j]? = some (.ref a) ∧ At w g₁ a (.tp [.int z t, .int 4 t'])) → R g₁) (src_ls (by exact Room.hh (by assumption)) it' a.asz szv) S' ?hn (fun i vs R H x0 x1 xg => H _ fun R9 k9 => k9 x0 x1 xg) ?j0 ?ok ?keys (fun _ => rfl) ?step ?done (by decide) rfl
  case hn =>
    lia
  case j0 =>
    exact fun R9 k9 => k9 _ rfl (fun j h => absurd h (Nat.not_lt_zero _))
  case ok =>
    rintro K2 C i vs g₁ _ _ h₁ hgl S; exact S.fz (hszv.mono hgl)
  case keys =>
    intro i vs; intros; first | assumption | (apply Nat.le_of_eq; assumption) | (subst_vars; simp; done) | (rename_i h; rw [h, List.length_map, List.length_take]; exact Nat.min_le_left _ _)
  case step =>
    rintro K2 C' i' v' vs' PE PF hK2 hi' hx' XE XF g' hln hvs h' t' S'
    have bs : Bs w K2.B := by rw [hK2]; exact bs
    obtain ⟨tc9, hic, rfl⟩ := (intsAre_nd hszi).2 _ _ hx'
    with_reducible refine' assign_Name ?_
    walk_at "st"; intro h' t' S'
    with_reducible refine' if0 ?_
    with_reducible refine' ite_t ?_
    with_reducible refine' ev_tuple ?_
    walk_at "evl"
    ((with_reducible refine' new_tpF ?kWa ?_ ?kWc); (case kWa => assumption); (case kWc => walk_at "sz")); intro an gn h' hlan hatn S'
    refine XE _ _ (by simp [hln]) (fun j hj => ?_) _ _ _ S'
    by_cases hji : j < i'
    · obtain ⟨z, e1, a1, t1, t2, e2, e3⟩ := hvs j hji
      exact ⟨z, e1, a1, t1, t2, by rw [List.getElem?_append_left (by lia)]; exact e2, e3.mono hlan⟩
    · have : j = i' := by lia
      subst this
      exact ⟨sz[j], List.getElem?_eq_getElem hic, an, _, _, by rw [List.getElem?_append_right (by lia)]; simp [hln], hatn⟩
  case done =>
    rintro vs' g' hsln hsvs h' t' hgl' S'
    have hlz1 := hgl'
    walk_at "nm"
    ((with_reducible refine' set_at ?kHNa ?kHNb ?kHNc ?kHNd ?kHNe ?kHNf ?kHNg ?kHNh ?kHNi ?kHNj ?_); (case kHNa | kHNb => assumption); (case kHNc => walk_at "at"); (case kHNd => walk_at "upd"); (case kHNe => walk_at "lset"); (case kHNf | kHNg | kHNh | kHNi => kernel_rfl); (case kHNj => walk_at "sz")); intro h' t' S'
    walk_at "nx"
    walk_at "ex"
    ((with_reducible refine' plainObj_wpAny_Assign_Attribute ?_ ?kXb); (case kXb => exact rfl))
    ((with_reducible refine' comp_ex ?_ ?kYb ?kYc ?kYd ?kYe); (case kYb => intro _; rfl); (case kYc | kYd => exact rfl); (case kYe => decide))
    ((with_reducible refine' call_ty_node ?kZa ?kZb (Nrange _) Brange ?kZe ?_ ?kZg ?kZh ?kZi ?kZj ?kZk ?kZl ?kZm); (case kZa | kZb => assumption); (case kZe => decide); (case kZg | kZh | kZi | kZl | kZm => exact rfl); (case kZj | kZk => kernel_rfl))
    walk_at "evl"
    ((with_reducible refine' rng1 ?kBAa ?_); (case kBAa => assumption)); intro ra h' t' S'
    refine iter_rg (n := ways) S' (by walk_at "at") (by rw [range_n (by lia)]; simp) (by rcases (show ways = 1 ∨ ways = 2 ∨ ways = 3 by lia) with h | h | h <;> rw [h] <;> decide) ?_; intro it' h' S'
    ((with_reducible refine' new_ls ?kHOa ?_ ?kHOc); (case kHOa => assumption); (case kHOc => walk_at "sz")); intro bl h' S'
    refine comp_N (J := fun i vs g₁ N => ∃ bks : List BC, N = bcells bks ∧ vs = bks.map (fun b => .ref b.x) ∧ bks.length = i) (src_rg (by exact Room.hh (by assumption)) it' 0 1 ways) S' ?hn ?j0 ?ok (fun _ => rfl) ?step ?done (by decide) rfl
    case hn =>
      lia
    case j0 =>
      exact ⟨⟨[], rfl, rfl, rfl⟩, fun i vs g N h => by obtain ⟨b, _, rfl, h⟩ := h; simp [h]⟩
    case ok => intros; trivial
    case step =>
      intro K2 C' i' v' vs' g' N' h' t' PE PF hK2 hi' hx' hj' XE XF S'
      have bs : Bs w K2.B := by rw [hK2]; exact bs
      with_reducible refine absG fun G9 k9 => ?_
      obtain ⟨bks, rfl, rfl, hbl⟩ := hj'
      obtain ⟨t9, rfl⟩ := hx'
      with_reducible refine k9 ?_
      with_reducible refine' assign_Name ?_
      walk_at "st"; intro h' t' S'
      with_reducible refine' if0 ?_
      with_reducible refine' ite_t ?_
      ((with_reducible refine' call_def_node ?kBEa ?kBEb (GBlock _) (PBlock _) ?_ ?kBEf ?kBEg ?kBEh ?kBEi ?kBEj ?kBEk); (case kBEa | kBEb => assumption); (case kBEf | kBEg | kBEj | kBEk => exact rfl); (case kBEh | kBEi => kernel_rfl))
      walk_at "evl"
      (refine ⟨St.base (by assumption), ?_⟩)
      refine mkBlock_ (Γ := []) S' bs (room'.l (k := 0 + 2)) ?_
      intro bx bd l0b h' tk' hbx hbd S'
      exact XE S' ⟨bks ++ [⟨bx, bd, .int (0 + i' * 1) t9, .ref l0b, .none⟩], (bcells_snoc bks ⟨bx, bd, .int (0 + i' * 1) t9, .ref l0b, .none⟩).symm, by simp, by simp [hbl]⟩
    case done =>
      intro vs' g' N' h' t' hj' hgl' S'
      obtain ⟨bks, rfl, rfl, hbl⟩ := hj'
      have hlz2 := hgl'
      replace S' := S'.rot
      walk_at "nm"
      ((with_reducible refine' set_at ?kHPa ?kHPb ?kHPc ?kHPd ?kHPe ?kHPf ?kHPg ?kHPh ?kHPi ?kHPj ?_); (case kHPa | kHPb => assumption); (case kHPc => walk_at "at"); (case kHPd => walk_at "upd"); (case kHPe => walk_at "lset"); (case kHPf | kHPg | kHPh | kHPi => kernel_rfl); (case kHPj => walk_at "sz")); intro h' t' S'
      walk_at "nx"
      walk_at "ex"
      ((with_reducible refine' wpAny_Assign_Name ?_ ?kHQb); (case kHQb => first | exact rfl | kernel_rfl))
      with_reducible refine' wpAny_BinOp ?_
      with_reducible refine' ev_list ?_
      walk_at "evl"
      ((with_reducible refine' new_ls ?kHRa ?_ ?kHRc); (case kHRa => assumption); (case kHRc => walk_at "sz")); intro a' h' S'
      ((with_reducible refine' call_ty_node ?kBIa ?kBIb (Nlist _) Blist ?kBIe ?_ ?kBIg ?kBIh ?kBIi ?kBIj ?kBIk ?kBIl ?kBIm); (case kBIa | kBIb => assumption); (case kBIe => decide); (case kBIg | kBIh | kBIi | kBIl | kBIm => exact rfl); (case kBIj | kBIk => kernel_rfl))
      walk_at "ac"
      ((with_reducible refine' call_ty_node ?kBJa ?kBJb (Nrange _) Brange ?kBJe ?_ ?kBJg ?kBJh ?kBJi ?kBJj ?kBJk ?kBJl ?kBJm); (case kBJa | kBJb => assumption); (case kBJe => decide); (case kBJg | kBJh | kBJi | kBJl | kBJm => exact rfl); (case kBJj | kBJk => kernel_rfl))
      walk_at "ac"
      walk_at "ev"
      walk_at "ac"
      with_reducible refine' k_int ?_
      walk_at "ac"
      ((with_reducible refine' k_neg ?_); intro _)
      with_reducible refine' args_nil ?_
      refine rng3 (by decide) (by decide) S' ?_
      intro rb h' t' S'
      with_reducible refine' args_nil ?_
      refine list_rg (n := ways - 1) S' (by walk_at "at") (by exact Room.hh (by assumption)) (by rcases (show ways = 1 ∨ ways = 2 ∨ ways = 3 by lia) with h | h | h <;> subst h <;> decide) (by rcases (show ways = 1 ∨ ways = 2 ∨ ways = 3 by lia) with h | h | h <;> subst h <;> decide) (by lia) ?_
      intro rlst g3 h' t' rvl hlz3 hrat hrvl hrvi S'
      refine add_ls S' (by walk_at "at") (by walk_at "at") (by simp; lia) ?_
      intro road g4 h' hlz4 hroad S'
      walk_at "st"; intro h' t' S'
      with_reducible refine absG fun G9 k9 => ?_
      obtain ⟨g5, hlz5, hfz, S'⟩ := S'.freezeAllN rfl
      have hroad5 := hroad.mono hlz5
      obtain ⟨rdl, hrde, hrdat⟩ : ∃ rdl : List Value, (∀ i < ways, ∃ t, rdl[i]? = some (.int (rd ways i) t)) ∧ At w g5 road (.lx rdl) := by
        refine ⟨_, fun i hi => ?_, hroad5⟩
        cases i with
        | zero => exact ⟨_, rfl⟩
        | succ i =>
          obtain ⟨t, e⟩ := hrvi i rvl[i] (List.getElem?_eq_getElem (by lia))
          refine ⟨t, ?_⟩
          rw [List.getElem?_append_right (by simp)]
          simp only [List.length_cons, List.length_nil, Nat.zero_add, Nat.add_sub_cancel]
          rw [List.getElem?_eq_getElem (by lia), e]
          congr 2
          unfold rd
          rw [if_neg (by lia)]
          lia
      with_reducible refine k9 ?_
      have hlz := hlz1.trans (hlz2.trans (hlz3.trans (hlz4.trans hlz5)))
      have hf1 := hfz (fx, _) (by walk_at "memc")
      have hf2 := hfz (fd, _) (by walk_at "memc")
      have hfpl := hfz (pl, _) (by walk_at "memc")
      have hfsl := hfz (sl, _) (by walk_at "memc")
      have hfbl := hfz (bl, _) (by walk_at "memc")
      walk_at "nx"
      walk_at "ex"
      ((with_reducible refine' for_ex ?_ ?kBOb); (case kBOb => intro _; rfl))
      ((with_reducible refine' call_ty_node ?kBPa ?kBPb (Nrange _) Brange ?kBPe ?_ ?kBPg ?kBPh ?kBPi ?kBPj ?kBPk ?kBPl ?kBPm); (case kBPa | kBPb => assumption); (case kBPe => decide); (case kBPg | kBPh | kBPi | kBPl | kBPm => exact rfl); (case kBPj | kBPk => kernel_rfl))
      walk_at "evl"
      ((with_reducible refine' rng1 ?kBQa ?_); (case kBQa => assumption)); intro ra h' t' S'
      refine iter_rg (n := ways) S' (by walk_at "at") (by rw [range_n (by lia)]; simp) (by rcases (show ways = 1 ∨ ways = 2 ∨ ways = 3 by lia) with h | h | h <;> rw [h] <;> decide) ?_; intro it' h' S'
      refine for_T (T := fun i R => ∀ g₁, ∀ (bk2 : List BC), g5.le g₁ → bk2.length = ways → (bk2.map fun b => Value.ref b.x) = bks.map (fun b => .ref b.x) → (∀ j < i, ∃ b, bk2[rd ways j]? = some b ∧ BlkOk w g₁ b rvs eargs ways j) → R g₁ (bcells bk2)) (src_rg (by exact Room.hh (by assumption)) it' 0 1 ways) S' ?tt ?j0 ?ok ?hg ?step ?done
      case tt => exact fun i R H x0 x1 x2 x3 x4 xg => H _ _ fun R9 k9 => k9 x0 x1 x2 x3 x4 xg
      case j0 =>
        exact fun R9 k9 => k9 _ bks Frz.le.refl hbl rfl (fun j h => absurd h (Nat.not_lt_zero _))
      case ok => intro i; intros; intro _ _; trivial
      case hg => first | exact .inl ⟨_, _, rfl⟩ | exact .inr ⟨_, _, _, rfl, by walk_at "hgt"⟩
      case step =>
        rintro i' v' P' hi' hx' X' g' bk2 hle2 hb2l hb2x hb2 h' t' S'
        obtain ⟨t9, rfl⟩ := hx'
        have hf1' := hf1.mono hle2
        have hf2' := hf2.mono hle2
        have hfbl' := hfbl.mono hle2
        have hrd : rd ways i' < ways := by unfold rd; split <;> lia
        obtain ⟨bk, hbk⟩ : ∃ b, bk2[rd ways i']? = some b := ⟨_, List.getElem?_eq_getElem (by lia)⟩
        obtain ⟨rt, hrt⟩ := hrde i' hi'
        have hfl := fl_le (n := rvs.length) hi'
        with_reducible refine' assign_Name ?_
        walk_at "st"; intro h' t' S'
        walk_at "ex"
        ((with_reducible refine' wpAny_Assign_Name ?_ ?kHSb); (case kHSb => first | exact rfl | kernel_rfl))
        with_reducible refine' Subscript_ ?_
        with_reducible refine' PyProof.Rows.Attribute_name ?_
        walk_at "nm"
        walk_at "geta"
        with_reducible refine' Subscript_ ?_
        walk_at "nm"
        walk_at "nm"
        refine sub_ls (S'.fz (hrdat.mono hle2)).lx (by lia) (by rw [show ((0 : Int) + i' * 1).toNat = i' by lia]; exact hrt) ?_ (by lia)
        refine sub_ls (S'.fz hfbl').lx (by lia) (by rw [← hb2x, Int.toNat_natCast, List.getElem?_map, hbk]; rfl) ?_ (by lia)
        walk_at "st"; intro h' t' S'
        walk_at "nx"
        walk_at "ex"
        ((with_reducible refine' plainObj_wpAny_Assign_Attribute ?_ ?kBVb); (case kBVb => exact rfl))
        ((with_reducible refine' sl_ab ?_ ?kBWb); (case kBWb => intro _ _; rfl))
        walk_at "nm"
        with_reducible refine' wpAny_BinOp ?_
        with_reducible refine' wpAny_BinOp ?_
        walk_at "nm"
        ((with_reducible refine' call_bi_node ?kBZa ?kBZb (Nlen _) Blen ?kBZe ?_ ?kBZg ?kBZh ?kBZi ?kBZj ?kBZk ?kBZl ?kBZm); (case kBZa | kBZb => assumption); (case kBZe => decide); (case kBZg | kBZh | kBZi | kBZl | kBZm => exact rfl); (case kBZj | kBZk => kernel_rfl))
        walk_at "evl"
        (with_reducible refine' len_ls (S'.old hrat0 (by simp)) (by lia) ?_)
        refine i_mul ?_ (by rcases (show i' = 0 ∨ i' = 1 ∨ i' = 2 by lia) with h | h | h <;> subst h <;> exact IntMulOk.of_left (by decide +kernel))
        walk_at "nm"
        ((with_reducible refine' i_fdiv ?kCAa ?_ ?kCAc); (case kCAa | kCAc => lia))
        with_reducible refine' wpAny_BinOp ?_
        with_reducible refine' wpAny_BinOp ?_
        walk_at "ev"
        ((with_reducible refine' call_bi_node ?kCDa ?kCDb (Nlen _) Blen ?kCDe ?_ ?kCDg ?kCDh ?kCDi ?kCDj ?kCDk ?kCDl ?kCDm); (case kCDa | kCDb => assumption); (case kCDe => decide); (case kCDg | kCDh | kCDi | kCDl | kCDm => exact rfl); (case kCDj | kCDk => kernel_rfl))
        walk_at "evl"
        (with_reducible refine' len_ls (S'.old hrat0 (by simp)) (by lia) ?_)
        refine i_mul ?_ (by rcases (show i' = 0 ∨ i' = 1 ∨ i' = 2 by lia) with h | h | h <;> subst h <;> exact IntMulOk.of_left (by decide +kernel))
        walk_at "nm"
        ((with_reducible refine' i_fdiv ?kCEa ?_ ?kCEc); (case kCEa | kCEc => lia))
        rw [fl_cast, fl_cast1]
        refine sl_fin S' (S'.old hrat0 (by simp)) (by lia) (Int.natCast_nonneg _) (Int.ofNat_le.mpr hfl.1) (Int.ofNat_le.mpr hfl.2) ?_
        intro xs gsl h' hls hslat S'
        rw [Int.toNat_natCast, Int.toNat_natCast] at hslat
        walk_at "nm"
        refine set_at S' bs (S'.rd (List.mem_append_left _ (bcells_mem hbk).1)) (Upd.left (bcells_upd (v := .ref xs) (w' := bk.en) hbk)) (by walk_at "lset") (by kernel_rfl) (by kernel_rfl) (by kernel_rfl) (by kernel_rfl) (by walk_at "sz") ?_
        intro h' t' S'
        have hbk2 : (bk2.set (rd ways i') { bk with st := .ref xs, en := bk.en })[rd ways i']? = some { bk with st := .ref xs, en := bk.en } := List.getElem?_set_self (by lia)
        walk_at "nx"
        walk_at "ex"
        ((with_reducible refine' plainObj_wpAny_Assign_Attribute ?_ ?kCFb); (case kCFb => exact rfl))
        with_reducible refine' wpAny_IfExp ?_
        ((with_reducible refine' evb_ ?kHTa ?kHTb ?_ ?kHTd ?kHTe); (case kHTa => assumption); (case kHTb => walk_at "eec"); (case kHTd | kHTe => exact rfl))
        refine ite_b (fun hb => ?_) (fun hb => ?_)
        ·
          replace hb := of_decide_eq_true hb
          ((with_reducible refine' call_def_node ?kHUa ?kHUb (GStep _) (PStep _) ?_ ?kHUf ?kHUg ?kHUh ?kHUi ?kHUj ?kHUk); (case kHUa | kHUb => assumption); (case kHUf | kHUg | kHUj | kHUk => exact rfl); (case kHUh | kHUi => kernel_rfl))
          walk_at "ac"
          with_reducible refine' k_str ?_
          walk_at "ac"
          ((with_reducible refine' k_neg ?_); intro _)
          walk_at "ac"
          with_reducible refine' ev_list ?_
          with_reducible refine' args_nil ?_
          ((with_reducible refine' new_ls ?kHVa ?_ ?kHVc); (case kHVa => assumption); (case kHVc => walk_at "sz")); intro ale h' S'
          walk_at "ac"
          with_reducible refine' Subscript_ ?_
          walk_at "nm"
          walk_at "ev"
          obtain ⟨rt1, hrt1⟩ := hrde (i' + 1) (by lia)
          refine sub_ls (S'.fz (hrdat.mono (hle2.trans hls))).lx (by lia) (by rw [show ((0 : Int) + i' * 1 + 1).toNat = i' + 1 by lia]; exact hrt1) ?_ (by lia)
          with_reducible refine' args_nil ?_
          (refine ⟨St.base (by assumption), ?_⟩)
          refine mkStepL S' bs (room'.l (k := 0 + 2)) ?_
          intro g2 x' d2 tl h' tk' hl2 hx1 hx2 S'
          walk_at "nm"
          refine set_at S' bs (S'.rd (List.mem_append_left _ (bcells_mem hbk2).1)) (Upd.left (bcells_upd (v := .ref xs) (w' := .ref x') hbk2)) (by walk_at "lset") (by kernel_rfl) (by kernel_rfl) (by kernel_rfl) (by kernel_rfl) (by walk_at "sz") ?_
          intro h' t' S'
          walk_at "nx"
          walk_at "exn"
          first
           | (obtain ⟨g7, hl7, hale, S'⟩ := S'.freezeL (c := .lx []) (a := ale) (S'.fresh0 rfl (List.Mem.head _))
              exact X' _ _ (hle2.trans (hls.trans (hl2.trans hl7))) (by simp [hb2l]) (by rw [← hb2x]; exact map_set2 hbk rfl rfl) (blk_step hi' hwz hbk hb2l hb2 (hls.trans (hl2.trans hl7)) rfl (hslat.mono (hl2.trans hl7)) (by unfold EndAt; rw [if_pos (by lia)]; exact ⟨x', d2, ale, _, _, tl, _, _, rfl, hx1.mono hl7, hx2.mono hl7, hale, .nil⟩)) _ _ _ (.inl rfl) (St.weak S' (by walk_at "lsub")))
           | exact X' _ _ (hle2.trans (hls.trans hl2)) (by simp [hb2l]) (by rw [← hb2x]; exact map_set2 hbk rfl rfl) (blk_step hi' hwz hbk hb2l hb2 (hls.trans hl2) rfl (hslat.mono hl2) (by unfold EndAt; rw [if_neg (by lia)]; exact ⟨x', d2, el, _, _, tl, _, _, rfl, hx1, hx2, hel.mono (hlz.trans (hle2.trans (hls.trans hl2))), hea.mono (hlz.trans (hle2.trans (hls.trans hl2)))⟩)) _ _ _ (.inl rfl) (St.weak S' (by walk_at "lsub"))
        ·
          replace hb := of_decide_eq_false hb
          ((with_reducible refine' call_def_node ?kHWa ?kHWb (GStep _) (PStep _) ?_ ?kHWf ?kHWg ?kHWh ?kHWi ?kHWj ?kHWk); (case kHWa | kHWb => assumption); (case kHWf | kHWg | kHWj | kHWk => exact rfl); (case kHWh | kHWi => kernel_rfl))
          walk_at "ac"
          with_reducible refine' k_str ?_
          walk_at "ac"
          ((with_reducible refine' k_neg ?_); intro _)
          walk_at "evl"
          (refine ⟨St.base (by assumption), ?_⟩)
          refine mkStepL S' bs (room'.l (k := 0 + 2)) ?_
          intro g2 x' d2 tl h' tk' hl2 hx1 hx2 S'
          walk_at "nm"
          refine set_at S' bs (S'.rd (List.mem_append_left _ (bcells_mem hbk2).1)) (Upd.left (bcells_upd (v := .ref xs) (w' := .ref x') hbk2)) (by walk_at "lset") (by kernel_rfl) (by kernel_rfl) (by kernel_rfl) (by kernel_rfl) (by walk_at "sz") ?_
          intro h' t' S'
          walk_at "nx"
          walk_at "exn"
          first
           | (obtain ⟨g7, hl7, hale, S'⟩ := S'.freezeL (c := .lx []) (a := ale) (S'.fresh0 rfl (List.Mem.head _))
              exact X' _ _ (hle2.trans (hls.trans (hl2.trans hl7))) (by simp [hb2l]) (by rw [← hb2x]; exact map_set2 hbk rfl rfl) (blk_step hi' hwz hbk hb2l hb2 (hls.trans (hl2.trans hl7)) rfl (hslat.mono (hl2.trans hl7)) (by unfold EndAt; rw [if_pos (by lia)]; exact ⟨x', d2, ale, _, _, tl, _, _, rfl, hx1.mono hl7, hx2.mono hl7, hale, .nil⟩)) _ _ _ (.inl rfl) (St.weak S' (by walk_at "lsub")))
           | exact X' _ _ (hle2.trans (hls.trans hl2)) (by simp [hb2l]) (by rw [← hb2x]; exact map_set2 hbk rfl rfl) (blk_step hi' hwz hbk hb2l hb2 (hls.trans hl2) rfl (hslat.mono hl2) (by unfold EndAt; rw [if_neg (by lia)]; exact ⟨x', d2, el, _, _, tl, _, _, rfl, hx1, hx2, hel.mono (hlz.trans (hle2.trans (hls.trans hl2))), hea.mono (hlz.trans (hle2.trans (hls.trans hl2)))⟩)) _ _ _ (.inl rfl) (St.weak S' (by walk_at "lsub"))
      case done =>
        rintro g' bk2 hle2 hb2l hb2x hb2 h' t' S'
        walk_at "nx"
        walk_at "ex"
        with_reducible refine' wpAny_Return_some ?_
        walk_at "nm"
        walk_at "cret"
        with_reducible refine' rt_ret ?_
        obtain ⟨g9, hl9, hfz9, S9⟩ := St.freezeAllN (ΓD := []) S' rfl
        have hlA := hle2.trans hl9
        refine bk (ΓD' := []) (Λx := []) S9 (fun S => q g9 _ _ _ (hlz.trans hlA) ⟨fx, fd, pl, sl, bl, _, _, _, _, _, bk2, rfl, hf1.mono hlA, hf2.mono hlA, hfpl.mono hlA, hfsl.mono hlA, by rw [hsln, hszn], ?_, ?_, hb2l, fun p hp => hfz9 p (List.mem_append_left _ hp), ?_⟩ S)
        · intro j z hz
          have hjl : j < sz.length := (List.getElem?_eq_some_iff.mp hz).1
          obtain ⟨z', e1, a1, t1, t2, e2, e3⟩ := hsvs j (by lia)
          rw [hz] at e1
          cases e1
          exact ⟨a1, t1, t2, e2, e3.mono ((hlz2.trans (hlz3.trans (hlz4.trans hlz5))).trans hlA)⟩
        · rw [hb2x]; exact hfbl.mono hlA
        · intro j hj
          obtain ⟨b, e1, e2⟩ := hb2 j hj
          exact ⟨b, e1, e2.mono hl9⟩
section
variable {w : World} {A : Around} {E : Value → Shared → Prop} {s : Shared} {h h' : Heap} {t : Nat} {K : Ent} {L : Addr} {m m' : Loc} {g : Frz} {Γ Γ' ΓD Λ : List (Addr × Cell)} {env : Env}
theorem any_isInt {vs : List Value} {ns : List Int} (x : IntsAre vs ns) (k : Int) : vs.any (isInt k) = decide (k ∈ ns) := by
  induction x with
  | nil => simp
  | cons n t _ ih =>
    rw [List.any_cons, ih]
    by_cases q : n = k
    · subst q; simp [isInt]
    · have : ¬ k = n := fun z => q z.symm
      simp [isInt, q, this]
theorem notin_ls {l : Addr} {vs : List Value} {ns : List Int} {k : Int} {tk : Tok} {Q : Value → Shared → Prop} (c : At w h.get? l (.ls vs)) (hi : IntsAre vs ns) (q : Q (.bool (!decide (k ∈ ns))) (sh s h t)) :
    wpAny (model PG w) A (compareOp .NotIn (.int k tk) (.ref l)) Q E (sh s h t) :=
  SeqAt.notIn_listAt (isInt k) c.list (fun y hy => (eq_isInt k tk hi y (by simpa using hy)).at _ _) (by rw [List.any_toArray, any_isInt hi]; exact q)
theorem count_ls {l : Addr} {vs : List Value} {ns : List Int} {k : Int} {tk : Tok} {Q : Value → Shared → Prop} (c : At w h.get? l (.ls vs)) (hi : IntsAre vs ns) (q : ∀ t', Q (.int (ns.count k : Nat) t') (sh s h (t + 1))) :
    wpAny (model PG w) A (call (.builtin "list.count") [.ref l, .int k tk]) Q E (sh s h t) := count_list_ints (s := sh s h t) c.list hi (q _)
end
inductive RowsOk (w : World) (g : Frz) : List Value → List Row → Prop
  | nil : RowsOk w g [] []
  | cons {v : Value} {r : Row} {vs : List Value} {rs : List Row} : RowOk w g v r → RowsOk w g vs rs → RowsOk w g (v :: vs) (r :: rs)
theorem RowsOk.mono {w : World} {g g' : Frz} {vs : List Value} {rs : List Row} (h : RowsOk w g vs rs) (l : g.le g') : RowsOk w g' vs rs := by
  induction h with
  | nil => exact .nil
  | cons h _ ih => exact .cons (h.mono l) ih
theorem RowsOk.len {w : World} {g : Frz} {vs : List Value} {rs : List Row} (h : RowsOk w g vs rs) : vs.length = rs.length := by
  induction h with
  | nil => rfl
  | cons _ _ ih => simp [ih]
theorem RowsOk.get {w : World} {g : Frz} {vs : List Value} {rs : List Row} (h : RowsOk w g vs rs) : ∀ {i : Nat} {v : Value}, vs[i]? = some v → ∃ r, rs[i]? = some r ∧ RowOk w g v r := by
  induction h with
  | nil => intro i v e; simp at e
  | cons h _ ih =>
    intro i v e
    cases i with
    | zero => simp at e; subst e; exact ⟨_, rfl, h⟩
    | succ i => simpa using ih (by simpa using e)
theorem RowsOk.snoc {w : World} {g : Frz} {vs : List Value} {rs : List Row} {v : Value} {r : Row} (h : RowsOk w g vs rs) (k : RowOk w g v r) : RowsOk w g (vs ++ [v]) (rs ++ [r]) := by
  induction h with
  | nil => exact .cons k .nil
  | cons h _ ih => exact .cons h ih
def goals (rs : List Row) : List Int := (rs.map (·.dst)).filter fun d => decide (0 ≤ d)
def OnceI (gs : List Int) (c : Int) : Bool := (decide (c = 0 ∨ c = 1) && !decide (c ∈ gs)) || (decide (1 < c) && decide (gs.count c = 1))
def SetOk (kvs : List (Int × Value)) (P : Int → Bool) : Prop := (∀ c, (valueAt kvs c).isSome = P c) ∧ ∀ kv ∈ kvs, kv.2 = .bool true
theorem SetOk.add {kvs : List (Int × Value)} {P P' : Int → Bool} {c : Int} (h : SetOk kvs P) (e : ∀ x, P' x = (decide (x = c) || P x)) : SetOk (stored kvs c (.bool true)) P' := by
  refine ⟨fun x => ?_, fun kv hkv => ?_⟩
  · rw [valueAt_stored, e]
    by_cases q : x = c
    · simp [q]
    · simp [q, h.1 x]
  · rcases mem_stored hkv with rfl | hkv
    · rfl
    · exact h.2 kv hkv
theorem SetOk.congr {kvs : List (Int × Value)} {P P' : Int → Bool} (h : SetOk kvs P) (e : ∀ x, P' x = P x) : SetOk kvs P' := ⟨fun x => by rw [e]; exact h.1 x, h.2⟩
theorem goals_take {rs : List Row} {i : Nat} {r : Row} (h : rs[i]? = some r) : goals (rs.take (i + 1)) = goals (rs.take i) ++ (if 0 ≤ r.dst then [r.dst] else []) := by
  obtain ⟨hi, e⟩ := List.getElem?_eq_some_iff.mp h
  unfold goals
  rw [← List.take_append_getElem hi, e]
  simp only [List.map_append, List.map_cons, List.map_nil, List.filter_append, List.filter_cons, List.filter_nil, decide_eq_true_eq]
theorem singles_ {w : World} {A : Around} {E : Value → Shared → Prop} {s : Shared} {hp : Heap} {tk : Nat} {K : Ent} {L : Addr} {m : Loc} {g : Frz} {Γ : List (Addr × Cell)} {n : Nat} {Q : Value → Shared → Prop} 
    (S : St w K L m g ([] ++ Γ) hp) (bs : Bs w K.B) (room : Room A (n + 1)) {rl : Addr} {rvs : List Value} {rs : List Row} (hrl : At w g rl (.lx rvs)) (hrs : RowsOk w g rvs rs) (hrn : rvs.length ≤ 12)
    (q : ∀ g' h' d kvs tk, g.le g' → At w g' d (.dI kvs) → SetOk kvs (OnceI (goals rs)) → kvs.length ≤ 20 → St w K L m g' ([] ++ Γ) h' → Q (.ref d) (sh s h' tk)) :
    wpAny (model PG w) A (call (.ref 257) [.ref rl]) Q E (sh s hp tk) := by
  refine call_fn ([]) [("rows", .ref rl)] S bs room (by rfl) (by kernel_rfl) (by rfl) (by kernel_rfl) ?_ (by decide) rfl rfl rfl
  intro L' h₁ tk' A' K' Pp hK room' bk S'
  subst hK
  walk_at "ex"
  ((with_reducible refine' comp_exA ?_ ?kBb ?kBc ?kBd ?kBe ?kBf); (case kBb => first | exact rfl | kernel_rfl); (case kBc => intro _; rfl); (case kBd | kBe => exact rfl); (case kBf => decide))
  walk_at "nm"
  refine iter_ls S' (S'.fz hrl).lx ?_; intro it' h' S'
  ((with_reducible refine' new_ls ?kHXa ?_ ?kHXc); (case kHXa => assumption); (case kHXc => walk_at "sz")); intro gl h' S'
  refine' comp_TFA (T := fun i vs R => ∀ g₁, vs.length ≤ i → IntsAre vs (goals (rs.take i)) → R g₁) (src_ls (by exact Room.hh (by assumption)) it' rl rvs) S' ?hn (fun i vs R H x0 x1 x9 => H _ fun R9 k9 => k9 x0 x1 x9) ?j0 ?ok ?keys (fun _ => rfl) ?step ?hm ?done (by decide) rfl rfl (by kernel_rfl) rfl
  case hm => walk_at "fset"
  case hn =>
    lia
  case j0 =>
    exact fun R9 k9 => k9 _ (Nat.le_refl _) .nil
  case ok =>
    rintro K2 C i vs g₁ _ _ h₁ hgl S; exact (S.fz (hrl.mono hgl)).lx
  case keys =>
    intro i vs; intros; first | assumption | (apply Nat.le_of_eq; assumption) | (subst_vars; simp; done) | (rename_i h; rw [h, List.length_map, List.length_take]; exact Nat.min_le_left _ _)
  case step =>
    rintro K2 C' i' v' vs' PE PF hK2 hi' hx' XE XF g' hln hvi h' t' S'
    have bs : Bs w K2.B := by rw [hK2]; exact bs
    with_reducible refine absG fun G9 k9 => ?_
    obtain ⟨r, hr, x, d, al, t1, t2, tl, mv, avs, rfl, hx1, hx2, hx3, hx4, hx5⟩ := hrs.get hx'
    with_reducible refine k9 ?_
    have hgl2 : g.le g' := by have := S'.gmono; rw [hK2] at this; exact this
    replace hx1 := hx1.mono hgl2
    replace hx2 := hx2.mono hgl2
    with_reducible refine' assign_Name ?_
    walk_at "st"; intro h' t' S'
    with_reducible refine' if1 ?_
    ((with_reducible refine' wpAny_isTrue_Compare1 ?_ ?kHYb); (case kHYb => with_unfolding_all rfl))
    with_reducible refine' PyProof.Rows.Attribute_name ?_
    walk_at "nm"
    walk_at "geta"
    with_reducible refine' k_int ?_
    (first | ((with_reducible refine' PySem.P.ge_int ?_)))
    with_reducible refine' wpAny_truthy_bool ?_
    refine ite_b (fun hb => ?_) (fun hb => ?_)
    ·
      replace hb := of_decide_eq_true hb
      with_reducible refine' PyProof.Rows.Attribute_name ?_
      walk_at "nm"
      walk_at "geta"
      refine XE _ _ (by simp; lia) (?_) _ _ _ S'
      rw [goals_take hr, if_pos hb]
      exact IntsAre.snoc hvi
    ·
      replace hb := of_decide_eq_false hb
      refine XF _ (by lia) (?_) _ _ _ S'
      rw [goals_take hr, if_neg hb, List.append_nil]
      exact hvi
  case done =>
    rintro vs' g' hln hvi h' t' hgl' S'
    rw [List.take_of_length_le (by have := hrs.len; lia)] at hvi
    have hgl2 := hgl'
    have hvs12 : vs'.length ≤ 12 := by lia
    walk_at "nx"
    walk_at "ex"
    ((with_reducible refine' wpAny_Assign_Name ?_ ?kIAb); (case kIAb => first | exact rfl | kernel_rfl))
    ((with_reducible refine' dict_0 ?kIa ?_); (case kIa => assumption)); intro fd h' S'
    walk_at "st"; intro h' t' S'
    replace S' : St w _ L' _ _ ([(fd, Cell.dI [])] ++ _) _ := S'
    walk_at "nx"
    walk_at "ex"
    ((with_reducible refine' for_ex ?_ ?kJb); (case kJb => intro _; rfl))
    with_reducible refine' ev_list ?_
    walk_at "evl"
    ((with_reducible refine' new_ls ?kIBa ?_ ?kIBc); (case kIBa => assumption); (case kIBc => walk_at "sz")); intro a' h' S'
    ((with_reducible refine' iter_ls ?kLa ?kLb ?_); (case kLa => assumption); (case kLb => walk_at "at")); intro it' h' S'
    refine for_T (T := fun i R => ∀ kvs, kvs.length ≤ i → SetOk kvs (fun c => decide (c ∈ ([0, 1] : List Int).take i) && !decide (c ∈ goals rs)) → R g' ([(fd, Cell.dI kvs)])) (src_ls (by exact Room.hh (by assumption)) it' _ [.int 0 t', .int 1 (t' + 1)]) S' (fun i R H x0 x1 x2 => H _ _ fun R9 k9 => k9 x0 x1 x2) ?j0 ?ok ?hg ?step ?done
    case j0 =>
      exact fun R9 k9 => k9 [] (Nat.le_refl _) ⟨fun c => by simp [valueAt], fun kv h => by simp at h⟩
    case ok =>
      rintro i kvs _ _ h₁ S; walk_at "at"
    case hg => first | exact .inl ⟨_, _, rfl⟩ | exact .inr ⟨_, _, _, rfl, by walk_at "hgt"⟩
    case step =>
      rintro i' v' P' hi' hx' X' kvs hkl hset h' t' S'
      obtain ⟨tc, hic, rfl⟩ := (intsAre_nd (.cons _ _ (.cons _ _ .nil) : IntsAre _ [0, 1])).2 _ _ hx'
      have hkl2 : kvs.length ≤ 2 := by have := hic; simp at this; lia
      have htk : ∀ x : Int, (x ∈ ([0, 1] : List Int).take (i' + 1)) ↔ (x ∈ ([0, 1] : List Int).take i' ∨ x = ([0, 1] : List Int)[i']) := fun x => by rw [← List.take_append_getElem hic]; simp only [List.mem_append, List.mem_singleton]
      with_reducible refine' assign_Name ?_
      walk_at "st"; intro h' t' S'
      walk_at "ex"
      with_reducible refine' wpAny_If ?_
      ((with_reducible refine' wpAny_isTrue_Compare1 ?_ ?kICb); (case kICb => with_unfolding_all rfl))
      walk_at "nm"
      walk_at "nm"
      refine notin_ls (by walk_at "at") hvi ?_
      with_reducible refine' wpAny_truthy_bool ?_
      refine ite_b (fun hb => ?_) (fun hb => ?_)
      ·
        skip
        walk_at "ex"
        ((with_reducible refine' wpAny_Assign_Subscript ?_ ?kOb); (case kOb => exact rfl))
        with_reducible refine' wpAny_Constant_bool ?_
        walk_at "nm"
        walk_at "nm"
        ((with_reducible refine' set_dI ?kQa ?kQb ?kQc ?_); (case kQa => assumption); (case kQb => walk_at "upd"); (case kQc => walk_at "sz")); intro h' S'
        walk_at "nx"
        walk_at "exn"
        walk_at "nx"
        walk_at "exn"
        first
         | (refine X' _ (?_) (hset.add fun x => ?_) _ _ _ (.inl rfl) (St.weak S' (by walk_at "lsub")); (have := len_stored kvs ([0, 1] : List Int)[i'] (.bool true); lia); (simp only [Bool.not_eq_true', decide_eq_false_iff_not] at hb; rw [Bool.eq_iff_iff]; simp only [Bool.and_eq_true, Bool.or_eq_true, Bool.not_eq_true', decide_eq_true_eq, decide_eq_false_iff_not, htk]; constructor; (rintro ⟨h1 | h1, h2⟩; exact .inr ⟨h1, h2⟩; exact .inl h1); (rintro (rfl | ⟨h1, h2⟩); exact ⟨.inr rfl, hb⟩; exact ⟨.inl h1, h2⟩)))
         | (refine X' kvs (by lia) (hset.congr fun x => ?_) _ _ _ (.inl rfl) (St.weak S' (by walk_at "lsub")); (simp only [Bool.not_eq_false', decide_eq_true_eq] at hb; rw [Bool.eq_iff_iff]; simp only [Bool.and_eq_true, Bool.not_eq_true', decide_eq_true_eq, decide_eq_false_iff_not, htk]; constructor; (rintro ⟨h1 | h1, h2⟩; exact ⟨h1, h2⟩; (subst h1; exact absurd hb h2)); (rintro ⟨h1, h2⟩; exact ⟨.inl h1, h2⟩)))
      ·
        skip
        walk_at "exn"
        walk_at "nx"
        walk_at "exn"
        first
         | (refine X' _ (?_) (hset.add fun x => ?_) _ _ _ (.inl rfl) (St.weak S' (by walk_at "lsub")); (have := len_stored kvs ([0, 1] : List Int)[i'] (.bool true); lia); (simp only [Bool.not_eq_true', decide_eq_false_iff_not] at hb; rw [Bool.eq_iff_iff]; simp only [Bool.and_eq_true, Bool.or_eq_true, Bool.not_eq_true', decide_eq_true_eq, decide_eq_false_iff_not, htk]; constructor; (rintro ⟨h1 | h1, h2⟩; exact .inr ⟨h1, h2⟩; exact .inl h1); (rintro (rfl | ⟨h1, h2⟩); exact ⟨.inr rfl, hb⟩; exact ⟨.inl h1, h2⟩)))
         | (refine X' kvs (by lia) (hset.congr fun x => ?_) _ _ _ (.inl rfl) (St.weak S' (by walk_at "lsub")); (simp only [Bool.not_eq_false', decide_eq_true_eq] at hb; rw [Bool.eq_iff_iff]; simp only [Bool.and_eq_true, Bool.not_eq_true', decide_eq_true_eq, decide_eq_false_iff_not, htk]; constructor; (rintro ⟨h1 | h1, h2⟩; exact ⟨h1, h2⟩; (subst h1; exact absurd hb h2)); (rintro ⟨h1, h2⟩; exact ⟨.inl h1, h2⟩)))
    case done =>
      rintro kvs hkl hset h' t' S'
      have hkl0 : kvs.length ≤ 2 := by simpa using hkl
      walk_at "nx"
      walk_at "ex"
      ((with_reducible refine' for_ex ?_ ?kRb); (case kRb => intro _; rfl))
      walk_at "nm"
      ((with_reducible refine' iter_ls ?kSa ?kSb ?_); (case kSa => assumption); (case kSb => walk_at "at")); intro it' h' S'
      refine for_T (T := fun i R => ∀ kvs, kvs.length ≤ 2 + i → SetOk kvs (fun c => (decide (c ∈ ([0, 1] : List Int)) && !decide (c ∈ goals rs)) || (decide (c ∈ (goals rs).take i) && (decide (1 < c) && decide ((goals rs).count c = 1)))) → R g' ([(fd, Cell.dI kvs)])) (src_ls (by exact Room.hh (by assumption)) it' gl vs') S' (fun i R H x0 x1 x2 => H _ _ fun R9 k9 => k9 x0 x1 x2) ?j0 ?ok ?hg ?step ?done
      case j0 =>
        exact fun R9 k9 => k9 kvs hkl0 (hset.congr fun c => by simp)
      case ok =>
        rintro i kvs _ _ h₁ S; walk_at "at"
      case hg => first | exact .inl ⟨_, _, rfl⟩ | exact .inr ⟨_, _, _, rfl, by walk_at "hgt"⟩
      case step =>
        rintro i' v' P' hi' hx' X' kvs hkl hset h' t' S'
        obtain ⟨tc, hic, rfl⟩ := (intsAre_nd hvi).2 _ _ hx'
        have hkl2 : kvs.length ≤ 20 := by lia
        have htk : ∀ x : Int, (x ∈ (goals rs).take (i' + 1)) ↔ (x ∈ (goals rs).take i' ∨ x = (goals rs)[i']) := fun x => by rw [← List.take_append_getElem hic]; simp only [List.mem_append, List.mem_singleton]
        with_reducible refine' assign_Name ?_
        walk_at "st"; intro h' t' S'
        walk_at "ex"
        with_reducible refine' wpAny_If ?_
        with_reducible refine' isTrue_and ?_
        ((with_reducible refine' evb_ ?kIEa ?kIEb ?_ ?kIEd ?kIEe); (case kIEa => assumption); (case kIEb => walk_at "eec"); (case kIEd | kIEe => exact rfl))
        refine ite_b (fun hb => ?_) (fun hb => ?_)
        ·
          replace hb := of_decide_eq_true hb
          have hc1 := hb
          with_reducible refine' isTrue_and ?_
          ((with_reducible refine' wpAny_isTrue_Compare1 ?_ ?kIFb); (case kIFb => with_unfolding_all rfl))
          ((with_reducible refine' meth_node PySem.F.plainAttrs_list PySem.F.slot_list_count PySem.F.type_list_count ?_ ?kXe ?kXf ?kXg ?kXh ?kXi); (case kXe | kXf | kXg | kXh | kXi => exact rfl))
          walk_at "nm"
          (refine ⟨_, rfl, ?_, ?_⟩; (first | exact obj_lx (by walk_at "at") | exact obj_dI (by walk_at "at") | exact obj_dS (by walk_at "at") | exact obj_st (by walk_at "at")))
          walk_at "evl"
          (show wpAny _ _ (call _ [_, _]) _ _ _)
          refine count_ls (by walk_at "at") hvi ?_
          intro _
          with_reducible refine' k_int ?_
          (first | ((with_reducible refine' PySem.P.eq_int ?_)) | ((with_reducible refine' PySem.P.eq_str ?_)) | ((with_reducible refine' eq_bool ?_)))
          with_reducible refine' wpAny_truthy_bool ?_
          refine ite_b (fun hb => ?_) (fun hb => ?_)
          ·
            replace hb := eq_of_beq hb
            have hc2 := hb
            with_reducible refine' isTrue_and_nil ?_
            with_reducible refine' ite_t ?_
            walk_at "ex"
            ((with_reducible refine' wpAny_Assign_Subscript ?_ ?kBDb); (case kBDb => exact rfl))
            with_reducible refine' wpAny_Constant_bool ?_
            walk_at "nm"
            walk_at "nm"
            ((with_reducible refine' set_dI ?kBFa ?kBFb ?kBFc ?_); (case kBFa => assumption); (case kBFb => walk_at "upd"); (case kBFc => walk_at "sz")); intro h' S'
            walk_at "nx"
            walk_at "exn"
            walk_at "nx"
            walk_at "exn"
            first
             | (refine X' _ (?_) (hset.add fun x => ?_) _ _ _ (.inl rfl) (St.weak S' (by walk_at "lsub")); (have := len_stored kvs (goals rs)[i'] (.bool true); lia); (rw [Bool.eq_iff_iff]; simp only [Bool.or_eq_true, Bool.and_eq_true, decide_eq_true_eq, htk]; constructor; (rintro (h | ⟨h1 | h1, h2⟩); exact .inr (.inl h); exact .inr (.inr ⟨h1, h2⟩); exact .inl h1); (rintro (rfl | h | ⟨h1, h2⟩); exact .inr ⟨.inr rfl, by lia, by lia⟩; exact .inl h; exact .inr ⟨.inl h1, h2⟩)))
             | (refine X' kvs (by lia) (hset.congr fun x => ?_) _ _ _ (.inl rfl) (St.weak S' (by walk_at "lsub")); (rw [Bool.eq_iff_iff]; simp only [Bool.or_eq_true, Bool.and_eq_true, decide_eq_true_eq, htk]; constructor; (rintro (h | ⟨h1 | h1, h2⟩); exact .inl h; exact .inr ⟨h1, h2⟩; (subst h1; lia)); (rintro (h | ⟨h1, h2⟩); exact .inl h; exact .inr ⟨.inl h1, h2⟩)))
          ·
            replace hb := ne_of_beq_false hb
            have hc2 := hb
            with_reducible refine' ite_f ?_
            walk_at "exn"
            walk_at "nx"
            walk_at "exn"
            first
             | (refine X' _ (?_) (hset.add fun x => ?_) _ _ _ (.inl rfl) (St.weak S' (by walk_at "lsub")); (have := len_stored kvs (goals rs)[i'] (.bool true); lia); (rw [Bool.eq_iff_iff]; simp only [Bool.or_eq_true, Bool.and_eq_true, decide_eq_true_eq, htk]; constructor; (rintro (h | ⟨h1 | h1, h2⟩); exact .inr (.inl h); exact .inr (.inr ⟨h1, h2⟩); exact .inl h1); (rintro (rfl | h | ⟨h1, h2⟩); exact .inr ⟨.inr rfl, by lia, by lia⟩; exact .inl h; exact .inr ⟨.inl h1, h2⟩)))
             | (refine X' kvs (by lia) (hset.congr fun x => ?_) _ _ _ (.inl rfl) (St.weak S' (by walk_at "lsub")); (rw [Bool.eq_iff_iff]; simp only [Bool.or_eq_true, Bool.and_eq_true, decide_eq_true_eq, htk]; constructor; (rintro (h | ⟨h1 | h1, h2⟩); exact .inl h; exact .inr ⟨h1, h2⟩; (subst h1; lia)); (rintro (h | ⟨h1, h2⟩); exact .inl h; exact .inr ⟨.inl h1, h2⟩)))
        ·
          replace hb := of_decide_eq_false hb
          have hc1 := hb
          with_reducible refine' ite_f ?_
          walk_at "exn"
          walk_at "nx"
          walk_at "exn"
          first
           | (refine X' _ (?_) (hset.add fun x => ?_) _ _ _ (.inl rfl) (St.weak S' (by walk_at "lsub")); (have := len_stored kvs (goals rs)[i'] (.bool true); lia); (rw [Bool.eq_iff_iff]; simp only [Bool.or_eq_true, Bool.and_eq_true, decide_eq_true_eq, htk]; constructor; (rintro (h | ⟨h1 | h1, h2⟩); exact .inr (.inl h); exact .inr (.inr ⟨h1, h2⟩); exact .inl h1); (rintro (rfl | h | ⟨h1, h2⟩); exact .inr ⟨.inr rfl, by lia, by lia⟩; exact .inl h; exact .inr ⟨.inl h1, h2⟩)))
           | (refine X' kvs (by lia) (hset.congr fun x => ?_) _ _ _ (.inl rfl) (St.weak S' (by walk_at "lsub")); (rw [Bool.eq_iff_iff]; simp only [Bool.or_eq_true, Bool.and_eq_true, decide_eq_true_eq, htk]; constructor; (rintro (h | ⟨h1 | h1, h2⟩); exact .inl h; exact .inr ⟨h1, h2⟩; (subst h1; lia)); (rintro (h | ⟨h1, h2⟩); exact .inl h; exact .inr ⟨.inl h1, h2⟩)))
      case done =>
        rintro kvs hkl hset h' t' S'
        walk_at "nx"
        walk_at "ex"
        with_reducible refine' wpAny_Return_some ?_
        walk_at "nm"
        walk_at "cret"
        with_reducible refine' rt_ret ?_
        obtain ⟨g9, hl9, hfz9, S9⟩ := St.freezeAllN (ΓD := []) S' rfl
        refine bk (ΓD' := []) (Λx := []) S9 (fun S => q g9 _ _ kvs _ (hgl2.trans hl9) (hfz9 (fd, _) (List.Mem.head _)) (hset.congr fun c => ?_) (by lia) S)
        rw [List.take_of_length_le (by have := (intsAre_nd hvi).1; lia), Bool.eq_iff_iff]
        unfold OnceI
        simp only [Bool.or_eq_true, Bool.and_eq_true, decide_eq_true_eq, List.mem_cons, List.not_mem_nil, or_false]
        constructor
        · rintro (h | ⟨h1, h2⟩)
          · exact .inl h
          · exact .inr ⟨List.count_pos_iff.mp (by lia), h1, h2⟩
        · rintro (h | ⟨_, h1, h2⟩)
          · exact .inl h
          · exact .inr ⟨h1, h2⟩
section
variable {w : World} {A : Around} {E : Value → Shared → Prop} {s : Shared} {h h' : Heap} {t : Nat} {K : Ent} {L : Addr} {m m' : Loc} {g : Frz} {Γ Γ' ΓD Λ : List (Addr × Cell)} {env : Env}
theorem in_tp2 {a : Addr} {x y z : Str} {tx ty tz : Tok} {Q : Value → Shared → Prop} (c : At w h.get? a (.tp [.str y ty, .str z tz])) (q : Q (.bool (decide (x = y ∨ x = z))) (sh s h t)) :
    wpAny (model PG w) A (compareOp .In (.str x tx) (.ref a)) Q E (sh s h t) := by
  obtain ⟨o, ho, hc, n, hd⟩ := c
  have sa : StrsAre [Value.str y ty, .str z tz] [y, z] := .cons _ _ (.cons _ _ .nil)
  refine in_tuple_strs (s := sh s h t) (ys := [y, z]) ⟨o, ho, hc, n, hd⟩ (show StrsAre [Value.str y ty, .str z tz] [y, z] from sa) ?_
  have e : ([y, z].any (· == x)) = decide (x = y ∨ x = z) := by
    rw [Bool.eq_iff_iff, List.any_eq_true, decide_eq_true_eq]
    constructor
    · rintro ⟨u, hu, e⟩
      have e := eq_of_beq e
      rcases List.mem_cons.mp hu with rfl | hu
      · exact .inl e.symm
      · cases List.mem_singleton.mp hu; exact .inr e.symm
    · rintro (rfl | rfl)
      · exact ⟨x, .head _, by rw [beq_self_eq_true]⟩
      · exact ⟨x, .tail _ (.head _), by rw [beq_self_eq_true]⟩
  rw [e]; exact q
end
def arg0 (r : Row) : Int := match r.args with | x :: _ => x.2 | [] => -1
def hset (F : Int → Option Int) (c v : Int) : Int → Option Int := fun x => if x = c then some v else F x
def hstep (P : Int → Bool) (F : Int → Option Int) (r : Row) : Int → Option Int :=
  if P r.dst = true ∧ r.op = "slot" then hset F r.dst r.more
  else if P r.dst = true ∧ (r.op = "copy" ∨ r.op = "add") then (match F (arg0 r) with | some v => hset F r.dst v | none => F) else F
def holdersOf (P : Int → Bool) (rs : List Row) : Int → Option Int := rs.foldl (hstep P) fun _ => none
def MapOk (kvs : List (Int × Value)) (F : Int → Option Int) : Prop := ∀ c, (valueAt kvs c = none ∧ F c = none) ∨ ∃ i t, valueAt kvs c = some (.int i t) ∧ F c = some i
theorem MapOk.set {kvs : List (Int × Value)} {F : Int → Option Int} {c v : Int} {t : Tok} (h : MapOk kvs F) : MapOk (stored kvs c (.int v t)) (hset F c v) := fun x => by
  rw [valueAt_stored]
  unfold hset
  by_cases q : x = c
  · rw [if_pos q, if_pos q]; exact .inr ⟨v, t, rfl, rfl⟩
  · rw [if_neg q, if_neg q]; exact h x
theorem MapOk.isSome {kvs : List (Int × Value)} {F : Int → Option Int} (h : MapOk kvs F) (c : Int) : (valueAt kvs c).isSome = (F c).isSome := by
  rcases h c with ⟨e1, e2⟩ | ⟨i, t, e1, e2⟩ <;> rw [e1, e2] <;> rfl
theorem holdersOf_take {P : Int → Bool} {rs : List Row} {i : Nat} {r : Row} (h : rs[i]? = some r) : holdersOf P (rs.take (i + 1)) = hstep P (holdersOf P (rs.take i)) r := by
  obtain ⟨hi, e⟩ := List.getElem?_eq_some_iff.mp h
  unfold holdersOf
  rw [← List.take_append_getElem hi, e, List.foldl_append]
  rfl
theorem ArgsOk.head {w : World} {g : Frz} {vs : List Value} {xs : List (Str × Int)} (h : ArgsOk w g vs xs) (n : xs ≠ []) : ∃ v vr x xr, vs = v :: vr ∧ xs = x :: xr ∧ ArgOk w g v x := by
  cases h with
  | nil => exact absurd rfl n
  | cons h _ => exact ⟨_, _, _, _, rfl, rfl, h⟩
theorem holders_ {w : World} {A : Around} {E : Value → Shared → Prop} {s : Shared} {hp : Heap} {tk : Nat} {K : Ent} {L : Addr} {m : Loc} {g : Frz} {Γ : List (Addr × Cell)} {n : Nat} {Q : Value → Shared → Prop} 
    (S : St w K L m g ([] ++ Γ) hp) (bs : Bs w K.B) (room : Room A (n + 1)) {rl od : Addr} {rvs : List Value} {rs : List Row} {okvs : List (Int × Value)} {P : Int → Bool} (hrl : At w g rl (.lx rvs)) (hrs : RowsOk w g rvs rs) (hrn : rvs.length ≤ 12) (hod : At w g od (.dI okvs)) (hok : SetOk okvs P) (hsh : ∀ r ∈ rs, (r.op = "copy" ∨ r.op = "add") → r.args ≠ [])
    (q : ∀ g' h' d kvs tk, g.le g' → At w g' d (.dI kvs) → MapOk kvs (holdersOf P rs) → kvs.length ≤ 20 → St w K L m g' ([] ++ Γ) h' → Q (.ref d) (sh s h' tk)) :
    wpAny (model PG w) A (call (.ref 264) [.ref rl, .ref od]) Q E (sh s hp tk) := by
  refine call_fn ([]) [("once", .ref od), ("rows", .ref rl)] S bs room (by rfl) (by kernel_rfl) (by rfl) (by kernel_rfl) ?_ (by decide) rfl rfl rfl
  intro L' h₁ tk' A' K' Pp hK room' bk S'
  subst hK
  walk_at "ex"
  ((with_reducible refine' wpAny_Assign_Name ?_ ?kIHb); (case kIHb => first | exact rfl | kernel_rfl))
  ((with_reducible refine' dict_0 ?kBa ?_); (case kBa => assumption)); intro fd h' S'
  walk_at "st"; intro h' t' S'
  replace S' : St w _ L' _ _ ([(fd, Cell.dI [])] ++ _) _ := S'
  walk_at "nx"
  walk_at "ex"
  ((with_reducible refine' for_ex ?_ ?kCb); (case kCb => intro _; rfl))
  walk_at "nm"
  refine iter_ls S' (S'.fz hrl).lx ?_; intro it' h' S'
  refine for_T (T := fun i R => ∀ kvs, kvs.length ≤ i → MapOk kvs (holdersOf P (rs.take i)) → R g ([(fd, Cell.dI kvs)])) (src_ls (by exact Room.hh (by assumption)) it' rl rvs) S' (fun i R H x0 x1 x2 => H _ _ fun R9 k9 => k9 x0 x1 x2) ?j0 ?ok ?hg ?step ?done
  case j0 =>
    exact fun R9 k9 => k9 [] (Nat.le_refl _) (fun c => .inl ⟨rfl, rfl⟩)
  case ok =>
    rintro i kvs _ _ h₁ S; exact (S.fz hrl).lx
  case hg => first | exact .inl ⟨_, _, rfl⟩ | exact .inr ⟨_, _, _, rfl, by walk_at "hgt"⟩
  case step =>
    rintro i' v' P' hi' hx' X' kvs hkl hmap h' t' S'
    with_reducible refine absG fun G9 k9 => ?_
    obtain ⟨r, hr, x, d, al, t1, t2, tl, mv, avs, rfl, hx1, hx2, hx3, hx4, hx5⟩ := hrs.get hx'
    with_reducible refine k9 ?_
    have hkl2 : kvs.length ≤ 20 := by lia
    with_reducible refine' assign_Name ?_
    walk_at "st"; intro h' t' S'
    walk_at "ex"
    with_reducible refine' wpAny_If ?_
    with_reducible refine' isTrue_and ?_
    ((with_reducible refine' wpAny_isTrue_Compare1 ?_ ?kIIb); (case kIIb => with_unfolding_all rfl))
    with_reducible refine' PyProof.Rows.Attribute_name ?_
    walk_at "nm"
    walk_at "geta"
    walk_at "nm"
    ((with_reducible refine' in_dI ?kHa ?kHb ?_); (case kHa => walk_at "at"); (case kHb => walk_at "ns"))
    with_reducible refine' wpAny_truthy_bool ?_
    refine ite_b (fun hb => ?_) (fun hb => ?_)
    ·
      skip
      have hP := hb
      with_reducible refine' isTrue_and ?_
      ((with_reducible refine' wpAny_isTrue_Compare1 ?_ ?kIKb); (case kIKb => with_unfolding_all rfl))
      with_reducible refine' PyProof.Rows.Attribute_name ?_
      walk_at "nm"
      walk_at "geta"
      with_reducible refine' k_str ?_
      refine PyProof.Rows.eq_str ?_
      with_reducible refine' wpAny_truthy_bool ?_
      refine ite_b (fun hb => ?_) (fun hb => ?_)
      ·
        replace hb := eq_of_beq hb
        have hS := hb
        obtain ⟨tm9, rfl⟩ := hx5 hb
        with_reducible refine' isTrue_and_nil ?_
        with_reducible refine' ite_t ?_
        walk_at "ex"
        ((with_reducible refine' wpAny_Assign_Subscript ?_ ?kNb); (case kNb => exact rfl))
        with_reducible refine' PyProof.Rows.Attribute_name ?_
        walk_at "nm"
        walk_at "geta"
        walk_at "nm"
        with_reducible refine' PyProof.Rows.Attribute_name ?_
        walk_at "nm"
        walk_at "geta"
        ((with_reducible refine' set_dI ?kQa ?kQb ?kQc ?_); (case kQa => assumption); (case kQb => walk_at "upd"); (case kQc => walk_at "sz")); intro h' S'
        walk_at "nx"
        walk_at "exn"
        walk_at "nx"
        walk_at "exn"
        first
         | (refine X' _ (?_) (?_) _ _ _ (.inl rfl) (St.weak S' (by walk_at "lsub")); (have := len_stored kvs r.dst (.int r.more tm9); lia); (rw [holdersOf_take hr, show hstep P (holdersOf P (rs.take i')) r = hset (holdersOf P (rs.take i')) r.dst r.more from by (unfold hstep; rw [if_pos ⟨by rw [← hok.1]; exact hP, hS⟩])]; exact hmap.set))
         | (refine X' _ (?_) (?_) _ _ _ (.inl rfl) (St.weak S' (by walk_at "lsub")); (have := len_stored kvs r.dst (.int fi ft); lia); (rw [holdersOf_take hr, show hstep P (holdersOf P (rs.take i')) r = hset (holdersOf P (rs.take i')) r.dst fi from by (unfold hstep; rw [if_neg (fun z => hS' z.2), if_pos ⟨by rw [← hok.1]; exact hP, hC⟩, ha0, hfi2])]; exact hmap.set))
         | (refine X' kvs (by lia) (?_) _ _ _ (.inl rfl) (St.weak S' (by walk_at "lsub")); (rw [holdersOf_take hr]; unfold hstep; first | (rw [if_neg (fun z => by rw [← hok.1, hP] at z; exact absurd z.1 (by decide)), if_neg (fun z => by rw [← hok.1, hP] at z; exact absurd z.1 (by decide))]; exact hmap) | (rw [if_neg (fun z => hS' z.2), if_neg (fun z => hC z.2)]; exact hmap) | (rw [if_neg (fun z => hS' z.2), if_pos ⟨by rw [← hok.1]; exact hP, hC⟩, ha0, hfn]; exact hmap)))
         | skip
      ·
        replace hb := ne_of_beq_false hb
        have hS' := hb
        with_reducible refine' ite_f ?_
        walk_at "ex"
        with_reducible refine' wpAny_If ?_
        with_reducible refine' isTrue_and ?_
        ((with_reducible refine' wpAny_isTrue_Compare1 ?_ ?kIMb); (case kIMb => with_unfolding_all rfl))
        with_reducible refine' PyProof.Rows.Attribute_name ?_
        walk_at "nm"
        walk_at "geta"
        walk_at "nm"
        ((with_reducible refine' in_dI ?kVa ?kVb ?_); (case kVa => walk_at "at"); (case kVb => walk_at "ns"))
        with_reducible refine' wpAny_truthy_bool ?_
        refine ite_b (fun hb => ?_) (fun hb => ?_)
        ·
          skip
          have hP := hb
          with_reducible refine' isTrue_and ?_
          ((with_reducible refine' wpAny_isTrue_Compare1 ?_ ?kIOb); (case kIOb => with_unfolding_all rfl))
          with_reducible refine' PyProof.Rows.Attribute_name ?_
          walk_at "nm"
          walk_at "geta"
          with_reducible refine' ev_tuple ?_
          walk_at "evl"
          ((with_reducible refine' new_tp ?kIPa ?_ ?kIPc); (case kIPa => assumption); (case kIPc => walk_at "sz")); intro a' h' S'
          refine in_tp2 (by walk_at "at") ?_
          with_reducible refine' wpAny_truthy_bool ?_
          refine ite_b (fun hb => ?_) (fun hb => ?_)
          ·
            replace hb := of_decide_eq_true hb
            have hC := hb
            replace S' := S'.drop
            with_reducible refine absG fun G9 k9 => ?_
            obtain ⟨v0, vr, x0, xr, rfl, hxs, a0, ta0, tb0, rfl, hat0⟩ := hx4.head (hsh r (List.mem_of_getElem? hr) hC)
            with_reducible refine k9 ?_
            have ha0 : arg0 r = x0.2 := by unfold arg0; rw [hxs]
            with_reducible refine' isTrue_and ?_
            ((with_reducible refine' wpAny_isTrue_Compare1 ?_ ?kIRb); (case kIRb => with_unfolding_all rfl))
            with_reducible refine' Subscript_ ?_
            with_reducible refine' Subscript_ ?_
            with_reducible refine' PyProof.Rows.Attribute_name ?_
            walk_at "nm"
            walk_at "geta"
            with_reducible refine' k_int ?_
            walk_at "tail"
            with_reducible refine' k_int ?_
            walk_at "tail"
            walk_at "nm"
            ((with_reducible refine' in_dI ?kBFa ?kBFb ?_); (case kBFa => walk_at "at"); (case kBFb => walk_at "ns"))
            with_reducible refine' wpAny_truthy_bool ?_
            refine ite_b (fun hb => ?_) (fun hb => ?_)
            ·
              skip
              obtain ⟨fi, ft, hfi1, hfi2⟩ : ∃ i t, valueAt kvs x0.2 = some (.int i t) ∧ holdersOf P (rs.take i') x0.2 = some i := by
                rcases hmap x0.2 with ⟨e, _⟩ | e
                · rw [e] at hb; exact absurd hb (by decide)
                · exact e
              with_reducible refine' isTrue_and_nil ?_
              with_reducible refine' ite_t ?_
              walk_at "ex"
              ((with_reducible refine' wpAny_Assign_Subscript ?_ ?kBIb); (case kBIb => exact rfl))
              with_reducible refine' Subscript_ ?_
              walk_at "nm"
              with_reducible refine' Subscript_ ?_
              with_reducible refine' Subscript_ ?_
              with_reducible refine' PyProof.Rows.Attribute_name ?_
              walk_at "nm"
              walk_at "geta"
              with_reducible refine' k_int ?_
              walk_at "tail"
              with_reducible refine' k_int ?_
              walk_at "tail"
              refine sub_dI (by walk_at "at") hfi1 ?_
              walk_at "nm"
              with_reducible refine' PyProof.Rows.Attribute_name ?_
              walk_at "nm"
              walk_at "geta"
              ((with_reducible refine' set_dI ?kBQa ?kBQb ?kBQc ?_); (case kBQa => assumption); (case kBQb => walk_at "upd"); (case kBQc => walk_at "sz")); intro h' S'
              walk_at "nx"
              walk_at "exn"
              walk_at "nx"
              walk_at "exn"
              walk_at "nx"
              walk_at "exn"
              first
               | (refine X' _ (?_) (?_) _ _ _ (.inl rfl) (St.weak S' (by walk_at "lsub")); (have := len_stored kvs r.dst (.int r.more tm9); lia); (rw [holdersOf_take hr, show hstep P (holdersOf P (rs.take i')) r = hset (holdersOf P (rs.take i')) r.dst r.more from by (unfold hstep; rw [if_pos ⟨by rw [← hok.1]; exact hP, hS⟩])]; exact hmap.set))
               | (refine X' _ (?_) (?_) _ _ _ (.inl rfl) (St.weak S' (by walk_at "lsub")); (have := len_stored kvs r.dst (.int fi ft); lia); (rw [holdersOf_take hr, show hstep P (holdersOf P (rs.take i')) r = hset (holdersOf P (rs.take i')) r.dst fi from by (unfold hstep; rw [if_neg (fun z => hS' z.2), if_pos ⟨by rw [← hok.1]; exact hP, hC⟩, ha0, hfi2])]; exact hmap.set))
               | (refine X' kvs (by lia) (?_) _ _ _ (.inl rfl) (St.weak S' (by walk_at "lsub")); (rw [holdersOf_take hr]; unfold hstep; first | (rw [if_neg (fun z => by rw [← hok.1, hP] at z; exact absurd z.1 (by decide)), if_neg (fun z => by rw [← hok.1, hP] at z; exact absurd z.1 (by decide))]; exact hmap) | (rw [if_neg (fun z => hS' z.2), if_neg (fun z => hC z.2)]; exact hmap) | (rw [if_neg (fun z => hS' z.2), if_pos ⟨by rw [← hok.1]; exact hP, hC⟩, ha0, hfn]; exact hmap)))
               | skip
            ·
              skip
              have hfn : holdersOf P (rs.take i') x0.2 = none := by
                have := hmap.isSome x0.2
                rw [hb] at this
                cases q : holdersOf P (rs.take i') x0.2 with
                | none => rfl
                | some v => rw [q] at this; cases this
              with_reducible refine' ite_f ?_
              walk_at "exn"
              walk_at "nx"
              walk_at "exn"
              walk_at "nx"
              walk_at "exn"
              first
               | (refine X' _ (?_) (?_) _ _ _ (.inl rfl) (St.weak S' (by walk_at "lsub")); (have := len_stored kvs r.dst (.int r.more tm9); lia); (rw [holdersOf_take hr, show hstep P (holdersOf P (rs.take i')) r = hset (holdersOf P (rs.take i')) r.dst r.more from by (unfold hstep; rw [if_pos ⟨by rw [← hok.1]; exact hP, hS⟩])]; exact hmap.set))
               | (refine X' _ (?_) (?_) _ _ _ (.inl rfl) (St.weak S' (by walk_at "lsub")); (have := len_stored kvs r.dst (.int fi ft); lia); (rw [holdersOf_take hr, show hstep P (holdersOf P (rs.take i')) r = hset (holdersOf P (rs.take i')) r.dst fi from by (unfold hstep; rw [if_neg (fun z => hS' z.2), if_pos ⟨by rw [← hok.1]; exact hP, hC⟩, ha0, hfi2])]; exact hmap.set))
               | (refine X' kvs (by lia) (?_) _ _ _ (.inl rfl) (St.weak S' (by walk_at "lsub")); (rw [holdersOf_take hr]; unfold hstep; first | (rw [if_neg (fun z => by rw [← hok.1, hP] at z; exact absurd z.1 (by decide)), if_neg (fun z => by rw [← hok.1, hP] at z; exact absurd z.1 (by decide))]; exact hmap) | (rw [if_neg (fun z => hS' z.2), if_neg (fun z => hC z.2)]; exact hmap) | (rw [if_neg (fun z => hS' z.2), if_pos ⟨by rw [← hok.1]; exact hP, hC⟩, ha0, hfn]; exact hmap)))
               | skip
          ·
            replace hb := of_decide_eq_false hb
            have hC := hb
            replace S' := S'.drop
            with_reducible refine' ite_f ?_
            walk_at "exn"
            walk_at "nx"
            walk_at "exn"
            walk_at "nx"
            walk_at "exn"
            first
             | (refine X' _ (?_) (?_) _ _ _ (.inl rfl) (St.weak S' (by walk_at "lsub")); (have := len_stored kvs r.dst (.int r.more tm9); lia); (rw [holdersOf_take hr, show hstep P (holdersOf P (rs.take i')) r = hset (holdersOf P (rs.take i')) r.dst r.more from by (unfold hstep; rw [if_pos ⟨by rw [← hok.1]; exact hP, hS⟩])]; exact hmap.set))
             | (refine X' _ (?_) (?_) _ _ _ (.inl rfl) (St.weak S' (by walk_at "lsub")); (have := len_stored kvs r.dst (.int fi ft); lia); (rw [holdersOf_take hr, show hstep P (holdersOf P (rs.take i')) r = hset (holdersOf P (rs.take i')) r.dst fi from by (unfold hstep; rw [if_neg (fun z => hS' z.2), if_pos ⟨by rw [← hok.1]; exact hP, hC⟩, ha0, hfi2])]; exact hmap.set))
             | (refine X' kvs (by lia) (?_) _ _ _ (.inl rfl) (St.weak S' (by walk_at "lsub")); (rw [holdersOf_take hr]; unfold hstep; first | (rw [if_neg (fun z => by rw [← hok.1, hP] at z; exact absurd z.1 (by decide)), if_neg (fun z => by rw [← hok.1, hP] at z; exact absurd z.1 (by decide))]; exact hmap) | (rw [if_neg (fun z => hS' z.2), if_neg (fun z => hC z.2)]; exact hmap) | (rw [if_neg (fun z => hS' z.2), if_pos ⟨by rw [← hok.1]; exact hP, hC⟩, ha0, hfn]; exact hmap)))
             | skip
        ·
          skip
          have hP := hb
          with_reducible refine' ite_f ?_
          walk_at "exn"
          walk_at "nx"
          walk_at "exn"
          walk_at "nx"
          walk_at "exn"
          first
           | (refine X' _ (?_) (?_) _ _ _ (.inl rfl) (St.weak S' (by walk_at "lsub")); (have := len_stored kvs r.dst (.int r.more tm9); lia); (rw [holdersOf_take hr, show hstep P (holdersOf P (rs.take i')) r = hset (holdersOf P (rs.take i')) r.dst r.more from by (unfold hstep; rw [if_pos ⟨by rw [← hok.1]; exact hP, hS⟩])]; exact hmap.set))
           | (refine X' _ (?_) (?_) _ _ _ (.inl rfl) (St.weak S' (by walk_at "lsub")); (have := len_stored kvs r.dst (.int fi ft); lia); (rw [holdersOf_take hr, show hstep P (holdersOf P (rs.take i')) r = hset (holdersOf P (rs.take i')) r.dst fi from by (unfold hstep; rw [if_neg (fun z => hS' z.2), if_pos ⟨by rw [← hok.1]; exact hP, hC⟩, ha0, hfi2])]; exact hmap.set))
           | (refine X' kvs (by lia) (?_) _ _ _ (.inl rfl) (St.weak S' (by walk_at "lsub")); (rw [holdersOf_take hr]; unfold hstep; first | (rw [if_neg (fun z => by rw [← hok.1, hP] at z; exact absurd z.1 (by decide)), if_neg (fun z => by rw [← hok.1, hP] at z; exact absurd z.1 (by decide))]; exact hmap) | (rw [if_neg (fun z => hS' z.2), if_neg (fun z => hC z.2)]; exact hmap) | (rw [if_neg (fun z => hS' z.2), if_pos ⟨by rw [← hok.1]; exact hP, hC⟩, ha0, hfn]; exact hmap)))
           | skip
    ·
      skip
      have hP := hb
      with_reducible refine' ite_f ?_
      walk_at "ex"
      with_reducible refine' wpAny_If ?_
      with_reducible refine' isTrue_and ?_
      ((with_reducible refine' wpAny_isTrue_Compare1 ?_ ?kITb); (case kITb => with_unfolding_all rfl))
      with_reducible refine' PyProof.Rows.Attribute_name ?_
      walk_at "nm"
      walk_at "geta"
      walk_at "nm"
      ((with_reducible refine' in_dI ?kBYa ?kBYb ?_); (case kBYa => walk_at "at"); (case kBYb => walk_at "ns"))
      with_reducible refine' wpAny_truthy_bool ?_
      refine ite_b (fun hb => (by exact absurd (hb.symm.trans hP) (by decide))) (fun hb => ?_)
      with_reducible refine' ite_f ?_
      walk_at "exn"
      walk_at "nx"
      walk_at "exn"
      walk_at "nx"
      walk_at "exn"
      first
       | (refine X' _ (?_) (?_) _ _ _ (.inl rfl) (St.weak S' (by walk_at "lsub")); (have := len_stored kvs r.dst (.int r.more tm9); lia); (rw [holdersOf_take hr, show hstep P (holdersOf P (rs.take i')) r = hset (holdersOf P (rs.take i')) r.dst r.more from by (unfold hstep; rw [if_pos ⟨by rw [← hok.1]; exact hP, hS⟩])]; exact hmap.set))
       | (refine X' _ (?_) (?_) _ _ _ (.inl rfl) (St.weak S' (by walk_at "lsub")); (have := len_stored kvs r.dst (.int fi ft); lia); (rw [holdersOf_take hr, show hstep P (holdersOf P (rs.take i')) r = hset (holdersOf P (rs.take i')) r.dst fi from by (unfold hstep; rw [if_neg (fun z => hS' z.2), if_pos ⟨by rw [← hok.1]; exact hP, hC⟩, ha0, hfi2])]; exact hmap.set))
       | (refine X' kvs (by lia) (?_) _ _ _ (.inl rfl) (St.weak S' (by walk_at "lsub")); (rw [holdersOf_take hr]; unfold hstep; first | (rw [if_neg (fun z => by rw [← hok.1, hP] at z; exact absurd z.1 (by decide)), if_neg (fun z => by rw [← hok.1, hP] at z; exact absurd z.1 (by decide))]; exact hmap) | (rw [if_neg (fun z => hS' z.2), if_neg (fun z => hC z.2)]; exact hmap) | (rw [if_neg (fun z => hS' z.2), if_pos ⟨by rw [← hok.1]; exact hP, hC⟩, ha0, hfn]; exact hmap)))
       | skip
  case done =>
    rintro kvs hkl hmap h' t' S'
    walk_at "nx"
    walk_at "ex"
    with_reducible refine' wpAny_Return_some ?_
    walk_at "nm"
    walk_at "cret"
    with_reducible refine' rt_ret ?_
    obtain ⟨g9, hl9, hfz9, S9⟩ := St.freezeAllN (ΓD := []) S' rfl
    rw [List.take_of_length_le (by have := hrs.len; lia)] at hmap
    exact bk (ΓD' := []) (Λx := []) S9 (fun S => q g9 _ _ kvs _ hl9 (hfz9 (fd, _) (List.Mem.head _)) hmap (by lia) S)
theorem miss_list {prog : Program} {w : World} {A : Around} {E : Value → Shared → Prop} {s : Shared} {a : Addr} {o : Obj} {xs : Array Value} {k : Nat} {name : Str} {Q : Option Value → Shared → Prop}
    (hx : s.heap.get? a = some o) (hc : o.cls = .type "list") (hdat : o.data = .seq xs k) (hd : o.dict = none) (hmiss : typeLookup (.type "list") name = pure none) (hname : (["__module__", "__name__", "__qualname__", "__doc__", "__annotations__"] : List Str).contains name = false) (hA : A.handled = none)
    (h : ∀ h' tk e, Heap.NewExcOf s.heap h' e "AttributeError" → Q none { s with heap := h', toks := tk }) (hsz : name.length + 100 ≤ sizeLine := by size_fits) :
    wpAny (model prog w) A (getAttr? (.ref a) name) Q E s := by
  obtain ⟨c, dct, dat, sl⟩ := o
  simp only at hc hdat hd
  subst hc hdat hd
  obtain ⟨hp, g, d, tk, os⟩ := s
  have hT : ∀ tk', (⟨hp, g, d, tk', os⟩ : Shared).TypeIs (.ref a) "list" := fun _ => ⟨_, hx, rfl⟩
  have f1 := sub_AttributeError
  have f3 := F.slot_list_getattribute.lookup
  have f4 := F.slot_list_getattribute.bind (.ref a)
  have f5 := am_list_getattr_none
  unfold getAttr? getAttrBy? getAttrBy
  repeat (any_goals (first | assumption | exact hT _ | ((with_reducible show wpAny _ _ (call (Value.builtin "list.__getattribute__") _ _) _ _ _); refine call_meets F.slot_list_getattribute (hT _) am_entry_list_getattribute (F.args_list_getattribute_2 _ _) (meets_getattribute_miss_list a xs k sl name _ hmiss hname hsz) ⟨hx, hA, fun h' tk' e hx' => ?_⟩) | wp_step))
  obtain ⟨t', u', he⟩ := hx'.there
  show wpAny _ _ (getattributeRaised _ _ _ _ _ _ _) _ _ _
  unfold getattributeRaised
  repeat (any_goals (first | assumption | wp_step))
  exact h _ _ _ hx'.of
theorem keys_miss_list : typeLookup (.type "list") "keys" = pure none := by rw [typeLookup_type, builtinLookup_eq_fast]; kernel_rfl
theorem plain_upd_loop : plainId "dict.update.loop" = true := by decide +kernel
theorem entry_upd_loop : entryFor table "dict.update.loop" = some Builtin.«dict.update.loop» := entryFor_of_fast (by kernel_rfl)
def PrsOk (w : World) (g : Frz) (vs : List Value) (kvs : List (Int × Value)) : Prop := vs.length = kvs.length ∧ ∀ (i : Nat) k v, kvs[i]? = some (k, v) → ∃ a t, vs[i]? = some (.ref a) ∧ At w g a (.tp [.int k t, v])
section
variable {w : World} {A : Around} {E : Value → Shared → Prop} {s : Shared} {h h' : Heap} {t : Nat} {K : Ent} {L : Addr} {m m' : Loc} {g : Frz} {Γ Γ' ΓD Λ : List (Addr × Cell)} {env : Env}
theorem merged_take {kvs : List (Int × Value)} {i : Nat} {k : Int} {v : Value} (h : kvs[i]? = some (k, v)) : merged [] (kvs.take (i + 1)) = stored (merged [] (kvs.take i)) k v := by
  obtain ⟨hi, e⟩ := List.getElem?_eq_some_iff.mp h
  rw [← List.take_append_getElem hi, e]
  unfold merged
  rw [List.foldl_append]; rfl
theorem len_merged (acc : List (Int × Value)) : ∀ kvs : List (Int × Value), (merged acc kvs).length ≤ acc.length + kvs.length := by
  intro kvs
  induction kvs generalizing acc with
  | nil => exact Nat.le_refl _
  | cons x r ih =>
    have := ih (stored acc x.1 x.2)
    have h2 := len_stored acc x.1 x.2
    unfold merged at this ⊢
    rw [List.foldl_cons]
    simp only [List.length_cons]
    lia
theorem upd_loop {R : Result → Shared → Prop} {it l d : Addr} {vs : List Value} {kvs : List (Int × Value)} (hh : A.handled = none) (hl : At w g l (.ls vs)) (hp : PrsOk w g vs kvs) (hz : vs.length ≤ 1000)
    (done : ∀ h' t', St w K L m g (ΓD ++ (d, .dI (merged [] kvs)) :: Λ) h' → R (.ok (.ret .none)) (sh s h' t')) :
    ∀ (k i : Nat) (h : Heap) (t : Nat) (z : Tok), i + k = vs.length → St w K L m g (ΓD ++ (it, lsIter l i) :: (d, .dI (merged [] (kvs.take i))) :: Λ) h →
      codeAny (model PG w) A (.builtin "dict.update.loop" ⟨[.ref d, .ref it, .int i z, .none], []⟩) R (sh s h t) := by
  intro k
  induction k with
  | zero =>
    intro i h t z hi S
    refine codeAny_builtin entry_upd_loop ?_
    rw [Around.under_plainId plain_upd_loop _]
    unfold Builtin.«dict.update.loop»
    obtain rfl : i = vs.length := by lia
    refine wpAny_bind ((src_ls (A := A.in1) hh it l vs).done (S.rd (List.mem_append_right _ (List.Mem.head _))) (S.fz hl) fun h' t' he => ?_)
    have S' := S.forget he
    rw [hp.1, List.take_length] at S'
    show wpAny _ _ (Builtin.Dict.addKeywords d [] >>= _) _ _ _
    exact wpAny_bind (wpAny_pure (wpAny_pure (done _ _ S')))
  | succ k ih =>
    intro i h t z hi S
    refine codeAny_builtin entry_upd_loop ?_
    rw [Around.under_plainId plain_upd_loop _]
    unfold Builtin.«dict.update.loop»
    refine wpAny_bind ((src_ls (A := A.in1) hh it l vs).item (i := i) (by lia) (S.rd (List.mem_append_right _ (List.Mem.head _))) (S.fz hl) fun v h' t' hv hat he => ?_)
    have S1 : St w K L m g (ΓD ++ (it, lsIter l (i + 1)) :: (d, .dI (merged [] (kvs.take i))) :: Λ) h' := S.updE (Upd.right .here) he hat
    obtain ⟨⟨k0, v0⟩, hkv⟩ : ∃ p, kvs[i]? = some p := ⟨kvs[i]'(by rw [← hp.1]; lia), by simp⟩
    obtain ⟨a, ta, hva, hta⟩ := hp.2 i k0 v0 hkv
    obtain rfl : v = .ref a := by have : vs[i]? = some v := hv; rw [hva] at this; cases this; rfl
    have hT := (S1.fz hta)
    obtain ⟨⟨oc, od, oda, osl⟩, ho, hoc, n9, hod⟩ := id hT
    dsimp only at hoc hod
    subst hoc hod
    show wpAny _ _ (_ >>= _) _ _ _
    refine wpAny_bind (wpAny_holding ?_)
    refine wpAny_bind (wpAny_tryCatch ?_)
    unfold Builtin.Dict.pairItems
    refine wpAny_bind (wpAny_typeOf ⟨_, ho, rfl⟩ ?_)
    rw [if_pos (by decide)]
    refine wpAny_bind (wpAny_seqItems ho rfl (wpAny_pure ?_))
    show wpAny _ _ (holding [.int k0 ta, v0] _) _ _ _
    refine wpAny_holding ?_
    refine wpAny_dictSet_pairs (s := sh s h' t') (intKind_is PG w k0 ta) (S1.rd (List.mem_append_right _ (.tail _ (.head _)))).dictI (fun h2 hd2 hs2 => ?_) (by have := len_merged [] (kvs.take i); simp at this; rw [sizeLine_eq]; lia)
    have S2 : St w K L m g (ΓD ++ (it, lsIter l (i + 1)) :: (d, .dI (merged [] (kvs.take (i + 1)))) :: Λ) h2 := S1.upd (Upd.right (.there .here)) hs2 (by rw [merged_take hkv]; exact At.ofDictI hd2)
    exact wpAny_pure ⟨plainId_quiet plain_upd_loop _, ih (i + 1) h2 _ _ (by lia) S2⟩
theorem dict_pairs {l : Addr} {vs : List Value} {kvs : List (Int × Value)} {Q : Value → Shared → Prop} (S : St w K L m g (ΓD ++ Λ) h) (hh : A.handled = none) (hl : At w g l (.lx vs)) (hp : PrsOk w g vs kvs) (hz : vs.length ≤ 1000)
    (q : ∀ d h' t', St w K L m g (ΓD ++ (d, .dI (merged [] kvs)) :: Λ) h' → Q (.ref d) (sh s h' t')) :
    wpAny (model PG w) A (call (.type "dict") [.ref l]) Q E (sh s h t) := by
  refine callType_codes (Q₁ := fun obj s₁ => obj = .ref h.objs.size ∧ s₁ = sh s (h.push { cls := .type "dict", data := .dict #[] }) t) F.kt_called_dict (F.kt_typeCall_dict_1 _) F.entry_dict_init (kt_code_dict_new _ ⟨rfl, rfl⟩) ?_
  rintro obj s₁ ⟨rfl, rfl⟩
  have S1 := S.pushL (o := { cls := .type "dict", data := .dict #[] }) (c := .dI []) okI rfl
  have hd := S1.rd (List.mem_append_right _ (List.Mem.head _))
  refine ⟨hd.dictI.typeIs, F.args_dict_init_2 _ _, ?_⟩
  unfold Builtin.«dict.__init__»
  refine wpAny_bind ?_
  unfold Builtin.Dict.selfAndRest
  refine wpAny_bind (wpAny_notOrdered_dict hd.dictI.typeIs ?_)
  show wpAny _ _ (pure (h.objs.size, [Value.ref l])) _ _ _
  refine wpAny_pure ?_
  show wpAny _ _ (Builtin.Dict.updateFrom "dict.__init__" h.objs.size (.ref l) [] .none) _ _ _
  unfold Builtin.Dict.updateFrom
  have hl1 := S1.fz hl
  obtain ⟨ol, ho, n9, rfl⟩ := id hl1
  refine wpAny_bind (wpAny_typeOf ⟨_, ho, rfl⟩ ?_)
  rw [if_pos (by decide)]
  refine wpAny_bind (miss_list (s := sh s (h.push { cls := .type "dict", data := .dict #[] }) t) ho rfl rfl rfl keys_miss_list (by decide) hh (fun h' tk e hx => ?_))
  have S2 := S1.ext hx.keeps
  simp only [Option.isNone_none, if_true]
  refine wpAny_bind (wpAny_rule ?_)
  refine wpAny_bind (iter_ls (ΓD := ΓD) (Λ := (h.objs.size, .dI []) :: Λ) S2 (S2.fz hl).lx fun it h3 S3 => ?_)
  refine wpAny_pure ⟨plainId_quiet plain_upd_loop _, upd_loop (ΓD := ΓD) (Λ := Λ) (A := A.in1) hh hl.lx hp hz (fun h' t' S' => ⟨rfl, q _ _ _ S'⟩) vs.length 0 _ _ _ (by lia) (by simpa [merged] using S3)⟩
end
def saidOf (F : Int → Option Int) (r : Row) : List (Str × Int) :=
  if r.op = "load" ∨ r.op = "move" ∨ (F r.dst).isSome = true then [] else if r.op = "store" then r.args.drop 1 else r.args
def argHit (F : Int → Option Int) (c : Int) (x : Str × Int) : Bool := decide (x.1 = "r") && decide (F x.2 = some c)
def slotHit (P : Int → Bool) (r : Row) (c : Int) : Bool := decide (r.op = "slot") && !P r.dst && decide (c = r.more)
def lostAt (P : Int → Bool) (F : Int → Option Int) (c : Int) (r : Row) : Bool := slotHit P r c || (saidOf F r).any (argHit F c)
def endRow (eargs : List (Str × Int)) : Row := ⟨"give", -1, eargs, 0⟩
def lostOf (P : Int → Bool) (F : Int → Option Int) (rs : List Row) (eargs : List (Str × Int)) (c : Int) : Bool := (rs ++ [endRow eargs]).any (lostAt P F c)
def dueOf (P : Int → Bool) (F : Int → Option Int) (rs : List Row) (eargs : List (Str × Int)) (n : Nat) (c : Int) : Bool := decide (0 ≤ c ∧ c < n) && !lostOf P F rs eargs c
structure RowSh (nsz : Nat) (r : Row) : Prop where
  a2 : r.args.length ≤ 2
  cp : r.op = "copy" → ∃ e : Int, r.args = ([("r", e)] : List (Str × Int))
  ad : r.op = "add" → ∃ e k : Int, r.args = ([("r", e), ("k", k)] : List (Str × Int))
  sl : r.op = "slot" → 0 ≤ r.more ∧ r.more < nsz ∧ r.args = []
  st : r.op = "store" → r.args.length = 2
  dst : -1 ≤ r.dst
theorem any_take {α : Type} {xs : List α} {i : Nat} {x : α} (h : xs[i]? = some x) (p : α → Bool) : (xs.take (i + 1)).any p = ((xs.take i).any p || p x) := by
  obtain ⟨hi, e⟩ := List.getElem?_eq_some_iff.mp h
  rw [← List.take_append_getElem hi, e, List.any_append]; simp
theorem ArgsOk.len {w : World} {g : Frz} {vs : List Value} {xs : List (Str × Int)} (h : ArgsOk w g vs xs) : vs.length = xs.length := by
  induction h with
  | nil => rfl
  | cons _ _ ih => simp [ih]
theorem ArgsOk.get {w : World} {g : Frz} {vs : List Value} {xs : List (Str × Int)} (h : ArgsOk w g vs xs) : ∀ {i : Nat} {v : Value}, vs[i]? = some v → ∃ x, xs[i]? = some x ∧ ArgOk w g v x := by
  induction h with
  | nil => intro i v e; simp at e
  | cons h _ ih =>
    intro i v e
    cases i with
    | zero => simp at e; subst e; exact ⟨_, rfl, h⟩
    | succ i => simpa using ih (by simpa using e)
theorem ArgsOk.drop {w : World} {g : Frz} {vs : List Value} {xs : List (Str × Int)} (h : ArgsOk w g vs xs) : ∀ n, ArgsOk w g (vs.drop n) (xs.drop n) := by
  induction h with
  | nil => intro n; simp; exact .nil
  | cons h k ih =>
    intro n
    cases n with
    | zero => exact .cons h k
    | succ n => simpa using ih n
def keepKvs (b : Int → Bool) (n : Nat) : List (Int × Value) := ((List.range n).filter fun j : Nat => b (j : Int)).map fun j : Nat => ((j : Int), Value.bool true)
theorem keepKvs_succ (b : Int → Bool) (n : Nat) : keepKvs b (n + 1) = keepKvs b n ++ (if b n = true then [((n : Int), Value.bool true)] else []) := by
  unfold keepKvs
  rw [List.range_succ, List.filter_append, List.map_append]
  congr 1
  by_cases q : b n = true
  · simp [q]
  · simp [q]
theorem keepKvs_len (b : Int → Bool) (n : Nat) : (keepKvs b n).length ≤ n := by
  unfold keepKvs
  rw [List.length_map]
  exact Nat.le_trans (List.length_filter_le _ _) (by simp)
theorem keepKvs_nodup (b : Int → Bool) (n : Nat) : ((keepKvs b n).map (·.1)).Nodup := by
  unfold keepKvs
  rw [List.map_map]
  unfold List.Nodup
  rw [List.pairwise_map]
  exact ((List.nodup_range).filter _).imp fun h e => h (Int.ofNat.inj e)
theorem valueAt_snoc {kvs : List (Int × Value)} {k c : Int} {v : Value} : (valueAt (kvs ++ [(k, v)]) c).isSome = ((valueAt kvs c).isSome || decide (k = c)) := by
  unfold valueAt
  rw [List.find?_append]
  cases q : kvs.find? (fun kv => decide (kv.1 = c)) with
  | some x => simp
  | none =>
    simp only [Option.none_or, List.find?_cons, List.find?_nil]
    by_cases e : k = c
    · simp [e]
    · simp [e]
theorem keepKvs_ok (b : Int → Bool) : ∀ n : Nat, SetOk (keepKvs b n) (fun c => decide (0 ≤ c ∧ c < n) && b c)
  | 0 => ⟨fun c => by simp [keepKvs, valueAt]; intro h1 h2; lia, fun kv h => by simp [keepKvs] at h⟩
  | n + 1 => by
    have ih := keepKvs_ok b n
    rw [keepKvs_succ]
    refine ⟨fun c => ?_, fun kv h => ?_⟩
    · by_cases q : b n = true
      · rw [if_pos q, valueAt_snoc, ih.1 c, Bool.eq_iff_iff]
        simp only [Bool.or_eq_true, Bool.and_eq_true, decide_eq_true_eq]
        constructor
        · rintro (⟨h1, h2⟩ | rfl)
          · exact ⟨by lia, h2⟩
          · exact ⟨by lia, q⟩
        · rintro ⟨h1, h2⟩
          by_cases e : (n : Int) = c
          · exact .inr e
          · exact .inl ⟨by lia, h2⟩
      · rw [if_neg q, List.append_nil, ih.1 c, Bool.eq_iff_iff]
        simp only [Bool.and_eq_true, decide_eq_true_eq]
        constructor
        · rintro ⟨h1, h2⟩; exact ⟨by lia, h2⟩
        · rintro ⟨h1, h2⟩
          refine ⟨?_, h2⟩
          by_cases e : (n : Int) = c
          · exact absurd (e ▸ h2) q
          · lia
    · rcases List.mem_append.mp h with h | h
      · exact ih.2 kv h
      · split at h
        · cases List.mem_singleton.mp h; rfl
        · simp at h
theorem PrsOk.mono {w : World} {g g' : Frz} {vs : List Value} {kvs : List (Int × Value)} (h : PrsOk w g vs kvs) (l : g.le g') : PrsOk w g' vs kvs :=
  ⟨h.1, fun i k v e => let ⟨a, t, e1, e2⟩ := h.2 i k v e; ⟨a, t, e1, e2.mono l⟩⟩
theorem PrsOk.snoc {w : World} {g : Frz} {vs : List Value} {kvs : List (Int × Value)} {a : Addr} {k : Int} {t : Tok} {v : Value} (h : PrsOk w g vs kvs) (e : At w g a (.tp [.int k t, v])) : PrsOk w g (vs ++ [.ref a]) (kvs ++ [(k, v)]) := by
  refine ⟨by simp [h.1], fun i k' v' e' => ?_⟩
  by_cases q : i < kvs.length
  · rw [List.getElem?_append_left q] at e'
    obtain ⟨a', t', e1, e2⟩ := h.2 i k' v' e'
    exact ⟨a', t', by rw [List.getElem?_append_left (by rw [h.1]; exact q)]; exact e1, e2⟩
  · rw [List.getElem?_append_right (by lia)] at e'
    have hi : i = kvs.length := by
      cases z : i - kvs.length with
      | zero => lia
      | succ n => rw [z] at e'; simp at e'
    subst hi
    simp at e'
    obtain ⟨rfl, rfl⟩ := e'
    exact ⟨a, t, by rw [← h.1]; simp, e⟩
theorem saidOf_len (F : Int → Option Int) (r : Row) : (saidOf F r).length ≤ r.args.length := by
  unfold saidOf
  split
  · exact Nat.zero_le _
  · split
    · simp
    · exact Nat.le_refl _
theorem saidOf_nil {F : Int → Option Int} {r : Row} (h : r.op = "load" ∨ r.op = "move" ∨ (F r.dst).isSome = true) : saidOf F r = [] := by unfold saidOf; rw [if_pos h]
theorem saidOf_st {F : Int → Option Int} {r : Row} (h1 : ¬(r.op = "load" ∨ r.op = "move")) (h2 : (F r.dst).isSome = false) (h3 : r.op = "store") : saidOf F r = r.args.drop 1 := by
  unfold saidOf
  rw [if_neg (fun z => by rcases z with z | z | z; exact h1 (.inl z); exact h1 (.inr z); rw [h2] at z; cases z), if_pos h3]
theorem saidOf_all {F : Int → Option Int} {r : Row} (h1 : ¬(r.op = "load" ∨ r.op = "move")) (h2 : (F r.dst).isSome = false) (h3 : ¬ r.op = "store") : saidOf F r = r.args := by
  unfold saidOf
  rw [if_neg (fun z => by rcases z with z | z | z; exact h1 (.inl z); exact h1 (.inr z); rw [h2] at z; cases z), if_neg h3]
theorem MapOk.there {kvs : List (Int × Value)} {F : Int → Option Int} (h : MapOk kvs F) {c : Int} (e : (valueAt kvs c).isSome = true) : ∃ i t, valueAt kvs c = some (.int i t) ∧ F c = some i := by
  rcases h c with ⟨z, _⟩ | z
  · rw [z] at e; cases e
  · exact z
section
variable {w : World} {A : Around} {E : Value → Shared → Prop} {s : Shared} {env : Env}
theorem sl_any {value : Expr} {lower upper step : Option Expr} {p pos : Pos} {Q : Value → Shared → Prop}
    (q : wpAny (model PG w) A (eval value env) (fun o s₁ => wpAny (model PG w) A (eval (.Slice lower upper step p) env) (fun i s₂ => s₂.TypeIs o "list" ∧ wpAny (model PG w) A (getItem o i) Q E s₂) E s₁) E s) :
    wpAny (model PG w) A (eval (.Subscript value (.Slice lower upper step p) pos) env) Q E s := by
  rw [arm_eval_Subscript]
  refine wpAny_bind (wpAny_mono q (fun o s₁ q1 => wpAny_bind (wpAny_holding (wpAny_mono q1 (fun i s₂ q2 => wpAny_bind (wpAny_standAt ?_)) fun _ _ x => x))) fun _ _ x => x)
  have fin : ∀ {l : List Value}, wpAny (model PG w) A (operate l (getItem o i)) (fun r s₃ => wpAny (model PG w) A (letTemporaryGo value o r >>= fun _ => pure r) Q E s₃) E s₂ :=
    fun {l} => wpAny_operating (wpAny_mono q2.2 (fun r s₃ h₃ => wpAny_bind (wpAny_letTemporaryGo (wpAny_pure h₃))) fun _ _ x => x)
  refine wpAny_bind ?_
  rw [getitemInPython_of_ne q2.1.not_modules]
  refine wpAny_bind (wpAny_specialOf q2.1 list_getitem_lookup ?_)
  cases step with
  | none => first
    | exact wpAny_pure (wpAny_bind (fin (l := [i, o])))
    | exact wpAny_pure (wpAny_bind (fin (l := [o, i])))
  | some st => first
    | exact wpAny_pure (wpAny_bind (fin (l := [i, o])))
    | exact wpAny_pure (wpAny_bind (fin (l := [o, i])))
theorem sl_x {value lo : Expr} {p pos : Pos} {Q : Value → Shared → Prop}
    (q : wpAny (model PG w) A (eval value env) (fun o s₁ => wpAny (model PG w) A (eval lo env) (fun vl s₂ => SlF w Q o vl .none s₂) E s₁) E s) : wpAny (model PG w) A (eval (.Subscript value (.Slice (some lo) none none p) pos) env) Q E s := by
  refine sl_any (wpAny_mono q (fun o s₁ h₁ => wpAny_Slice (wpAny_mono h₁ (fun vl s₂ h₂ => wpAny_evalPart_none ?_) fun _ _ e => e)) fun _ _ e => e)
  obtain ⟨l, items, lo', hi, rfl, hl, hsz, pl, pu, hQ⟩ := h₂
  rw [evalPart_none]
  refine wpAny_pure ⟨(hl.push _).typeIs, wpAny_getItem_list_slice (hl.push _) (Heap.IsSliceOf.new ..) pl pu .none (by simp) ?_ hsz⟩
  rw [Heap.size_push]
  exact hQ
end
theorem argHit_yes {F : Int → Option Int} {c fi : Int} {x : Str × Int} (h1 : x.1 = "r") (h2 : F x.2 = some fi) : argHit F c x = decide (c = fi) := by
  unfold argHit
  rw [Bool.eq_iff_iff]
  simp only [h1, h2, Bool.and_eq_true, decide_eq_true_eq, true_and, Option.some.injEq]
  exact eq_comm
theorem argHit_no {F : Int → Option Int} {c : Int} {x : Str × Int} (h : ¬ x.1 = "r" ∨ F x.2 = none) : argHit F c x = false := by
  unfold argHit
  rcases h with h | h <;> simp [h]
theorem slotHit_yes {P : Int → Bool} {r : Row} {c : Int} (h1 : r.op = "slot") (h2 : P r.dst = false) : slotHit P r c = decide (c = r.more) := by
  unfold slotHit; simp [h1, h2]
theorem slotHit_no {P : Int → Bool} {r : Row} {c : Int} (h : ¬ r.op = "slot" ∨ P r.dst = true) : slotHit P r c = false := by
  unfold slotHit
  rcases h with h | h <;> simp [h]
theorem private_ {w : World} {A : Around} {E : Value → Shared → Prop} {s : Shared} {hp : Heap} {tk : Nat} {K : Ent} {L : Addr} {m : Loc} {g : Frz} {Γ : List (Addr × Cell)} {n : Nat} {Q : Value → Shared → Prop} 
    (S : St w K L m g ([] ++ Γ) hp) (bs : Bs w K.B) (room : Room A (n + 4)) {rl od hd_ el : Addr} {rvs evs : List Value} {rs : List Row} {eargs : List (Str × Int)} {okvs hkvs : List (Int × Value)} {P : Int → Bool} {F : Int → Option Int} {many nsz : Nat} {tm : Tok} (hrl : At w g rl (.lx rvs)) (hrs : RowsOk w g rvs rs) (hrn : rvs.length ≤ 12) (hel : At w g el (.lx evs)) (hea : ArgsOk w g evs eargs) (hod : At w g od (.dI okvs)) (hok : SetOk okvs P) (hhd : At w g hd_ (.dI hkvs)) (hhk : MapOk hkvs F) (hsh : ∀ r ∈ rs, RowSh nsz r) (he2 : eargs.length ≤ 2) (hmn : many ≤ 3)
    (q : ∀ g' h' d kvs tk, g.le g' → At w g' d (.dI kvs) → SetOk kvs (dueOf P F rs eargs many) → kvs.length ≤ 20 → St w K L m g' ([] ++ Γ) h' → Q (.ref d) (sh s h' tk)) :
    wpAny (model PG w) A (call (.ref 269) [.ref rl, .ref od, .ref hd_, .ref el, .int many tm]) Q E (sh s hp tk) := by
  refine call_fnC ([]) [("many", .int many tm), ("ending", .ref el), ("holders", .ref hd_), ("once", .ref od), ("rows", .ref rl)] [("lost", none)] S bs room (by rfl) (by kernel_rfl) (by rfl) (by kernel_rfl) (by decide) (fun _ => by walk_at "lkf") (fun _ => by rfl) ?_ rfl rfl rfl
  intro L' h₁ tk' cl' Λ' A' K' Pp hCA hK room' bk S'
  subst hK
  obtain _ | hCA := hCA
  cases hCA
  walk_at "ex"
  ((with_reducible refine' wpAny_Assign_Name ?_ ?kIVb); (case kIVb => first | exact rfl | kernel_rfl))
  ((with_reducible refine' dict_0 ?kBa ?_); (case kBa => assumption)); intro fd h' S'
  walk_at "st"; intro h' t' S'
  replace S' : St w _ L' _ _ ([(fd, Cell.dI [])] ++ _) _ := S'
  walk_at "nx"
  walk_at "ex"
  ((with_reducible refine' for_ex ?_ ?kCb); (case kCb => intro _; rfl))
  with_reducible refine' wpAny_BinOp ?_
  walk_at "nm"
  with_reducible refine' ev_list ?_
  walk_at "ac"
  ((with_reducible refine' call_def_node ?kIWa ?kIWb (GStep _) (PStep _) ?_ ?kIWf ?kIWg ?kIWh ?kIWi ?kIWj ?kIWk); (case kIWa | kIWb => assumption); (case kIWf | kIWg | kIWj | kIWk => exact rfl); (case kIWh | kIWi => kernel_rfl))
  walk_at "ac"
  with_reducible refine' k_str ?_
  walk_at "ac"
  ((with_reducible refine' k_neg ?_); intro _)
  walk_at "evl"
  (refine ⟨St.base (by assumption), ?_⟩)
  refine mkStepL S' bs (room'.l (k := 0 + 2)) ?_
  intro g2 x9 d9 tl9 h' tk' hl2 hx91 hx92 S'
  with_reducible refine' args_nil ?_
  ((with_reducible refine' new_ls ?kIXa ?_ ?kIXc); (case kIXa => assumption); (case kIXc => walk_at "sz")); intro el9 h' S'
  refine add_ls S' (S'.fz (hrl.mono hl2)).lx (by walk_at "at") (by simp; lia) ?_
  intro rl2 g4 h' hl4 hrl2 S'
  have hlA := hl2.trans hl4
  have hrs2 : RowsOk w g4 (rvs ++ [.ref x9]) (rs ++ [endRow eargs]) := (hrs.mono hlA).snoc ⟨x9, d9, el, _, _, tl9, _, evs, rfl, hx91.mono hl4, hx92.mono hl4, hel.mono hlA, hea.mono hlA, fun h => absurd (show (Str.ofString "give") = Str.ofString "slot" from h) (by decide)⟩
  have hsh2 : ∀ r ∈ rs ++ [endRow eargs], r.args.length ≤ 2 ∧ (r.op = "store" → 1 ≤ r.args.length) := fun r hr => by
    rcases List.mem_append.mp hr with hr | hr
    · exact ⟨(hsh r hr).a2, fun e => by rw [(hsh r hr).st e]; decide⟩
    · cases List.mem_singleton.mp hr; exact ⟨he2, fun e => absurd (show (Str.ofString "give") = Str.ofString "store" from e) (by decide)⟩
  have hrn2 : (rvs ++ [Value.ref x9]).length ≤ 13 := by simp; lia
  generalize hrve : rvs ++ [Value.ref x9] = rvs2 at hrl2 hrs2 hrn2
  refine iter_ls S' (S'.fz hrl2).lx ?_; intro it' h' S'
  refine for_T (T := fun i R => ∀ g₁, ∀ kvs, g4.le g₁ → kvs.length ≤ 3 * i → SetOk kvs (fun c => ((rs ++ [endRow eargs]).take i).any (lostAt P F c)) → R g₁ ([(fd, Cell.dI kvs)])) (src_ls (by exact Room.hh (by assumption)) it' rl2 rvs2) S' (fun i R H x0 x1 x2 x3 x9 => H _ _ fun R9 k9 => k9 x0 x1 x2 x3 x9) ?j0 ?ok ?hg ?step ?done
  case j0 =>
    exact fun R9 k9 => k9 _ [] Frz.le.refl (Nat.le_refl _) ⟨fun c => by simp [valueAt], fun kv h => by simp at h⟩
  case ok =>
    rintro i g₁ kvs hle _ _ h₁ S; exact (S.fz (hrl2.mono hle)).lx
  case hg => first | exact .inl ⟨_, _, rfl⟩ | exact .inr ⟨_, _, _, rfl, by walk_at "hgt"⟩
  case step =>
    rintro i' v' P' hi' hx' X' g' kvs hle hkl hset h' t' S'
    with_reducible refine absG fun G9 k9 => ?_
    obtain ⟨r, hr, x, d, al, t1, t2, tl, mv, avs, rfl, hx1, hx2, hx3, hx4, hx5⟩ := (hrs2.mono hle).get hx'
    with_reducible refine k9 ?_
    have hrm := List.mem_of_getElem? hr
    have hkl0 : kvs.length ≤ 45 := by lia
    have hodz := (hod.mono hlA).mono hle
    have hhdz := (hhd.mono hlA).mono hle
    with_reducible refine' assign_Name ?_
    walk_at "st"; intro h' t' S'
    walk_at "ex"
    refine cutG (T := fun R => ∀ kvs2, kvs2.length ≤ 3 * i' + 1 → SetOk kvs2 (fun c => ((rs ++ [endRow eargs]).take i').any (lostAt P F c) || slotHit P r c) → R (([("many", .int many tm), ("ending", .ref el), ("holders", .ref hd_), ("once", .ref od), ("rows", .ref rl), ("row", .ref x)] : Loc)) g' ([(fd, Cell.dI kvs2)])) S' ?cutA ?cutB
    case cutA =>
      intro P9 hR9
      with_reducible refine' wpAny_If ?_
      with_reducible refine' isTrue_and ?_
      ((with_reducible refine' wpAny_isTrue_Compare1 ?_ ?kIYb); (case kIYb => with_unfolding_all rfl))
      with_reducible refine' PyProof.Rows.Attribute_name ?_
      walk_at "nm"
      walk_at "geta"
      with_reducible refine' k_str ?_
      refine PyProof.Rows.eq_str ?_
      with_reducible refine' wpAny_truthy_bool ?_
      refine ite_b (fun hb => ?_) (fun hb => ?_)
      ·
        replace hb := eq_of_beq hb
        have hS := hb
        obtain ⟨tm9, rfl⟩ := hx5 hb
        with_reducible refine' isTrue_and ?_
        ((with_reducible refine' wpAny_isTrue_Compare1 ?_ ?kJAb); (case kJAb => with_unfolding_all rfl))
        with_reducible refine' PyProof.Rows.Attribute_name ?_
        walk_at "nm"
        walk_at "geta"
        walk_at "nm"
        ((with_reducible refine' notin_dI ?kQa ?kQb ?_); (case kQa => walk_at "at"); (case kQb => walk_at "ns"))
        with_reducible refine' wpAny_truthy_bool ?_
        refine ite_b (fun hb => ?_) (fun hb => ?_)
        ·
          skip
          have hP : P r.dst = false := by rw [← hok.1]; simpa using hb
          with_reducible refine' isTrue_and_nil ?_
          with_reducible refine' ite_t ?_
          walk_at "ex"
          ((with_reducible refine' wpAny_Assign_Subscript ?_ ?kTb); (case kTb => exact rfl))
          with_reducible refine' wpAny_Constant_bool ?_
          walk_at "nm"
          with_reducible refine' PyProof.Rows.Attribute_name ?_
          walk_at "nm"
          walk_at "geta"
          ((with_reducible refine' set_dI ?kWa ?kWb ?kWc ?_); (case kWa => assumption); (case kWb => walk_at "upd"); (case kWc => walk_at "sz")); intro h' S'
          walk_at "nx"
          walk_at "exn"
          exact hR9 _ (by have := len_stored kvs r.more (.bool true); lia) (hset.add fun x => by rw [slotHit_yes hS hP, Bool.or_comm]) _ _ (St.weak S' (by walk_at "lsub"))
        ·
          skip
          have hP : P r.dst = true := by rw [← hok.1]; simpa using hb
          with_reducible refine' ite_f ?_
          walk_at "exn"
          exact hR9 kvs (by lia) (hset.congr fun x => by rw [slotHit_no (.inr hP), Bool.or_false]) _ _ (St.weak S' (by walk_at "lsub"))
      ·
        replace hb := ne_of_beq_false hb
        have hS := hb
        with_reducible refine' ite_f ?_
        walk_at "exn"
        exact hR9 kvs (by lia) (hset.congr fun x => by rw [slotHit_no (.inl hS), Bool.or_false]) _ _ (St.weak S' (by walk_at "lsub"))
    case cutB =>
      rintro kvs2 hkl2 hset2 h' t' S'
      walk_at "nx"
      walk_at "ex"
      ((with_reducible refine' wpAny_Assign_Name ?_ ?kJCb); (case kJCb => first | exact rfl | kernel_rfl))
      with_reducible refine' PyProof.Rows.Attribute_name ?_
      walk_at "nm"
      walk_at "geta"
      walk_at "st"; intro h' t' S'
      walk_at "nx"
      walk_at "ex"
      refine cutG (T := fun R => ∀ g1, ∀ sd, ∀ sv, g'.le g1 → At w g1 sd (.lx sv) → ArgsOk w g1 sv (saidOf F r) → R (([("many", .int many tm), ("ending", .ref el), ("holders", .ref hd_), ("once", .ref od), ("rows", .ref rl), ("row", .ref x), ("said", .ref sd)] : Loc)) g1 ([(fd, Cell.dI kvs2)])) S' ?cutA ?cutB
      case cutA =>
        intro P9 hR9
        with_reducible refine' wpAny_If ?_
        with_reducible refine' isTrue_or ?_
        ((with_reducible refine' wpAny_isTrue_Compare1 ?_ ?kJDb); (case kJDb => with_unfolding_all rfl))
        with_reducible refine' PyProof.Rows.Attribute_name ?_
        walk_at "nm"
        walk_at "geta"
        with_reducible refine' ev_tuple ?_
        walk_at "evl"
        ((with_reducible refine' new_tp ?kJEa ?_ ?kJEc); (case kJEa => assumption); (case kJEc => walk_at "sz")); intro a' h' S'
        refine in_tp2 (by walk_at "at") ?_
        with_reducible refine' wpAny_truthy_bool ?_
        refine ite_b (fun hb => ?_) (fun hb => ?_)
        ·
          replace hb := of_decide_eq_true hb
          have hA := hb
          replace S' := S'.drop
          with_reducible refine' ite_t ?_
          walk_at "ex"
          ((with_reducible refine' wpAny_Assign_Name ?_ ?kJGb); (case kJGb => first | exact rfl | kernel_rfl))
          with_reducible refine' ev_list ?_
          with_reducible refine' args_nil ?_
          ((with_reducible refine' new_ls ?kJHa ?_ ?kJHc); (case kJHa => assumption); (case kJHc => walk_at "sz")); intro al9 h' S'
          walk_at "st"; intro h' t' S'
          walk_at "nx"
          walk_at "exn"
          obtain ⟨gq, hlz, hsd, S'⟩ := S'.freezeL (S'.fresh0 rfl (List.Mem.head _))
          exact hR9 _ al9 [] hlz hsd (by rw [saidOf_nil (hA.elim .inl fun z => .inr (.inl z))]; exact .nil) _ _ (St.weak S' (by walk_at "lsub"))
        ·
          replace hb := of_decide_eq_false hb
          have hA := hb
          replace S' := S'.drop
          with_reducible refine' isTrue_or ?_
          ((with_reducible refine' wpAny_isTrue_Compare1 ?_ ?kJIb); (case kJIb => with_unfolding_all rfl))
          with_reducible refine' PyProof.Rows.Attribute_name ?_
          walk_at "nm"
          walk_at "geta"
          walk_at "nm"
          ((with_reducible refine' in_dI ?kBJa ?kBJb ?_); (case kBJa => walk_at "at"); (case kBJb => walk_at "ns"))
          with_reducible refine' wpAny_truthy_bool ?_
          refine ite_b (fun hb => ?_) (fun hb => ?_)
          ·
            skip
            have hB : (F r.dst).isSome = true := by rw [← hhk.isSome]; exact hb
            with_reducible refine' ite_t ?_
            walk_at "ex"
            ((with_reducible refine' wpAny_Assign_Name ?_ ?kJKb); (case kJKb => first | exact rfl | kernel_rfl))
            with_reducible refine' ev_list ?_
            with_reducible refine' args_nil ?_
            ((with_reducible refine' new_ls ?kJLa ?_ ?kJLc); (case kJLa => assumption); (case kJLc => walk_at "sz")); intro al9 h' S'
            walk_at "st"; intro h' t' S'
            walk_at "nx"
            walk_at "exn"
            obtain ⟨gq, hlz, hsd, S'⟩ := S'.freezeL (S'.fresh0 rfl (List.Mem.head _))
            exact hR9 _ al9 [] hlz hsd (by rw [saidOf_nil (.inr (.inr hB))]; exact .nil) _ _ (St.weak S' (by walk_at "lsub"))
          ·
            skip
            have hB : (F r.dst).isSome = false := by rw [← hhk.isSome]; exact hb
            with_reducible refine' isTrue_or_nil ?_
            with_reducible refine' ite_f ?_
            walk_at "ex"
            with_reducible refine' wpAny_If ?_
            ((with_reducible refine' wpAny_isTrue_Compare1 ?_ ?kJMb); (case kJMb => with_unfolding_all rfl))
            with_reducible refine' PyProof.Rows.Attribute_name ?_
            walk_at "nm"
            walk_at "geta"
            with_reducible refine' k_str ?_
            refine PyProof.Rows.eq_str ?_
            with_reducible refine' wpAny_truthy_bool ?_
            refine ite_b (fun hb => ?_) (fun hb => ?_)
            ·
              replace hb := eq_of_beq hb
              have hC := hb
              walk_at "ex"
              ((with_reducible refine' wpAny_Assign_Name ?_ ?kJOb); (case kJOb => first | exact rfl | kernel_rfl))
              with_reducible refine' sl_x ?_
              with_reducible refine' PyProof.Rows.Attribute_name ?_
              walk_at "nm"
              walk_at "geta"
              with_reducible refine' k_int ?_
              refine sl_finA S' (S'.fz hx3).lx (by have := hx4.len; have := (hsh2 r hrm).1; lia) (by decide) ?_
              intro sd9 gq h' hlz hsd S'
              replace hsd : At w gq sd9 (.lx (avs.drop 1)) := hsd
              walk_at "st"; intro h' t' S'
              walk_at "nx"
              walk_at "exn"
              walk_at "nx"
              walk_at "exn"
              exact hR9 _ sd9 (avs.drop 1) hlz hsd (by rw [saidOf_st hA hB hC]; exact (hx4.mono hlz).drop 1) _ _ (St.weak S' (by walk_at "lsub"))
            ·
              replace hb := ne_of_beq_false hb
              have hC := hb
              walk_at "exn"
              walk_at "nx"
              walk_at "exn"
              exact hR9 _ al avs Frz.le.refl hx3 (by rw [saidOf_all hA hB hC]; exact hx4) _ _ (St.weak S' (by walk_at "lsub"))
      case cutB =>
        rintro g9 sd9 sv9 hlz hsd hsa h' t' S'
        walk_at "nx"
        walk_at "ex"
        ((with_reducible refine' for_ex ?_ ?kBVb); (case kBVb => intro _; rfl))
        walk_at "nm"
        refine iter_ls S' (S'.fz hsd).lx ?_; intro it2 h' S'
        refine for_T (T := fun j R => ∀ kvs3, kvs3.length ≤ 3 * i' + 1 + j → SetOk kvs3 (fun c => (((rs ++ [endRow eargs]).take i').any (lostAt P F c) || slotHit P r c) || ((saidOf F r).take j).any (argHit F c)) → R g9 ([(fd, Cell.dI kvs3)])) (src_ls (by exact Room.hh (by assumption)) it2 sd9 sv9) S' (fun i R H x0 x1 x2 => H _ _ fun R9 k9 => k9 x0 x1 x2) ?j0B ?okB ?hgB ?stepB ?doneB
        case j0B =>
          exact fun R9 k9 => k9 kvs2 hkl2 (hset2.congr fun x => by simp)
        case okB =>
          rintro i kvs3 _ _ h₁ S; exact (S.fz hsd).lx
        case hgB =>
          refine .inr ⟨_, _, _, rfl, fun i v hv => ?_⟩
          obtain ⟨x, _, a0, _, _, e, _⟩ := hsa.get hv
          exact ⟨a0, e⟩
        case stepB =>
          rintro i' v' P' hi' hx' X' kvs3 hkl3 hset3 h' t' S'
          rename_i j
          with_reducible refine absG fun G9 k9 => ?_
          obtain ⟨x0, hx0, a0, ta0, tb0, rfl, hat0⟩ := hsa.get hx'
          with_reducible refine k9 ?_
          have hkl4 : kvs3.length ≤ 50 := by have := hsa.len; have := saidOf_len F r; have := (hsh2 r hrm).1; lia
          walk_at "unp"; intro h' S'
          (refine assignInOrder_cons ?_)
          with_reducible refine' assign_Name ?_
          walk_at "st"; intro h' t' S'
          (refine assignInOrder_cons ?_)
          with_reducible refine' assign_Name ?_
          walk_at "st"; intro h' t' S'
          (refine assignInOrder_nil ?_)
          walk_at "ex"
          with_reducible refine' wpAny_If ?_
          with_reducible refine' isTrue_and ?_
          ((with_reducible refine' wpAny_isTrue_Compare1 ?_ ?kJPb); (case kJPb => with_unfolding_all rfl))
          walk_at "nm"
          with_reducible refine' k_str ?_
          refine PyProof.Rows.eq_str ?_
          with_reducible refine' wpAny_truthy_bool ?_
          refine ite_b (fun hb => ?_) (fun hb => ?_)
          ·
            replace hb := eq_of_beq hb
            have hK := hb
            with_reducible refine' isTrue_and ?_
            ((with_reducible refine' wpAny_isTrue_Compare1 ?_ ?kJRb); (case kJRb => with_unfolding_all rfl))
            walk_at "nm"
            walk_at "nm"
            have hhdy := hhdz.mono hlz
            ((with_reducible refine' in_dI ?kCFa ?kCFb ?_); (case kCFa => walk_at "at"); (case kCFb => walk_at "ns"))
            with_reducible refine' wpAny_truthy_bool ?_
            refine ite_b (fun hb => ?_) (fun hb => ?_)
            ·
              skip
              obtain ⟨fi, ft, hfi1, hfi2⟩ := hhk.there hb
              with_reducible refine' isTrue_and_nil ?_
              with_reducible refine' ite_t ?_
              walk_at "ex"
              ((with_reducible refine' wpAny_Assign_Subscript ?_ ?kCIb); (case kCIb => exact rfl))
              with_reducible refine' wpAny_Constant_bool ?_
              walk_at "nm"
              with_reducible refine' Subscript_ ?_
              walk_at "nm"
              walk_at "nm"
              refine sub_dI (by walk_at "at") hfi1 ?_
              ((with_reducible refine' set_dI ?kCLa ?kCLb ?kCLc ?_); (case kCLa => assumption); (case kCLb => walk_at "upd"); (case kCLc => walk_at "sz")); intro h' S'
              walk_at "nx"
              walk_at "exn"
              walk_at "nx"
              walk_at "exn"
              exact X' _ (by have := len_stored kvs3 fi (.bool true); lia) (hset3.add fun x => by rw [any_take hx0, argHit_yes hK hfi2]; simp only [Bool.or_assoc, Bool.or_comm, Bool.or_left_comm]) _ _ _ (.inl rfl) (St.weak S' (by walk_at "lsub"))
            ·
              skip
              have hfn : F x0.2 = none := by
                have := hhk.isSome x0.2
                rw [hb] at this
                cases q : F x0.2 with
                | none => rfl
                | some v => rw [q] at this; cases this
              with_reducible refine' ite_f ?_
              walk_at "exn"
              walk_at "nx"
              walk_at "exn"
              exact X' kvs3 (by lia) (hset3.congr fun x => by rw [any_take hx0, argHit_no (.inr hfn), Bool.or_false]) _ _ _ (.inl rfl) (St.weak S' (by walk_at "lsub"))
          ·
            replace hb := ne_of_beq_false hb
            have hK := hb
            with_reducible refine' ite_f ?_
            walk_at "exn"
            walk_at "nx"
            walk_at "exn"
            exact X' kvs3 (by lia) (hset3.congr fun x => by rw [any_take hx0, argHit_no (.inl hK), Bool.or_false]) _ _ _ (.inl rfl) (St.weak S' (by walk_at "lsub"))
        case doneB =>
          rintro kvs3 hkl3 hset3 h' t' S'
          rw [show List.take (List.length sv9) (saidOf F r) = saidOf F r from List.take_of_length_le (by rw [hsa.len]; exact Nat.le_refl _)] at hset3
          walk_at "nx"
          walk_at "exn"
          exact X' _ kvs3 (hle.trans hlz) (by have := (hsh2 r hrm).1; have := saidOf_len F r; have := hsa.len; lia) (hset3.congr fun c => by rw [any_take hr, Bool.or_assoc]; rfl) _ _ _ (.inl rfl) (St.weak S' (by walk_at "lsub"))
  case done =>
    rintro g' kvs hle hkl hset h' t' S'
    have hkl0 : kvs.length ≤ 45 := by lia
    rw [List.take_of_length_le (by rw [← hrs2.len]; exact Nat.le_refl _)] at hset
    have hoz := hlA.trans hle
    walk_at "nx"
    walk_at "ex"
    with_reducible refine' wpAny_Return_some ?_
    ((with_reducible refine' call_ty_node ?kCPa ?kCPb (Ndict _) Bdict ?kCPe ?_ ?kCPg ?kCPh ?kCPi ?kCPj ?kCPk ?kCPl ?kCPm); (case kCPa | kCPb => assumption); (case kCPe => decide); (case kCPg | kCPh | kCPi | kCPl | kCPm => exact rfl); (case kCPj | kCPk => kernel_rfl))
    walk_at "ac"
    ((with_reducible refine' comp_ex ?_ ?kCQb ?kCQc ?kCQd ?kCQe); (case kCQb => intro _; rfl); (case kCQc | kCQd => exact rfl); (case kCQe => decide))
    ((with_reducible refine' call_ty_node ?kCRa ?kCRb (Nrange _) Brange ?kCRe ?_ ?kCRg ?kCRh ?kCRi ?kCRj ?kCRk ?kCRl ?kCRm); (case kCRa | kCRb => assumption); (case kCRe => decide); (case kCRg | kCRh | kCRi | kCRl | kCRm => exact rfl); (case kCRj | kCRk => kernel_rfl))
    walk_at "evl"
    ((with_reducible refine' rng1 ?kCSa ?_); (case kCSa => assumption)); intro ra h' t' S'
    refine iter_rg (n := many) S' (by walk_at "at") (by rw [range_n (by lia)]; simp) (by rcases (show many = 0 ∨ many = 1 ∨ many = 2 ∨ many = 3 by lia) with h | h | h | h <;> rw [h] <;> decide) ?_; intro it' h' S'
    ((with_reducible refine' new_ls ?kJTa ?_ ?kJTc); (case kJTa => assumption); (case kJTc => walk_at "sz")); intro bl h' S'
    refine comp_TF (T := fun i vs R => ∀ g₁, g'.le g₁ → vs.length ≤ i → PrsOk w g₁ vs (keepKvs (fun c => !lostOf P F rs eargs c) i) → R g₁) (src_rg (by exact Room.hh (by assumption)) it' 0 1 many) S' ?hn (fun i vs R H x0 x1 x2 x9 => H _ fun R9 k9 => k9 x0 x1 x2 x9) ?j0 ?ok ?keys (fun _ => rfl) ?step ?done (by decide) rfl
    case hn =>
      lia
    case j0 =>
      exact fun R9 k9 => k9 _ Frz.le.refl (Nat.le_refl _) ⟨rfl, fun i k v h => by simp [keepKvs] at h⟩
    case ok => intro K2 C i vs; intros; intro _ _ _; trivial
    case keys =>
      intro i vs; intros; first | assumption | (apply Nat.le_of_eq; assumption) | (subst_vars; simp; done) | (rename_i h; rw [h, List.length_map, List.length_take]; exact Nat.min_le_left _ _)
    case step =>
      rintro K2 C' i' v' vs' PE PF hK2 hi' hx' XE XF g' hgl0 hln hpr h' t' S'
      have bs : Bs w K2.B := by rw [hK2]; exact bs
      obtain ⟨t9, rfl⟩ := hx'
      with_reducible refine' assign_Name ?_
      walk_at "st"; intro h' t' S'
      with_reducible refine' if1 ?_
      ((with_reducible refine' wpAny_isTrue_Compare1 ?_ ?kJUb); (case kJUb => with_unfolding_all rfl))
      walk_at "nm"
      walk_at "nm"
      ((with_reducible refine' notin_dI ?kCVa ?kCVb ?_); (case kCVa => walk_at "at"); (case kCVb => walk_at "ns"))
      with_reducible refine' wpAny_truthy_bool ?_
      refine ite_b (fun hb => ?_) (fun hb => ?_)
      ·
        skip
        with_reducible refine' ev_tuple ?_
        walk_at "evl"
        ((with_reducible refine' new_tpF ?kCXa ?_ ?kCXc); (case kCXa => assumption); (case kCXc => walk_at "sz")); intro an gn h' hlan hatn S'
        refine XE _ _ (hgl0.trans hlan) (by simp; lia) (?_) _ _ _ S'
        rw [show (0 : Int) + (i' : Int) * 1 = i' by lia] at hb hatn
        rw [keepKvs_succ, if_pos (by rw [hset.1] at hb; exact hb)]
        exact (hpr.mono hlan).snoc hatn
      ·
        skip
        refine XF _ hgl0 (by lia) (?_) _ _ _ S'
        rw [show (0 : Int) + (i' : Int) * 1 = i' by lia] at hb
        rw [keepKvs_succ, if_neg (by rw [hset.1] at hb; exact fun z => absurd (hb.symm.trans z) (by decide)), List.append_nil]
        exact hpr
    case done =>
      rintro vs' g' hgl0 hln hpr h' t' hgl' S'
      obtain ⟨g6, hl6, hbl, S'⟩ := S'.freezeL (S'.fresh0 rfl (List.Mem.head _))
      with_reducible refine' args_nil ?_
      refine dict_pairs S' (by exact Room.hh (by assumption)) hbl (hpr.mono hl6) (by lia) ?_
      intro dd h' t' S'
      rw [merged_nodup (keepKvs (fun c => !lostOf P F rs eargs c) many) [] (by simpa using keepKvs_nodup _ many), List.nil_append] at S'
      walk_at "cret"
      with_reducible refine' rt_ret ?_
      obtain ⟨g9, hl9, hfz9, S9⟩ := St.freezeAllN (ΓD := []) S' rfl
      refine bk (ΓD' := []) (Λx := []) S9 (fun S => q g9 _ _ _ _ (hoz.trans (hgl0.trans (hl6.trans hl9))) (hfz9 (dd, _) (by first | exact .tail _ (.head _) | exact .head _ | exact List.mem_append_right _ (.head _))) ((keepKvs_ok _ many).congr fun c => rfl) (by have := keepKvs_len (fun c => !lostOf P F rs eargs c) many; lia) S)
def Gr.pd : Gr → PyData
  | .slot i => .int i | .nm s => .str s | .v n => .int n
def grEq (a b : Gr) : Bool := PyData.eqv (.tuple [.str a.kind, a.pd]) (.tuple [.str b.kind, b.pd])
theorem grEq_iff (a b : Gr) : grEq a b = true ↔ a = b := by
  cases a <;> cases b <;> simp [grEq, PyData.eqv, PyData.eqvAll, Gr.kind, Gr.pd] <;> exact fun h => absurd h (by decide)
section
variable {w : World} {A : Around} {E : Value → Shared → Prop} {s : Shared} {h h' : Heap} {t : Nat} {K : Ent} {L : Addr} {m m' : Loc} {g : Frz} {Γ Γ' ΓD Λ : List (Addr × Cell)} {env : Env}
theorem gr_at {r1 r2 : Gr} {t1 t2 : Tok} : SeqAt.EqAt A s (r1.val t1) (r2.val t2) (PyData.eqv r1.pd r2.pd) := by
  cases r1 <;> cases r2 <;> simp only [Gr.val, Gr.pd, PyData.eqv]
  · exact SeqAt.EqAt.int_int _ _ _ _
  · exact SeqAt.EqAt.int_str _ _ _ _
  · exact SeqAt.EqAt.int_int _ _ _ _
  · exact SeqAt.EqAt.str_int _ _ _ _
  · exact SeqAt.EqAt.str_str _ _ _ _
  · exact SeqAt.EqAt.str_int _ _ _ _
  · exact SeqAt.EqAt.int_int _ _ _ _
  · exact SeqAt.EqAt.int_str _ _ _ _
  · exact SeqAt.EqAt.int_int _ _ _ _
theorem eq_gr {a b : Addr} {r1 r2 : Gr} {t1 t2 t3 t4 : Tok} {n : Nat} {Q : Value → Shared → Prop} (c : At w h.get? a (.tp [.str r1.kind t1, r1.val t2])) (d : At w h.get? b (.tp [.str r2.kind t3, r2.val t4])) (r : Room A n) (q : Q (.bool (grEq r1 r2)) (sh s h t)) :
    wpAny (model PG w) A (compareOp .Eq (.ref a) (.ref b)) Q E (sh s h t) := by
  refine SeqAt.eq_tupleAt (s := sh s h t) (e := fun j => match j with | 0 => r1.kind == r2.kind | _ => PyData.eqv r1.pd r2.pd) c d (by have := r.u; lia) (fun j h1 h2 => ?_) ?_
  · match j, h1, h2 with
    | 0, _, _ => exact SeqAt.EqAt.str_str _ _ _ _
    | 1, _, _ => exact gr_at
  · have e : ((List.range (min 2 2)).all (fun j => match j with | 0 => r1.kind == r2.kind | _ => PyData.eqv r1.pd r2.pd) && (2 == 2)) = grEq r1 r2 := by
      simp [grEq, PyData.eqv, PyData.eqvAll, List.range, List.range.loop]
    exact e ▸ q
theorem eq_bb {a b : Addr} {x1 x2 : Bool} {n : Nat} {Q : Value → Shared → Prop} (c : At w h.get? a (.ls [.bool x1, .bool x2])) (d : At w h.get? b (.ls [.bool true, .bool true])) (r : Room A n) (q : Q (.bool (x1 && x2)) (sh s h t)) :
    wpAny (model PG w) A (compareOp .Eq (.ref a) (.ref b)) Q E (sh s h t) := by
  obtain ⟨o, ho, hc, m, hd⟩ := c
  obtain ⟨o', ho', hc', m', hd'⟩ := d
  refine eq_dataH (s := sh s h t) (da := .list [.bool x1, .bool x2]) (db := .list [.bool true, .bool true]) (reads_list_at ho hc hd (.cons (.bool _) (.cons (.bool _) .nil))) (reads_list_at ho' hc' hd' (.cons (.bool _) (.cons (.bool _) .nil))) (by cases x1 <;> cases x2 <;> rfl) rfl (by have := r.u; lia) ?_
  have e : PyData.eqv (.list [.bool x1, .bool x2]) (.list [.bool true, .bool true]) = (x1 && x2) := by cases x1 <;> cases x2 <;> rfl
  rw [e]; exact q
theorem keys_len {ka kb : List (Int × Value)} (na : (ka.map (·.1)).Nodup) (nb : (kb.map (·.1)).Nodup) (e : ∀ c, (valueAt ka c).isSome = (valueAt kb c).isSome) : ka.length = kb.length := by
  have mem : ∀ (l : List (Int × Value)) c, c ∈ l.map (·.1) ↔ (valueAt l c).isSome = true := fun l c => by
    unfold valueAt
    rw [Option.isSome_map, List.find?_isSome, List.mem_map]
    constructor
    · rintro ⟨x, hx, rfl⟩; exact ⟨x, hx, by simp⟩
    · rintro ⟨x, hx, q⟩; exact ⟨x, hx, by simpa using q⟩
  have p : (ka.map (·.1)).Perm (kb.map (·.1)) := by
    rw [List.perm_iff_count]
    intro c
    rw [na.count, nb.count]
    have : c ∈ ka.map (·.1) ↔ c ∈ kb.map (·.1) := by rw [mem, mem, e]
    by_cases q : c ∈ ka.map (·.1)
    · rw [if_pos q, if_pos (this.mp q)]
    · rw [if_neg q, if_neg (fun z => q (this.mpr z))]
  simpa using p.length_eq
theorem hits_of {kb : List (Int × Value)} : ∀ {ka : List (Int × Value)}, (∀ kv ∈ ka, ∃ y, valueAt kb kv.1 = some y ∧ SeqAt.EqAt A s kv.2 y true) → KeqHits A s kb ka true
  | [], _ => .nil
  | (k, v) :: r, h => by
    obtain ⟨y, e, q⟩ := h (k, v) (.head _)
    exact KeqHits.hit (e := true) (b := true) e q (hits_of fun kv hkv => h kv (.tail _ hkv))
theorem dict_ne {a b : Addr} {ka kb : List (Int × Value)} {n : Nat} {Q : Value → Shared → Prop} (ca : At w h.get? a (.dI ka)) (cb : At w h.get? b (.dI kb)) (ha : (a == sysModules) = false) (hb : (b == sysModules) = false) (r : Room A n)
    (e : ∀ c, (valueAt ka c).isSome = (valueAt kb c).isSome) (f : ∀ c x y, valueAt ka c = some x → valueAt kb c = some y → SeqAt.EqAt A.in1 (sh s h t) x y true) (q : Q (.bool false) (sh s h t)) :
    wpAny (model PG w) A (compareOp .NotEq (.ref a) (.ref b)) Q E (sh s h t) := by
  refine keq_ne (s := sh s h t) (r := true) ha hb ca.dictI cb.dictI (by have := r.u; lia) (fun _ => hits_of fun kv hkv => ?_) ?_
  · obtain ⟨i, hi⟩ := List.mem_iff_getElem?.mp hkv
    have h1 : valueAt ka kv.1 = some kv.2 := valueAt_of_get ca.dInd hi
    have h2 := e kv.1
    rw [h1] at h2
    obtain ⟨y, hy⟩ := Option.isSome_iff_exists.mp h2.symm
    exact ⟨y, hy, f _ _ _ h1 hy⟩
  · rw [keys_len ca.dInd cb.dInd e]; simpa using q
theorem set_ne {a b : Addr} {ka kb : List (Int × Value)} {P : Int → Bool} {n : Nat} {Q : Value → Shared → Prop} (ca : At w h.get? a (.dI ka)) (cb : At w h.get? b (.dI kb)) (ha : (a == sysModules) = false) (hb : (b == sysModules) = false) (r : Room A n)
    (sa : SetOk ka P) (sb : SetOk kb P) (q : Q (.bool false) (sh s h t)) : wpAny (model PG w) A (compareOp .NotEq (.ref a) (.ref b)) Q E (sh s h t) :=
  dict_ne ca cb ha hb r (fun c => by rw [sa.1, sb.1]) (fun c x y hx hy => by
    have val : ∀ {l : List (Int × Value)} {v}, valueAt l c = some v → SetOk l P → v = .bool true := fun {l v} e s => by
      unfold valueAt at e
      obtain ⟨kv, hf, rfl⟩ := Option.map_eq_some_iff.mp e
      exact s.2 kv (List.mem_of_find?_eq_some hf)
    rw [val hx sa, val hy sb]
    exact SeqAt.EqAt.same _) q
theorem map_ne {a b : Addr} {ka kb : List (Int × Value)} {F : Int → Option Int} {n : Nat} {Q : Value → Shared → Prop} (ca : At w h.get? a (.dI ka)) (cb : At w h.get? b (.dI kb)) (ha : (a == sysModules) = false) (hb : (b == sysModules) = false) (r : Room A n)
    (sa : MapOk ka F) (sb : MapOk kb F) (q : Q (.bool false) (sh s h t)) : wpAny (model PG w) A (compareOp .NotEq (.ref a) (.ref b)) Q E (sh s h t) :=
  dict_ne ca cb ha hb r (fun c => by rw [sa.isSome, sb.isSome]) (fun c x y hx hy => by
    obtain ⟨i, ti, e1, e2⟩ := sa.there (by rw [hx]; rfl)
    obtain ⟨j, tj, e3, e4⟩ := sb.there (by rw [hy]; rfl)
    rw [hx] at e1; rw [hy] at e3
    cases e1; cases e3
    rw [e2] at e4; cases e4
    have := SeqAt.EqAt.int_int (A := A.in1) (s := sh s h t) i ti i tj
    simpa using this) q
theorem src_tp (hh : A.handled = none) (it l : Addr) (vs : List Value) : Src w A it vs.length (fun i v => vs[i]? = some v) (fun i => tpIter l i) (fun h => At w h.get? l (.tp vs)) where
  item := fun {i s h t Q E} hi hit hl q => by
    refine wpAny_pyNext_tuple_item (s := sh s h t) hit hl.tup (x := vs[i]) (by simp [hi]) fun h' hit' hs => ?_
    exact q _ h' t (by simp [hi]) hit' hs.extBut
  done := fun {s h t Q E} hit hl q => wpAny_pyNext_tuple_end (s := sh s h t) hh hit hl.tup (by simp) fun h' he => q h' t he
  go := fun {i elts k pos v s h t Q E j} hit _ hv q => by
    obtain ⟨T, rfl⟩ := hv
    obtain ⟨o, ho, hc, hd⟩ := hit
    unfold letOwnedTupleGo
    refine wpAny_bind (wpAny_load (s := sh s h t) ho ?_)
    rw [hc, hd]
    exact wpAny_pure q
  self := fun {i s h t Q E} hit q => by
    obtain ⟨o, ho, hc, hd⟩ := hit
    have hT : (sh s h t).TypeIs (.ref it) "tuple_iterator" := ⟨o, ho, hc⟩
    refine wpAny_pyIter_slot hT PySem.F.slot_tuple_iterator_iter (wpAny_call_entry PySem.F.slot_tuple_iterator_iter hT PySem.F.entry_tuple_iterator_iter ?_ (PySem.F.args_tuple_iterator_iter_1 _))
    show wpAny _ _ (ret (.ref it)) _ _ _
    exact wpAny_pure ⟨_, rfl, "tuple_iterator", _, hT, PySem.F.slot_tuple_iterator_next.lookup, q⟩
theorem iter_tp {l : Addr} {vs : List Value} {Q : Value → Shared → Prop} (S : St w K L m g (ΓD ++ Λ) h) (c : At w h.get? l (.tp vs)) (q : ∀ it h', St w K L m g (ΓD ++ (it, tpIter l 0) :: Λ) h' → Q (.ref it) (sh s h' t)) :
    wpAny (model PG w) A (pyIter (.ref l)) Q E (sh s h t) :=
  wpAny_pyIter_tuple (s := sh s h t) c.tup (q _ _ (S.pushL (c := tpIter l 0) ⟨rfl, rfl⟩ rfl))
end
def insideB (sz : List Int) (r : Acc) : Bool := match r.gr with
  | .slot i => decide (0 ≤ r.off) && decide (r.off + r.oct ≤ sz.getD i.toNat 0) | .nm _ => true | .v _ => false
def aloneB (PV : Int → Bool) (r : Acc) : Bool := match r.gr with | .slot i => PV i | _ => false
def meetB (sz : List Int) (PV : Int → Bool) (a b : Acc) : Bool :=
  if grEq a.gr b.gr = true then decide ((a.off - b.off) % 4294967296 < b.oct) || decide (4294967296 - (a.off - b.off) % 4294967296 < a.oct)
  else !(insideB sz a && insideB sz b) && !(insideB sz a && aloneB PV a) && !(insideB sz b && aloneB PV b)
def PlaceOk (w : World) (g : Frz) (b : Addr) (r : Acc) : Prop := ∃ gv a t t1 t2 t3, gv = Value.ref a ∧ At w g b (.tp [gv, .int r.off t2, .int r.oct t3]) ∧ At w g a (.tp [.str r.gr.kind t, r.gr.val t1])
def SlotsOk (w : World) (g : Frz) (sl : Addr) (sz : List Int) : Prop := ∃ svs, At w g sl (.lx svs) ∧ svs.length = sz.length ∧ sz.length ≤ 3 ∧ ∀ (i : Nat) (z : Int), sz[i]? = some z → ∃ a t t', svs[i]? = some (.ref a) ∧ At w g a (.tp [.int z t, .int 4 t'])
theorem SlotsOk.mono {w : World} {g g' : Frz} {sl : Addr} {sz : List Int} (h : SlotsOk w g sl sz) (l : g.le g') : SlotsOk w g' sl sz :=
  let ⟨svs, c, e, f, k⟩ := h; ⟨svs, c.mono l, e, f, fun i z hz => let ⟨a, t, t', e1, e2⟩ := k i z hz; ⟨a, t, t', e1, e2.mono l⟩⟩
def SlotIn (sz : List Int) (r : Acc) : Prop := ∀ i, r.gr = .slot i → 0 ≤ i ∧ i < sz.length
theorem Gr.is_slot {r : Gr} (h : r.kind = "slot") : ∃ i, r = .slot i := by
  cases r with
  | slot i => exact ⟨i, rfl⟩
  | nm s => exact absurd (show Str.ofString "name" = Str.ofString "slot" from h) (by decide)
  | v n => exact absurd (show Str.ofString "v" = Str.ofString "slot" from h) (by decide)
theorem Gr.notSlot {r : Gr} (h : ¬ r.kind = "slot") : ∀ i, ¬ r = .slot i := fun i e => h (by rw [e]; rfl)
theorem aloneB_no {PV : Int → Bool} {r : Acc} (h : ∀ i, ¬ r.gr = .slot i) : aloneB PV r = false := by
  unfold aloneB
  cases q : r.gr with
  | slot i => exact absurd q (h i)
  | nm s => rfl
  | v n => rfl
theorem aloneB_yes {PV : Int → Bool} {r : Acc} {i : Int} (h : r.gr = .slot i) : aloneB PV r = PV i := by unfold aloneB; rw [h]
theorem insideB_slot {sz : List Int} {r : Acc} {i : Int} (h : r.gr = .slot i) : insideB sz r = (decide (0 ≤ r.off) && decide (r.off + r.oct ≤ sz.getD i.toNat 0)) := by unfold insideB; rw [h]
theorem insideB_other {sz : List Int} {r : Acc} (h : ¬ r.gr.kind = "slot") : insideB sz r = (r.gr.kind == "name") := by
  unfold insideB
  cases q : r.gr with
  | slot i => rw [q] at h; exact absurd rfl h
  | nm s => rfl
  | v n => rfl
theorem inside_ {w : World} {A : Around} {E : Value → Shared → Prop} {s : Shared} {hp : Heap} {tk : Nat} {K : Ent} {L : Addr} {m : Loc} {g : Frz} {Γ : List (Addr × Cell)} {n : Nat} {Q : Value → Shared → Prop} 
    (S : St w K L m g ([] ++ Γ) hp) (bs : Bs w K.B) (room : Room A (n + 1)) {pl sl : Addr} {r : Acc} {sz : List Int} (hpl : PlaceOk w g pl r) (hsl : SlotsOk w g sl sz) (hin : SlotIn sz r)
    (q : ∀ h' tk, St w K L m g ([] ++ Γ) h' → Q (.bool (insideB sz r)) (sh s h' tk)) :
    wpAny (model PG w) A (call (.ref 141) [.ref pl, .ref sl]) Q E (sh s hp tk) := by
  obtain ⟨svs, hsl1, hsl2, hsl3, hsl4⟩ := hsl
  obtain ⟨gv, ga, gt, gt1, ot, wt, rfl, hpl1, hpl2⟩ := hpl
  refine call_fn ([]) [("slots", .ref sl), ("place", .ref pl)] S bs room (by rfl) (by kernel_rfl) (by rfl) (by kernel_rfl) ?_ (by decide) rfl rfl rfl
  intro L' h₁ tk' A' K' Pp hK room' bk S'
  subst hK
  walk_at "ex"
  (first | ((with_reducible refine' Assign_Tuple ?_ ?kBb ?kBc); (case kBb | kBc => exact rfl)) | ((with_reducible refine' Assign_Tuple_swapped ?_ ?kBb ?kBc); (case kBb | kBc => exact rfl)))
  walk_at "nm"
  walk_at "unp"; intro h' S'
  (refine assignInOrder_cons ?_)
  (first | ((with_reducible refine' assign_Name ?_)) | ((with_reducible refine' bindName_ ?_)))
  walk_at "st"; intro h' t' S'
  (refine assignInOrder_cons ?_)
  (first | ((with_reducible refine' assign_Name ?_)) | ((with_reducible refine' bindName_ ?_)))
  walk_at "st"; intro h' t' S'
  (refine assignInOrder_cons ?_)
  (first | ((with_reducible refine' assign_Name ?_)) | ((with_reducible refine' bindName_ ?_)))
  walk_at "st"; intro h' t' S'
  (refine assignInOrder_nil ?_)
  walk_at "nx"
  walk_at "ex"
  with_reducible refine' wpAny_If ?_
  ((with_reducible refine' wpAny_isTrue_Compare1 ?_ ?kJZb); (case kJZb => with_unfolding_all rfl))
  walk_at "ev"
  with_reducible refine' k_str ?_
  refine PyProof.Rows.eq_str ?_
  with_reducible refine' wpAny_truthy_bool ?_
  refine ite_b (fun hb => ?_) (fun hb => ?_)
  ·
    replace hb := eq_of_beq hb
    with_reducible refine absG fun G9 k9 => ?_
    obtain ⟨i, hgi⟩ := Gr.is_slot hb
    rw [hgi] at hpl2
    obtain ⟨hi0, hi1⟩ := hin i hgi
    obtain ⟨z, hz⟩ : ∃ z, sz[i.toNat]? = some z := ⟨sz[i.toNat]'(by lia), List.getElem?_eq_getElem (by lia)⟩
    obtain ⟨sa, st1, st2, hsv, hsa⟩ := hsl4 _ _ hz
    with_reducible refine k9 ?_
    have hzd : sz.getD i.toNat 0 = z := by rw [List.getD_eq_getElem?_getD, hz]; rfl
    walk_at "ex"
    with_reducible refine' wpAny_Return_some ?_
    with_reducible refine' PyProof.Rows.BoolOp_and ?_
    walk_at "ev"
    with_reducible refine' wpAny_truthy_bool ?_
    refine ite_b (fun hb => ?_) (fun hb => ?_)
    ·
      replace hb := of_decide_eq_true hb
      have hO := hb
      with_reducible refine' PyProof.Rows.BoolOp_one ?_
      ((with_reducible refine' wpAny_Compare1 ?_ ?kLb); (case kLb => with_unfolding_all rfl))
      walk_at "ev"
      with_reducible refine' Subscript_ ?_
      with_reducible refine' Subscript_ ?_
      walk_at "nm"
      walk_at "ev"
      refine sub_ls (by walk_at "at") hi0 hsv ?_ (by lia)
      with_reducible refine' k_int ?_
      walk_at "tail"
      (first | ((with_reducible refine' PySem.P.le_int ?_)))
      walk_at "cret"
      with_reducible refine' rt_ret ?_
      refine bk (ΓD' := []) (Λx := []) S' (fun S => ?_)
      have e : insideB sz r = decide (r.off + r.oct ≤ z) := by rw [insideB_slot hgi, hzd]; simp [hO]
      rw [← e]
      exact q _ _ S
    ·
      replace hb := of_decide_eq_false hb
      have hO := hb
      walk_at "cret"
      with_reducible refine' rt_ret ?_
      refine bk (ΓD' := []) (Λx := []) S' (fun S => ?_)
      have e : insideB sz r = decide (0 ≤ r.off) := by rw [insideB_slot hgi, hzd]; simp [hO]
      rw [← e]
      exact q _ _ S
  ·
    replace hb := ne_of_beq_false hb
    have hS := hb
    walk_at "exn"
    walk_at "nx"
    walk_at "ex"
    with_reducible refine' wpAny_Return_some ?_
    ((with_reducible refine' wpAny_Compare1 ?_ ?kTb); (case kTb => with_unfolding_all rfl))
    walk_at "ev"
    with_reducible refine' k_str ?_
    refine PyProof.Rows.eq_str ?_
    walk_at "cret"
    with_reducible refine' rt_ret ?_
    refine bk (ΓD' := []) (Λx := []) S' (fun S => ?_)
    rw [← insideB_other (sz := sz) hS]
    exact q _ _ S
theorem meet_ {w : World} {A : Around} {E : Value → Shared → Prop} {s : Shared} {hp : Heap} {tk : Nat} {K : Ent} {L : Addr} {m : Loc} {g : Frz} {Γ : List (Addr × Cell)} {n : Nat} {Q : Value → Shared → Prop} 
    (S : St w K L m g ([] ++ Γ) hp) (bs : Bs w K.B) (room : Room A (n + 2)) {p1 p2 sl pd : Addr} {r1 r2 : Acc} {sz : List Int} {pkvs : List (Int × Value)} {PV : Int → Bool} (hplA : PlaceOk w g p1 r1) (hplB : PlaceOk w g p2 r2) (hsl : SlotsOk w g sl sz) (hinA : SlotIn sz r1) (hinB : SlotIn sz r2) (hpd : At w g pd (.dI pkvs)) (hpv : SetOk pkvs PV)
    (q : ∀ h' tk, St w K L m g ([] ++ Γ) h' → Q (.bool (meetB sz PV r1 r2)) (sh s h' tk)) :
    wpAny (model PG w) A (call (.ref 148) [.ref p1, .ref p2, .ref sl, .ref pd]) Q E (sh s hp tk) := by
  obtain ⟨gvA, gaA, gtA, gt1A, otA, wtA, rfl, hplA1, hplA2⟩ := hplA
  obtain ⟨gvB, gaB, gtB, gt1B, otB, wtB, rfl, hplB1, hplB2⟩ := hplB
  refine call_fn ([]) [("private", .ref pd), ("slots", .ref sl), ("other", .ref p2), ("one", .ref p1)] S bs room (by rfl) (by kernel_rfl) (by rfl) (by kernel_rfl) ?_ (by decide) rfl rfl rfl
  intro L' h₁ tk' A' K' Pp hK room' bk S'
  subst hK
  walk_at "ex"
  with_reducible refine' wpAny_If ?_
  ((with_reducible refine' wpAny_isTrue_Compare1 ?_ ?kKCb); (case kKCb => with_unfolding_all rfl))
  walk_at "ev"
  walk_at "ev"
  refine eq_gr (by walk_at "at") (by walk_at "at") room' ?_
  with_reducible refine' wpAny_truthy_bool ?_
  refine ite_b (fun hb => ?_) (fun hb => ?_)
  ·
    skip
    have hE := hb
    walk_at "ex"
    ((with_reducible refine' wpAny_Assign_Name ?_ ?kKEb); (case kKEb => first | exact rfl | kernel_rfl))
    with_reducible refine' wpAny_BinOp ?_
    walk_at "ev"
    ((with_reducible refine' nm_g ?kYa ?kYb (GROUND _) ?_ ?kYe ?kYf ?kYg ?kYh); (case kYa | kYb => assumption); (case kYe | kYf => exact rfl); (case kYg | kYh => kernel_rfl))
    ((with_reducible refine' i_mod ?kZa ?_); (case kZa => lia))
    walk_at "st"; intro h' t' S'
    walk_at "nx"
    walk_at "ex"
    with_reducible refine' wpAny_Return_some ?_
    with_reducible refine' PyProof.Rows.BoolOp_or ?_
    walk_at "ev"
    with_reducible refine' wpAny_truthy_bool ?_
    refine ite_b (fun hb => ?_) (fun hb => ?_)
    ·
      replace hb := of_decide_eq_true hb
      have hB := hb
      walk_at "cret"
      with_reducible refine' rt_ret ?_
      refine bk (ΓD' := []) (Λx := []) S' (fun S => ?_)
      have e : meetB sz PV r1 r2 = decide ((r1.off - r2.off) % 4294967296 < r2.oct) := by unfold meetB; rw [if_pos hE]; simp [hB]
      rw [← e]
      exact q _ _ S
    ·
      replace hb := of_decide_eq_false hb
      have hB := hb
      with_reducible refine' PyProof.Rows.BoolOp_one ?_
      ((with_reducible refine' wpAny_Compare1 ?_ ?kBEb); (case kBEb => with_unfolding_all rfl))
      with_reducible refine' wpAny_BinOp ?_
      ((with_reducible refine' nm_g ?kBGa ?kBGb (GROUND _) ?_ ?kBGe ?kBGf ?kBGg ?kBGh); (case kBGa | kBGb => assumption); (case kBGe | kBGf => exact rfl); (case kBGg | kBGh => kernel_rfl))
      walk_at "nm"
      with_reducible refine' i_sub ?_
      walk_at "ev"
      (first | ((with_reducible refine' PySem.P.lt_int ?_)))
      walk_at "cret"
      with_reducible refine' rt_ret ?_
      refine bk (ΓD' := []) (Λx := []) S' (fun S => ?_)
      have e : meetB sz PV r1 r2 = decide (4294967296 - (r1.off - r2.off) % 4294967296 < r1.oct) := by unfold meetB; rw [if_pos hE]; simp [hB]
      rw [← e]
      exact q _ _ S
  ·
    skip
    have hE := hb
    walk_at "exn"
    walk_at "nx"
    walk_at "ex"
    (first | ((with_reducible refine' Assign_Tuple ?_ ?kBKb ?kBKc); (case kBKb | kBKc => exact rfl)) | ((with_reducible refine' Assign_Tuple_swapped ?_ ?kBKb ?kBKc); (case kBKb | kBKc => exact rfl)))
    with_reducible refine' ev_tuple ?_
    walk_at "ac"
    ((with_reducible refine' call_def_node ?kBMa ?kBMb (Gis_inside _) (Pis_inside _) ?_ ?kBMf ?kBMg ?kBMh ?kBMi ?kBMj ?kBMk); (case kBMa | kBMb => assumption); (case kBMf | kBMg | kBMj | kBMk => exact rfl); (case kBMh | kBMi => kernel_rfl))
    walk_at "evl"
    (refine ⟨St.base (by assumption), ?_⟩)
    have hplA0 : PlaceOk w g p1 r1 := ⟨_, _, _, _, _, _, rfl, hplA1, hplA2⟩
    refine inside_ (Γ := []) (sz := sz) S' bs (room'.l (k := 0 + 1)) hplA0 hsl hinA ?_
    intro h' tk' S'
    walk_at "ac"
    ((with_reducible refine' call_def_node ?kBOa ?kBOb (Gis_inside _) (Pis_inside _) ?_ ?kBOf ?kBOg ?kBOh ?kBOi ?kBOj ?kBOk); (case kBOa | kBOb => assumption); (case kBOf | kBOg | kBOj | kBOk => exact rfl); (case kBOh | kBOi => kernel_rfl))
    walk_at "evl"
    (refine ⟨St.base (by assumption), ?_⟩)
    have hplB0 : PlaceOk w g p2 r2 := ⟨_, _, _, _, _, _, rfl, hplB1, hplB2⟩
    refine inside_ (Γ := []) (sz := sz) S' bs (room'.l (k := 0 + 1)) hplB0 hsl hinB ?_
    intro h' tk' S'
    with_reducible refine' args_nil ?_
    ((with_reducible refine' new_tp ?kKGa ?_ ?kKGc); (case kKGa => assumption); (case kKGc => walk_at "sz")); intro a' h' S'
    walk_at "unp"; intro h' S'
    (refine assignInOrder_cons ?_)
    (first | ((with_reducible refine' assign_Name ?_)) | ((with_reducible refine' bindName_ ?_)))
    walk_at "st"; intro h' t' S'
    (refine assignInOrder_cons ?_)
    (first | ((with_reducible refine' assign_Name ?_)) | ((with_reducible refine' bindName_ ?_)))
    walk_at "st"; intro h' t' S'
    (refine assignInOrder_nil ?_)
    walk_at "nx"
    walk_at "ex"
    with_reducible refine' wpAny_If ?_
    with_reducible refine' isTrue_and ?_
    ((with_reducible refine' isTrue_plain ?_ ?kBWb); (case kBWb => exact rfl))
    walk_at "nm"
    with_reducible refine' wpAny_truthy_bool ?_
    refine ite_b (fun hb => ?_) (fun hb => ?_)
    ·
      skip
      have hF := hb
      with_reducible refine' isTrue_and ?_
      ((with_reducible refine' isTrue_plain ?_ ?kBYb); (case kBYb => exact rfl))
      walk_at "nm"
      with_reducible refine' wpAny_truthy_bool ?_
      refine ite_b (fun hb => ?_) (fun hb => ?_)
      ·
        skip
        have hS := hb
        with_reducible refine' isTrue_and_nil ?_
        with_reducible refine' ite_t ?_
        walk_at "ex"
        with_reducible refine' wpAny_Return_some ?_
        with_reducible refine' wpAny_Constant_bool ?_
        walk_at "cret"
        with_reducible refine' rt_ret ?_
        refine bk (ΓD' := []) (Λx := []) S' (fun S => ?_)
        have e : meetB sz PV r1 r2 = false := by unfold meetB; rw [if_neg (by rw [hE]; decide)]; simp [hF, hS]
        rw [← e]
        exact q _ _ S
      ·
        skip
        have hS := hb
        with_reducible refine' ite_f ?_
        walk_at "exn"
        walk_at "nx"
        walk_at "ex"
        with_reducible refine' wpAny_If ?_
        with_reducible refine' isTrue_and ?_
        ((with_reducible refine' isTrue_plain ?_ ?kCHb); (case kCHb => exact rfl))
        walk_at "nm"
        with_reducible refine' wpAny_truthy_bool ?_
        refine ite_b (fun hb => ?_) (fun hb => (by exact absurd (hb.symm.trans hF) (by decide)))
        with_reducible refine' isTrue_and ?_
        ((with_reducible refine' wpAny_isTrue_Compare1 ?_ ?kKMb); (case kKMb => with_unfolding_all rfl))
        walk_at "ev"
        with_reducible refine' k_str ?_
        refine PyProof.Rows.eq_str ?_
        with_reducible refine' wpAny_truthy_bool ?_
        refine ite_b (fun hb => ?_) (fun hb => ?_)
        ·
          replace hb := eq_of_beq hb
          obtain ⟨i, hgi⟩ := Gr.is_slot hb
          have hg2 := hplA2
          rw [hgi] at hg2
          with_reducible refine' isTrue_and ?_
          ((with_reducible refine' wpAny_isTrue_Compare1 ?_ ?kKOb); (case kKOb => with_unfolding_all rfl))
          walk_at "ev"
          walk_at "nm"
          show wpAny _ _ (compareOp .In (.int i gt1A) (.ref pd)) _ _ _
          ((with_reducible refine' in_dI ?kCLa ?kCLb ?_); (case kCLa => walk_at "at"); (case kCLb => walk_at "ns"))
          with_reducible refine' wpAny_truthy_bool ?_
          refine ite_b (fun hb => ?_) (fun hb => ?_)
          ·
            skip
            have hV := hb
            rw [hpv.1] at hV
            with_reducible refine' isTrue_and_nil ?_
            with_reducible refine' ite_t ?_
            walk_at "ex"
            with_reducible refine' wpAny_Return_some ?_
            with_reducible refine' wpAny_Constant_bool ?_
            walk_at "cret"
            with_reducible refine' rt_ret ?_
            refine bk (ΓD' := []) (Λx := []) S' (fun S => ?_)
            have e : meetB sz PV r1 r2 = false := by unfold meetB; rw [if_neg (by rw [hE]; decide)]; simp [hF, hS, aloneB_yes hgi, hV]
            rw [← e]
            exact q _ _ S
          ·
            skip
            have hV := hb
            rw [hpv.1] at hV
            with_reducible refine' ite_f ?_
            walk_at "exn"
            walk_at "nx"
            walk_at "ex"
            with_reducible refine' wpAny_Return_some ?_
            with_reducible refine' wpAny_UnaryOp ?_
            with_reducible refine' PyProof.Rows.BoolOp_and ?_
            walk_at "nm"
            with_reducible refine' wpAny_truthy_bool ?_
            refine ite_b (fun hb => (by exact absurd (hb.symm.trans hS) (by decide))) (fun hb => ?_)
            with_reducible refine' PyProof.Rows.not_of ?_
            with_reducible refine' wpAny_truthy_bool ?_
            walk_at "cret"
            with_reducible refine' rt_ret ?_
            refine bk (ΓD' := []) (Λx := []) S' (fun S => ?_)
            have e : meetB sz PV r1 r2 = (!insideB sz r2) := by unfold meetB; rw [if_neg (by rw [hE]; decide)]; simp [hF, hS, aloneB_yes hgi, hV]
            rw [← e]
            exact q _ _ S
        ·
          replace hb := ne_of_beq_false hb
          have hK := Gr.notSlot hb
          with_reducible refine' ite_f ?_
          walk_at "exn"
          walk_at "nx"
          walk_at "ex"
          with_reducible refine' wpAny_Return_some ?_
          with_reducible refine' wpAny_UnaryOp ?_
          with_reducible refine' PyProof.Rows.BoolOp_and ?_
          walk_at "nm"
          with_reducible refine' wpAny_truthy_bool ?_
          refine ite_b (fun hb => (by exact absurd (hb.symm.trans hS) (by decide))) (fun hb => ?_)
          with_reducible refine' PyProof.Rows.not_of ?_
          with_reducible refine' wpAny_truthy_bool ?_
          walk_at "cret"
          with_reducible refine' rt_ret ?_
          refine bk (ΓD' := []) (Λx := []) S' (fun S => ?_)
          have e : meetB sz PV r1 r2 = (!insideB sz r2) := by unfold meetB; rw [if_neg (by rw [hE]; decide)]; simp [hF, hS, aloneB_no hK]
          rw [← e]
          exact q _ _ S
    ·
      skip
      have hF := hb
      with_reducible refine' ite_f ?_
      walk_at "exn"
      walk_at "nx"
      walk_at "ex"
      with_reducible refine' wpAny_If ?_
      with_reducible refine' isTrue_and ?_
      ((with_reducible refine' isTrue_plain ?_ ?kDGb); (case kDGb => exact rfl))
      walk_at "nm"
      with_reducible refine' wpAny_truthy_bool ?_
      refine ite_b (fun hb => (by exact absurd (hb.symm.trans hF) (by decide))) (fun hb => ?_)
      with_reducible refine' ite_f ?_
      walk_at "exn"
      walk_at "nx"
      walk_at "ex"
      with_reducible refine' wpAny_Return_some ?_
      with_reducible refine' wpAny_UnaryOp ?_
      with_reducible refine' PyProof.Rows.BoolOp_and ?_
      walk_at "nm"
      with_reducible refine' wpAny_truthy_bool ?_
      refine ite_b (fun hb => ?_) (fun hb => ?_)
      ·
        skip
        have hS := hb
        with_reducible refine' PyProof.Rows.BoolOp_and ?_
        ((with_reducible refine' wpAny_Compare1 ?_ ?kDMb); (case kDMb => with_unfolding_all rfl))
        walk_at "ev"
        with_reducible refine' k_str ?_
        refine PyProof.Rows.eq_str ?_
        with_reducible refine' wpAny_truthy_bool ?_
        refine ite_b (fun hb => ?_) (fun hb => ?_)
        ·
          skip
          obtain ⟨j, hgj⟩ := Gr.is_slot (eq_of_beq hb)
          have hg3 := hplB2
          rw [hgj] at hg3
          with_reducible refine' PyProof.Rows.BoolOp_one ?_
          ((with_reducible refine' wpAny_Compare1 ?_ ?kDPb); (case kDPb => with_unfolding_all rfl))
          walk_at "ev"
          walk_at "nm"
          show wpAny _ _ (compareOp .In (.int j gt1B) (.ref pd)) _ _ _
          ((with_reducible refine' in_dI ?kDQa ?kDQb ?_); (case kDQa => walk_at "at"); (case kDQb => walk_at "ns"))
          with_reducible refine' PyProof.Rows.not_of ?_
          with_reducible refine' wpAny_truthy_bool ?_
          walk_at "cret"
          with_reducible refine' rt_ret ?_
          refine bk (ΓD' := []) (Λx := []) S' (fun S => ?_)
          have e : meetB sz PV r1 r2 = (!(valueAt pkvs j).isSome) := by unfold meetB; rw [if_neg (by rw [hE]; decide)]; simp [hF, hS, aloneB_yes hgj, hpv.1]
          rw [← e]
          exact q _ _ S
        ·
          skip
          have hL0 := hb
          have hL := Gr.notSlot (ne_of_beq_false hb)
          with_reducible refine' PyProof.Rows.not_of ?_
          with_reducible refine' wpAny_truthy_bool ?_
          walk_at "cret"
          with_reducible refine' rt_ret ?_
          refine bk (ΓD' := []) (Λx := []) S' (fun S => ?_)
          have e : meetB sz PV r1 r2 = (!(r2.gr.kind == Str.ofString "slot")) := by unfold meetB; rw [if_neg (by rw [hE]; decide)]; simp [hF, hS, aloneB_no hL, hL0]
          rw [← e]
          exact q _ _ S
      ·
        skip
        have hS := hb
        with_reducible refine' PyProof.Rows.not_of ?_
        with_reducible refine' wpAny_truthy_bool ?_
        walk_at "cret"
        with_reducible refine' rt_ret ?_
        refine bk (ΓD' := []) (Λx := []) S' (fun S => ?_)
        have e : meetB sz PV r1 r2 = (!insideB sz r2) := by unfold meetB; rw [if_neg (by rw [hE]; decide)]; simp [hF, hS]
        rw [← e]
        exact q _ _ S
def realB (a b : Acc) : Bool := decide (a.num < b.num + b.oct) && decide (b.num < a.num + a.oct)
def lawMeets (sz : List Int) (PV : Int → Bool) (a b : Acc) : Bool :=
  if meetB sz PV b a != meetB sz PV a b then false
  else if grEq a.gr b.gr || realB a b then meetB sz PV a b == realB a b
  else if (insideB sz a && insideB sz b) || (insideB sz a && aloneB PV a) || (insideB sz b && aloneB PV b) then !(meetB sz PV a b) else true
section
variable {w : World} {A : Around} {E : Value → Shared → Prop} {s : Shared} {h : Heap} {t : Nat} {env : Env} {e : Expr}
theorem cutB {b : Bool} {Q : Value → Shared → Prop} (h1 : wpAny (model PG w) A (eval e env) (fun v s' => ∃ t', v = .bool b ∧ s' = sh s h t') E (sh s h t)) (h2 : ∀ t', Q (.bool b) (sh s h t')) : wpAny (model PG w) A (eval e env) Q E (sh s h t) :=
  wpAny_mono h1 (fun v s' ⟨t', e1, e2⟩ => by rw [e1, e2]; exact h2 t') fun _ _ e => e
end
theorem within_ {w : World} {A : Around} {E : Value → Shared → Prop} {s : Shared} {hp : Heap} {tk : Nat} {K : Ent} {L : Addr} {m : Loc} {g : Frz} {Γ : List (Addr × Cell)} {n : Nat} {Q : Value → Shared → Prop} 
    (S : St w K L m g ([] ++ Γ) hp) (bs : Bs w K.B) (room : Room A (n + 1)) {pl szl : Addr} {r : Acc} {sz : List Int} {szv : List Value} (hpl : PlaceOk w g pl r) (hsl : At w g szl (.ls szv)) (hsi : IntsAre szv sz) (hs3 : sz.length ≤ 3) (hin : SlotIn sz r)
    (q : ∀ h' tk, St w K L m g ([] ++ Γ) h' → Q (.bool (insideB sz r)) (sh s h' tk)) :
    wpAny (model PG w) A (call (.ref 276) [.ref pl, .ref szl]) Q E (sh s hp tk) := by
  obtain ⟨gv, ga, gt, gt1, ot, wt, rfl, hpl1, hpl2⟩ := hpl
  refine call_fn ([]) [("sizes", .ref szl), ("place", .ref pl)] S bs room (by rfl) (by kernel_rfl) (by rfl) (by kernel_rfl) ?_ (by decide) rfl rfl rfl
  intro L' h₁ tk' A' K' Pp hK room' bk S'
  subst hK
  walk_at "ex"
  (first | ((with_reducible refine' Assign_Tuple ?_ ?kBb ?kBc); (case kBb | kBc => exact rfl)) | ((with_reducible refine' Assign_Tuple_swapped ?_ ?kBb ?kBc); (case kBb | kBc => exact rfl)))
  walk_at "nm"
  walk_at "unp"; intro h' S'
  (refine assignInOrder_cons ?_)
  (first | ((with_reducible refine' assign_Name ?_)) | ((with_reducible refine' bindName_ ?_)))
  walk_at "st"; intro h' t' S'
  (refine assignInOrder_cons ?_)
  (first | ((with_reducible refine' assign_Name ?_)) | ((with_reducible refine' bindName_ ?_)))
  walk_at "st"; intro h' t' S'
  (refine assignInOrder_cons ?_)
  (first | ((with_reducible refine' assign_Name ?_)) | ((with_reducible refine' bindName_ ?_)))
  walk_at "st"; intro h' t' S'
  (refine assignInOrder_nil ?_)
  walk_at "nx"
  walk_at "ex"
  with_reducible refine' wpAny_Return_some ?_
  with_reducible refine' PyProof.Rows.BoolOp_or ?_
  ((with_reducible refine' wpAny_Compare1 ?_ ?kIb); (case kIb => with_unfolding_all rfl))
  walk_at "ev"
  with_reducible refine' k_str ?_
  refine PyProof.Rows.eq_str ?_
  with_reducible refine' wpAny_truthy_bool ?_
  refine ite_b (fun hb => ?_) (fun hb => ?_)
  ·
    skip
    have hN := hb
    walk_at "cret"
    with_reducible refine' rt_ret ?_
    refine bk (ΓD' := []) (Λx := []) S' (fun S => ?_)
    have e : insideB sz r = (r.gr.kind == Str.ofString "name") := by
      by_cases z : r.gr.kind = "slot"
      · obtain ⟨i, hgi⟩ := Gr.is_slot z
        rw [hgi] at hN; exact absurd (show (Str.ofString "slot" == Str.ofString "name") = true from hN) (by decide)
      · rw [insideB_other z]
    rw [← e]
    exact q _ _ S
  ·
    skip
    have hN := hb
    with_reducible refine' PyProof.Rows.BoolOp_one ?_
    with_reducible refine' PyProof.Rows.BoolOp_and ?_
    ((with_reducible refine' wpAny_Compare1 ?_ ?kNb); (case kNb => with_unfolding_all rfl))
    walk_at "ev"
    with_reducible refine' k_str ?_
    refine PyProof.Rows.eq_str ?_
    with_reducible refine' wpAny_truthy_bool ?_
    refine ite_b (fun hb => ?_) (fun hb => ?_)
    ·
      skip
      with_reducible refine absG fun G9 k9 => ?_
      obtain ⟨i, hgi⟩ := Gr.is_slot (eq_of_beq hb)
      have hg2 := hpl2
      rw [hgi] at hg2
      obtain ⟨hi0, hi1⟩ := hin i hgi
      have hsn := intsAre_nd hsi
      obtain ⟨tz, hz', hz⟩ := hsn.2 i.toNat szv[i.toNat] (List.getElem?_eq_getElem (by lia))
      with_reducible refine k9 ?_
      have hzv : szv[i.toNat]? = some (.int sz[i.toNat] tz) := by rw [List.getElem?_eq_getElem (by lia), hz]
      have hzd : sz.getD i.toNat 0 = sz[i.toNat] := by rw [List.getD_eq_getElem?_getD, List.getElem?_eq_getElem hz']; rfl
      with_reducible refine' PyProof.Rows.BoolOp_one ?_
      ((with_reducible refine' PyProof.Rows.Compare_chain ?_ ?kQb); (case kQb => with_unfolding_all rfl))
      with_reducible refine' k_int ?_
      with_reducible refine' PyProof.Rows.chain_link ?_
      walk_at "nm"
      (first | ((with_reducible refine' PySem.P.le_int ?_)))
      with_reducible refine' wpAny_truthy_bool ?_
      refine ite_b (fun hb => ?_) (fun hb => ?_)
      ·
        replace hb := of_decide_eq_true hb
        have hO := hb
        (refine PyProof.Rows.chain_last ?_)
        with_reducible refine' wpAny_BinOp ?_
        with_reducible refine' Subscript_ ?_
        walk_at "nm"
        walk_at "ev"
        (show wpAny _ _ (subscriptTail _ _ (.ref szl) (.int i _)) _ _ _)
        refine sub_ls (by walk_at "at") hi0 hzv ?_ (by lia)
        walk_at "nm"
        with_reducible refine' i_sub ?_
        (first | ((with_reducible refine' PySem.P.le_int ?_)))
        walk_at "cret"
        with_reducible refine' rt_ret ?_
        refine bk (ΓD' := []) (Λx := []) S' (fun S => ?_)
        have e : insideB sz r = decide (r.off ≤ sz[i.toNat] - r.oct) := by rw [insideB_slot hgi, hzd, Bool.eq_iff_iff]; simp only [Bool.and_eq_true, decide_eq_true_eq]; lia
        rw [← e]
        exact q _ _ S
      ·
        replace hb := of_decide_eq_false hb
        have hO := hb
        walk_at "cret"
        with_reducible refine' rt_ret ?_
        refine bk (ΓD' := []) (Λx := []) S' (fun S => ?_)
        have e : insideB sz r = decide (0 ≤ r.off) := by rw [insideB_slot hgi, hzd, Bool.eq_iff_iff]; simp only [Bool.and_eq_true, decide_eq_true_eq]; lia
        rw [← e]
        exact q _ _ S
    ·
      skip
      have hS := hb
      walk_at "cret"
      with_reducible refine' rt_ret ?_
      refine bk (ΓD' := []) (Λx := []) S' (fun S => ?_)
      have e : insideB sz r = (r.gr.kind == Str.ofString "slot") := by
        by_cases z : r.gr.kind = "slot"
        · obtain ⟨i, hgi⟩ := Gr.is_slot z
          rw [z] at hS; exact absurd hS (by decide)
        · rw [insideB_other z, hN, hS]
      rw [← e]
      exact q _ _ S
theorem meets_ {w : World} {A : Around} {E : Value → Shared → Prop} {s : Shared} {hp : Heap} {tk : Nat} {K : Ent} {L : Addr} {m : Loc} {g : Frz} {Γ : List (Addr × Cell)} {n : Nat} {Q : Value → Shared → Prop} 
    (S : St w K L m g ([] ++ Γ) hp) (bs : Bs w K.B) (room : Room A (n + 3)) {f1 f2 b1 b2 ah szl sl pd : Addr} {tn1 tn2 : Tok} {v1 v2 v3 v4 v5 v6 v7 : Value} {r1 r2 : Acc} {sz : List Int} {szv : List Value} {pkvs : List (Int × Value)} {PV : Int → Bool} (hf1 : At w g f1 (.tp [.int r1.num tn1, .ref b1])) (hf2 : At w g f2 (.tp [.int r2.num tn2, .ref b2])) (hplA : PlaceOk w g b1 r1) (hplB : PlaceOk w g b2 r2) (hah : At w g ah (.dS [("regs", v1), ("many", v2), ("next", v3), ("words", v4), ("sizes", .ref szl), ("seen", v5), ("out", v6), ("spots", v7)])) (hszl : At w g szl (.ls szv)) (hsi : IntsAre szv sz) (hsl : SlotsOk w g sl sz) (hs3 : sz.length ≤ 3) (hinA : SlotIn sz r1) (hinB : SlotIn sz r2) (hpd : At w g pd (.dI pkvs)) (hpv : SetOk pkvs PV)
    (q : ∀ h' tk, St w K L m g ([] ++ Γ) h' → Q (.bool (lawMeets sz PV r1 r2)) (sh s h' tk)) :
    wpAny (model PG w) A (call (.ref 281) [.ref f1, .ref f2, .ref ah, .ref sl, .ref pd]) Q E (sh s hp tk) := by
  obtain ⟨gvA, gaA, gtA, gt1A, otA, wtA, rfl, hplA1, hplA2⟩ := id hplA
  obtain ⟨gvB, gaB, gtB, gt1B, otB, wtB, rfl, hplB1, hplB2⟩ := id hplB
  refine call_fnC ([]) [("slots", .ref sl), ("house", .ref ah), ("second", .ref f2), ("first", .ref f1)] [("private", some (.ref pd))] S bs room (by rfl) (by kernel_rfl) (by rfl) (by kernel_rfl) (by decide) (fun _ => by walk_at "lkf") (fun _ => by rfl) ?_ rfl rfl rfl
  intro L' h₁ tk' cl' Λ' A' K' Pp hCA hK room' bk S'
  subst hK
  obtain _ | hCA := hCA
  cases hCA
  walk_at "ex"
  (first | ((with_reducible refine' Assign_Tuple ?_ ?kBCb ?kBCc); (case kBCb | kBCc => exact rfl)) | ((with_reducible refine' Assign_Tuple_swapped ?_ ?kBCb ?kBCc); (case kBCb | kBCc => exact rfl)))
  with_reducible refine' ev_tuple ?_
  walk_at "evl"
  ((with_reducible refine' new_tp ?kLGa ?_ ?kLGc); (case kLGa => assumption); (case kLGc => walk_at "sz")); intro a' h' S'
  walk_at "unp"; intro h' S'
  (refine assignInOrder_cons ?_)
  show wpAny _ _ (assign (.Tuple _ 0 _) _ _) _ _ _
  walk_at "unp"; intro h' S'
  (refine assignInOrder_cons ?_)
  (first | ((with_reducible refine' assign_Name ?_)) | ((with_reducible refine' bindName_ ?_)))
  walk_at "st"; intro h' t' S'
  (refine assignInOrder_cons ?_)
  (first | ((with_reducible refine' assign_Name ?_)) | ((with_reducible refine' bindName_ ?_)))
  walk_at "st"; intro h' t' S'
  (refine assignInOrder_nil ?_)
  (refine assignInOrder_cons ?_)
  show wpAny _ _ (assign (.Tuple _ 0 _) _ _) _ _ _
  walk_at "unp"; intro h' S'
  (refine assignInOrder_cons ?_)
  (first | ((with_reducible refine' assign_Name ?_)) | ((with_reducible refine' bindName_ ?_)))
  walk_at "st"; intro h' t' S'
  (refine assignInOrder_cons ?_)
  (first | ((with_reducible refine' assign_Name ?_)) | ((with_reducible refine' bindName_ ?_)))
  walk_at "st"; intro h' t' S'
  (refine assignInOrder_nil ?_)
  (refine assignInOrder_nil ?_)
  walk_at "nx"
  walk_at "ex"
  ((with_reducible refine' wpAny_Assign_Name ?_ ?kLLb); (case kLLb => first | exact rfl | kernel_rfl))
  ((with_reducible refine' call_def_node ?kBNa ?kBNb (Gmay_meet _) (Pmay_meet _) ?_ ?kBNf ?kBNg ?kBNh ?kBNi ?kBNj ?kBNk); (case kBNa | kBNb => assumption); (case kBNf | kBNg | kBNj | kBNk => exact rfl); (case kBNh | kBNi => kernel_rfl))
  walk_at "evl"
  (refine ⟨St.base (by assumption), ?_⟩)
  refine meet_ (Γ := _) (sz := sz) S' bs (room'.l (k := 0 + 2)) hplA hplB hsl hinA hinB hpd hpv ?_
  intro h' tk' S'
  walk_at "st"; intro h' t' S'
  walk_at "nx"
  walk_at "ex"
  with_reducible refine' wpAny_If ?_
  ((with_reducible refine' wpAny_isTrue_Compare1 ?_ ?kLMb); (case kLMb => with_unfolding_all rfl))
  ((with_reducible refine' call_def_node ?kBQa ?kBQb (Gmay_meet _) (Pmay_meet _) ?_ ?kBQf ?kBQg ?kBQh ?kBQi ?kBQj ?kBQk); (case kBQa | kBQb => assumption); (case kBQf | kBQg | kBQj | kBQk => exact rfl); (case kBQh | kBQi => kernel_rfl))
  walk_at "evl"
  (refine ⟨St.base (by assumption), ?_⟩)
  refine meet_ (Γ := _) (sz := sz) S' bs (room'.l (k := 0 + 2)) hplB hplA hsl hinB hinA hpd hpv ?_
  intro h' tk' S'
  walk_at "nm"
  refine PyProof.Rows.ne_bool ?_
  with_reducible refine' wpAny_truthy_bool ?_
  refine ite_b (fun hb => ?_) (fun hb => ?_)
  ·
    skip
    have hD := hb
    walk_at "ex"
    with_reducible refine' wpAny_Return_some ?_
    with_reducible refine' wpAny_Constant_bool ?_
    walk_at "cret"
    with_reducible refine' rt_ret ?_
    refine bk (ΓD' := []) (Λx := []) S' (fun S => ?_)
    have e : lawMeets sz PV r1 r2 = false := by unfold lawMeets; simp [hD]
    rw [← e]
    exact q _ _ S
  ·
    skip
    have hD := hb
    walk_at "exn"
    walk_at "nx"
    walk_at "ex"
    ((with_reducible refine' wpAny_Assign_Name ?_ ?kLOb); (case kLOb => first | exact rfl | kernel_rfl))
    refine cutB (b := realB r1 r2) ?cutA ?cutB
    case cutA =>
      with_reducible refine' PyProof.Rows.BoolOp_and ?_
      walk_at "ev"
      with_reducible refine' wpAny_truthy_bool ?_
      refine ite_b (fun hb => ?_) (fun hb => ?_)
      ·
        replace hb := of_decide_eq_true hb
        have hR1 := hb
        with_reducible refine' PyProof.Rows.BoolOp_one ?_
        walk_at "ev"
        exact ⟨_, by unfold realB; rw [decide_eq_true hR1, Bool.true_and], rfl⟩
      ·
        replace hb := of_decide_eq_false hb
        have hR1 := hb
        exact ⟨_, by unfold realB; rw [decide_eq_false hR1, Bool.false_and], rfl⟩
    case cutB =>
      intro t'
      walk_at "st"; intro h' t' S'
      walk_at "nx"
      walk_at "ex"
      with_reducible refine' wpAny_If ?_
      with_reducible refine' isTrue_or ?_
      ((with_reducible refine' wpAny_isTrue_Compare1 ?_ ?kLQb); (case kLQb => with_unfolding_all rfl))
      walk_at "ev"
      walk_at "ev"
      refine eq_gr (by walk_at "at") (by walk_at "at") room' ?_
      with_reducible refine' wpAny_truthy_bool ?_
      refine ite_b (fun hb => ?_) (fun hb => ?_)
      ·
        skip
        have hE := hb
        with_reducible refine' ite_t ?_
        walk_at "ex"
        with_reducible refine' wpAny_Return_some ?_
        ((with_reducible refine' wpAny_Compare1 ?_ ?kCBb); (case kCBb => with_unfolding_all rfl))
        walk_at "nm"
        walk_at "nm"
        refine PyProof.Rows.eq_bool ?_
        walk_at "cret"
        with_reducible refine' rt_ret ?_
        refine bk (ΓD' := []) (Λx := []) S' (fun S => ?_)
        have e : lawMeets sz PV r1 r2 = (meetB sz PV r1 r2 == realB r1 r2) := by unfold lawMeets; simp [hD, hE]
        rw [← e]
        exact q _ _ S
      ·
        skip
        have hE := hb
        with_reducible refine' isTrue_or ?_
        ((with_reducible refine' isTrue_plain ?_ ?kCEb); (case kCEb => exact rfl))
        walk_at "nm"
        with_reducible refine' wpAny_truthy_bool ?_
        refine ite_b (fun hb => ?_) (fun hb => ?_)
        ·
          skip
          have hR := hb
          with_reducible refine' ite_t ?_
          walk_at "ex"
          with_reducible refine' wpAny_Return_some ?_
          ((with_reducible refine' wpAny_Compare1 ?_ ?kCHb); (case kCHb => with_unfolding_all rfl))
          walk_at "nm"
          walk_at "nm"
          refine PyProof.Rows.eq_bool ?_
          walk_at "cret"
          with_reducible refine' rt_ret ?_
          refine bk (ΓD' := []) (Λx := []) S' (fun S => ?_)
          have e : lawMeets sz PV r1 r2 = (meetB sz PV r1 r2 == realB r1 r2) := by unfold lawMeets; simp [hD, hE, hR]
          rw [← e]
          exact q _ _ S
        ·
          skip
          have hR := hb
          with_reducible refine' isTrue_or_nil ?_
          with_reducible refine' ite_f ?_
          walk_at "exn"
          walk_at "nx"
          walk_at "ex"
          ((with_reducible refine' wpAny_Assign_Name ?_ ?kLTb); (case kLTb => first | exact rfl | kernel_rfl))
          with_reducible refine' ev_list ?_
          walk_at "ac"
          ((with_reducible refine' call_def_node ?kCMa ?kCMb (G_law_within _) (P_law_within _) ?_ ?kCMf ?kCMg ?kCMh ?kCMi ?kCMj ?kCMk); (case kCMa | kCMb => assumption); (case kCMf | kCMg | kCMj | kCMk => exact rfl); (case kCMh | kCMi => kernel_rfl))
          walk_at "evl"
          (refine ⟨St.base (by assumption), ?_⟩)
          refine within_ (Γ := _) (sz := sz) S' bs (room'.l (k := 0 + 1)) hplA hszl hsi hs3 hinA ?_
          intro h' tk' S'
          walk_at "ac"
          ((with_reducible refine' call_def_node ?kCOa ?kCOb (G_law_within _) (P_law_within _) ?_ ?kCOf ?kCOg ?kCOh ?kCOi ?kCOj ?kCOk); (case kCOa | kCOb => assumption); (case kCOf | kCOg | kCOj | kCOk => exact rfl); (case kCOh | kCOi => kernel_rfl))
          walk_at "evl"
          (refine ⟨St.base (by assumption), ?_⟩)
          refine within_ (Γ := _) (sz := sz) S' bs (room'.l (k := 0 + 1)) hplB hszl hsi hs3 hinB ?_
          intro h' tk' S'
          with_reducible refine' args_nil ?_
          ((with_reducible refine' new_ls ?kLUa ?_ ?kLUc); (case kLUa => assumption); (case kLUc => walk_at "sz")); intro a' h' S'
          walk_at "st"; intro h' t' S'
          walk_at "nx"
          walk_at "ex"
          ((with_reducible refine' comp_exA ?_ ?kCRb ?kCRc ?kCRd ?kCRe ?kCRf); (case kCRb => first | exact rfl | kernel_rfl); (case kCRc => intro _; rfl); (case kCRd | kCRe => exact rfl); (case kCRf => decide))
          with_reducible refine' ev_tuple ?_
          walk_at "evl"
          ((with_reducible refine' new_tp ?kLVa ?_ ?kLVc); (case kLVa => assumption); (case kLVc => walk_at "sz")); intro tpa h' S'
          refine iter_tp S' (by walk_at "at") ?_; intro it' h' S'
          ((with_reducible refine' new_ls ?kLWa ?_ ?kLWc); (case kLWa => assumption); (case kLWc => walk_at "sz")); intro alst h' S'
          refine' comp_TFA (T := fun i vs R => vs = ([aloneB PV r1, aloneB PV r2].take i).map Value.bool → R g) (src_tp (by exact Room.hh (by assumption)) it' tpa [.ref b1, .ref b2]) S' ?hn (fun i vs R H x0 => H _ fun R9 k9 => k9 x0) ?j0 ?ok ?keys (fun _ => rfl) ?step ?hm ?done (by decide) rfl rfl (by kernel_rfl) rfl
          case hm => walk_at "fset"
          case hn =>
            simp
          case j0 =>
            exact fun R9 k9 => k9 rfl
          case ok =>
            rintro K2 C i vs _ h₁ hgl S; walk_at "at"
          case keys =>
            intro i vs; intros; first | assumption | (apply Nat.le_of_eq; assumption) | (subst_vars; simp; done) | (rename_i h; rw [h, List.length_map, List.length_take]; exact Nat.min_le_left _ _)
          case step =>
            rintro K2 C' i' v' vs' PE PF hK2 hi' hx' XE XF hvs h' t' S'
            have bs : Bs w K2.B := by rw [hK2]; exact bs
            with_reducible refine absG fun G9 k9 => ?_
            obtain ⟨bp, rp, rfl, hplP, hal⟩ : ∃ b r, v' = .ref b ∧ PlaceOk w g b r ∧ ([aloneB PV r1, aloneB PV r2].take (i' + 1)).map Value.bool = ([aloneB PV r1, aloneB PV r2].take i').map Value.bool ++ [.bool (aloneB PV r)] := by
              rcases (show i' = 0 ∨ i' = 1 by have : i' < 2 := hi'; lia) with rfl | rfl
              · exact ⟨b1, r1, by simpa using hx'.symm, hplA, rfl⟩
              · exact ⟨b2, r2, by simpa using hx'.symm, hplB, rfl⟩
            obtain ⟨gvP, gaP, gtP, gt1P, otP, wtP, rfl, hplP1, hplP2⟩ := hplP
            with_reducible refine k9 ?_
            with_reducible refine' assign_Name ?_
            walk_at "st"; intro h' t' S'
            with_reducible refine' if0 ?_
            with_reducible refine' ite_t ?_
            with_reducible refine' PyProof.Rows.BoolOp_and ?_
            ((with_reducible refine' wpAny_Compare1 ?_ ?kCXb); (case kCXb => with_unfolding_all rfl))
            walk_at "ev"
            with_reducible refine' k_str ?_
            refine PyProof.Rows.eq_str ?_
            with_reducible refine' wpAny_truthy_bool ?_
            refine ite_b (fun hb => ?_) (fun hb => ?_)
            ·
              skip
              obtain ⟨k, hgk⟩ := Gr.is_slot (eq_of_beq hb)
              have hg3 := hplP2
              rw [hgk] at hg3
              with_reducible refine' PyProof.Rows.BoolOp_one ?_
              ((with_reducible refine' wpAny_Compare1 ?_ ?kDAb); (case kDAb => with_unfolding_all rfl))
              walk_at "ev"
              walk_at "nm"
              show wpAny _ _ (compareOp .In (.int k gt1P) (.ref pd)) _ _ _
              ((with_reducible refine' in_dI ?kDBa ?kDBb ?_); (case kDBa => walk_at "at"); (case kDBb => walk_at "ns"))
              refine XE _ (?_) _ _ _ S'
              rw [hal, ← hvs, aloneB_yes hgk, hpv.1]
            ·
              skip
              have hL0 := hb
              have hK := Gr.notSlot (ne_of_beq_false hb)
              refine XE _ (?_) _ _ _ S'
              rw [hal, ← hvs, aloneB_no hK, hL0]
          case done =>
            rintro vs' hvs h' t' hgl' S'
            replace hvs : vs' = [.bool (aloneB PV r1), .bool (aloneB PV r2)] := hvs
            subst hvs
            walk_at "nx"
            walk_at "ex"
            with_reducible refine' wpAny_If ?_
            with_reducible refine' isTrue_or ?_
            ((with_reducible refine' wpAny_isTrue_Compare1 ?_ ?kLYb); (case kLYb => with_unfolding_all rfl))
            walk_at "nm"
            with_reducible refine' ev_list ?_
            walk_at "evl"
            ((with_reducible refine' new_ls ?kLZa ?_ ?kLZc); (case kLZa => assumption); (case kLZc => walk_at "sz")); intro a' h' S'
            refine eq_bb (by walk_at "at") (by walk_at "at") room' ?_
            with_reducible refine' wpAny_truthy_bool ?_
            refine ite_b (fun hb => ?_) (fun hb => ?_)
            ·
              skip
              have hI := hb
              with_reducible refine' ite_t ?_
              walk_at "ex"
              with_reducible refine' wpAny_Return_some ?_
              with_reducible refine' wpAny_UnaryOp ?_
              walk_at "nm"
              with_reducible refine' PyProof.Rows.not_of ?_
              with_reducible refine' wpAny_truthy_bool ?_
              walk_at "cret"
              with_reducible refine' rt_ret ?_
              refine bk (ΓD' := []) (Λx := []) S' (fun S => ?_)
              have e : lawMeets sz PV r1 r2 = (!meetB sz PV r1 r2) := by unfold lawMeets; simp [hD, hE, hR, hI]
              rw [← e]
              exact q _ _ S
            ·
              skip
              have hI := hb
              with_reducible refine' isTrue_or ?_
              with_reducible refine' isTrue_and ?_
              ((with_reducible refine' isTrue_plain ?_ ?kDMb); (case kDMb => exact rfl))
              walk_at "ev"
              with_reducible refine' wpAny_truthy_bool ?_
              refine ite_b (fun hb => ?_) (fun hb => ?_)
              ·
                skip
                have hI0 := hb
                with_reducible refine' isTrue_and ?_
                ((with_reducible refine' isTrue_plain ?_ ?kDOb); (case kDOb => exact rfl))
                walk_at "ev"
                with_reducible refine' wpAny_truthy_bool ?_
                refine ite_b (fun hb => ?_) (fun hb => ?_)
                ·
                  skip
                  have hA0 := hb
                  with_reducible refine' isTrue_and_nil ?_
                  with_reducible refine' ite_t ?_
                  with_reducible refine' ite_t ?_
                  walk_at "ex"
                  with_reducible refine' wpAny_Return_some ?_
                  with_reducible refine' wpAny_UnaryOp ?_
                  walk_at "nm"
                  with_reducible refine' PyProof.Rows.not_of ?_
                  with_reducible refine' wpAny_truthy_bool ?_
                  walk_at "cret"
                  with_reducible refine' rt_ret ?_
                  refine bk (ΓD' := []) (Λx := []) S' (fun S => ?_)
                  have e : lawMeets sz PV r1 r2 = (!meetB sz PV r1 r2) := by unfold lawMeets; simp [hD, hE, hR, hI, hI0, hA0]
                  rw [← e]
                  exact q _ _ S
                ·
                  skip
                  have hA0 := hb
                  with_reducible refine' ite_f ?_
                  with_reducible refine' isTrue_or ?_
                  with_reducible refine' isTrue_and ?_
                  ((with_reducible refine' isTrue_plain ?_ ?kDZb); (case kDZb => exact rfl))
                  walk_at "ev"
                  with_reducible refine' wpAny_truthy_bool ?_
                  refine ite_b (fun hb => ?_) (fun hb => ?_)
                  ·
                    skip
                    have hI1 := hb
                    with_reducible refine' isTrue_and ?_
                    ((with_reducible refine' isTrue_plain ?_ ?kEBb); (case kEBb => exact rfl))
                    walk_at "ev"
                    with_reducible refine' wpAny_truthy_bool ?_
                    refine ite_b (fun hb => ?_) (fun hb => ?_)
                    ·
                      skip
                      have hA1 := hb
                      with_reducible refine' isTrue_and_nil ?_
                      with_reducible refine' ite_t ?_
                      with_reducible refine' ite_t ?_
                      walk_at "ex"
                      with_reducible refine' wpAny_Return_some ?_
                      with_reducible refine' wpAny_UnaryOp ?_
                      walk_at "nm"
                      with_reducible refine' PyProof.Rows.not_of ?_
                      with_reducible refine' wpAny_truthy_bool ?_
                      walk_at "cret"
                      with_reducible refine' rt_ret ?_
                      rw [hI0, hI1] at hI; exact absurd hI (by decide)
                    ·
                      skip
                      have hA1 := hb
                      with_reducible refine' ite_f ?_
                      with_reducible refine' isTrue_or_nil ?_
                      with_reducible refine' ite_f ?_
                      walk_at "exn"
                      walk_at "nx"
                      walk_at "ex"
                      with_reducible refine' wpAny_Return_some ?_
                      with_reducible refine' wpAny_Constant_bool ?_
                      walk_at "cret"
                      with_reducible refine' rt_ret ?_
                      rw [hI0, hI1] at hI; exact absurd hI (by decide)
                  ·
                    skip
                    have hI1 := hb
                    with_reducible refine' ite_f ?_
                    with_reducible refine' isTrue_or_nil ?_
                    with_reducible refine' ite_f ?_
                    walk_at "exn"
                    walk_at "nx"
                    walk_at "ex"
                    with_reducible refine' wpAny_Return_some ?_
                    with_reducible refine' wpAny_Constant_bool ?_
                    walk_at "cret"
                    with_reducible refine' rt_ret ?_
                    refine bk (ΓD' := []) (Λx := []) S' (fun S => ?_)
                    have e : lawMeets sz PV r1 r2 = true := by unfold lawMeets; simp [hD, hE, hR, hI, hI0, hA0, hI1]
                    rw [← e]
                    exact q _ _ S
              ·
                skip
                have hI0 := hb
                with_reducible refine' ite_f ?_
                with_reducible refine' isTrue_or ?_
                with_reducible refine' isTrue_and ?_
                ((with_reducible refine' isTrue_plain ?_ ?kEYb); (case kEYb => exact rfl))
                walk_at "ev"
                with_reducible refine' wpAny_truthy_bool ?_
                refine ite_b (fun hb => ?_) (fun hb => ?_)
                ·
                  skip
                  have hI1 := hb
                  with_reducible refine' isTrue_and ?_
                  ((with_reducible refine' isTrue_plain ?_ ?kFAb); (case kFAb => exact rfl))
                  walk_at "ev"
                  with_reducible refine' wpAny_truthy_bool ?_
                  refine ite_b (fun hb => ?_) (fun hb => ?_)
                  ·
                    skip
                    have hA1 := hb
                    with_reducible refine' isTrue_and_nil ?_
                    with_reducible refine' ite_t ?_
                    with_reducible refine' ite_t ?_
                    walk_at "ex"
                    with_reducible refine' wpAny_Return_some ?_
                    with_reducible refine' wpAny_UnaryOp ?_
                    walk_at "nm"
                    with_reducible refine' PyProof.Rows.not_of ?_
                    with_reducible refine' wpAny_truthy_bool ?_
                    walk_at "cret"
                    with_reducible refine' rt_ret ?_
                    refine bk (ΓD' := []) (Λx := []) S' (fun S => ?_)
                    have e : lawMeets sz PV r1 r2 = (!meetB sz PV r1 r2) := by unfold lawMeets; simp [hD, hE, hR, hI, hI0, hI1, hA1]
                    rw [← e]
                    exact q _ _ S
                  ·
                    skip
                    have hA1 := hb
                    with_reducible refine' ite_f ?_
                    with_reducible refine' isTrue_or_nil ?_
                    with_reducible refine' ite_f ?_
                    walk_at "exn"
                    walk_at "nx"
                    walk_at "ex"
                    with_reducible refine' wpAny_Return_some ?_
                    with_reducible refine' wpAny_Constant_bool ?_
                    walk_at "cret"
                    with_reducible refine' rt_ret ?_
                    refine bk (ΓD' := []) (Λx := []) S' (fun S => ?_)
                    have e : lawMeets sz PV r1 r2 = true := by unfold lawMeets; simp [hD, hE, hR, hI, hI0, hI1, hA1]
                    rw [← e]
                    exact q _ _ S
                ·
                  skip
                  have hI1 := hb
                  with_reducible refine' ite_f ?_
                  with_reducible refine' isTrue_or_nil ?_
                  with_reducible refine' ite_f ?_
                  walk_at "exn"
                  walk_at "nx"
                  walk_at "ex"
                  with_reducible refine' wpAny_Return_some ?_
                  with_reducible refine' wpAny_Constant_bool ?_
                  walk_at "cret"
                  with_reducible refine' rt_ret ?_
                  refine bk (ΓD' := []) (Λx := []) S' (fun S => ?_)
                  have e : lawMeets sz PV r1 r2 = true := by unfold lawMeets; simp [hD, hE, hR, hI, hI0, hI1]
                  rw [← e]
                  exact q _ _ S
def stC (w : World) (S : Int → Bool) (n : Nat) : Cell := .an fun o => o.SetObjOf (intKind PG w) S n
section
variable {w : World} {A : Around} {E : Value → Shared → Prop} {s : Shared} {h h' : Heap} {t : Nat} {K : Ent} {L : Addr} {m m' : Loc} {g : Frz} {Γ Γ' ΓD Λ : List (Addr × Cell)} {env : Env}
theorem At.st {a : Addr} {S : Int → Bool} {n : Nat} (c : At w h.get? a (stC w S n)) (hb : n < scanBound) : h.SetOf (intKind PG w) a S n := let ⟨_, e, x⟩ := c; x.setOf e hb
theorem obj_st {a : Addr} {S : Int → Bool} {n : Nat} (c : At w h.get? a (stC w S n)) : ∃ ob, h.get? a = some ob ∧ ob.cls = .type "set" ∧ ob.dict = none := let ⟨o, e, x, _⟩ := c; ⟨o, e, x.1, x.2.1⟩
theorem notin_st {a : Addr} {S : Int → Bool} {n : Nat} {k : Int} {tk : Tok} {Q : Value → Shared → Prop} (c : At w h.get? a (stC w S n)) (hb : n < scanBound) (q : Q (.bool (!S k)) (sh s h (t + 1))) :
    wpAny (model PG w) A (compareOp .NotIn (.int k tk) (.ref a)) Q E (sh s h t) := wpAny_notInSet_of (s := sh s h t) (intKind_is PG w k tk) rfl (c.st hb) q
theorem add_st {a : Addr} {S : Int → Bool} {n : Nat} {k : Int} {tk : Tok} {Q : Value → Shared → Prop} (S0 : St w K L m g Γ h) (u : Upd a (stC w S n) (stC w (fun k' => S k' || decide (k' = k)) (if S k then n else n + 1)) Γ Γ') (hb : n + 1 < scanBound)
    (q : ∀ h', St w K L m g Γ' h' → Q .none (sh s h' (t + 1))) : wpAny (model PG w) A (call (.builtin "set.add") [.ref a, .int k tk]) Q E (sh s h t) :=
  call_set_add (s := sh s h t) (intKind_is PG w k tk) rfl ((S0.rd u.old).st (by lia)) hb fun h' hs hS => q h' (S0.upd u hs (by obtain ⟨o, e, x⟩ := hS.objOf; exact ⟨o, e, x⟩))
theorem set_one {i : Int} {kk : Nat} {p pos : Pos} {Q : Value → Shared → Prop} (S : St w K L m g (ΓD ++ Λ) h) (bs : Bs w K.B) (hc : kdsCode (hd.heap_39 w.params) env.code = true)
    (q : ∀ d h' t', St w K L m g (ΓD ++ (d, stC w (fun x => false || decide (x = i)) 1) :: Λ) h' → Q (.ref d) (sh s h' t')) :
    wpAny (model PG w) A (eval (.Set [.Constant (.int i) kk p] 0 pos) env) Q E (sh s h t) := by
  rw [arm_eval_Set]
  refine wpAny_bind (wpAny_standAt ?_)
  refine wpAny_bind (kds_main (bs.X.keeps S.base) hc fun b => ?_)
  rw [kds_star [.Constant (.int i) kk p] rfl, List.map_map]
  refine kds_core (s := sh s h t) (ts := (evalEach [.Constant (.int i) kk p] env).map fun t => do let v ← t; standAt pos; pure v) rfl ?_ ?_ ?_ fun led => ?_
  · refine List.findIdx?_eq_none_iff.mpr fun x hx => ?_
    obtain ⟨t, _, rfl⟩ := List.mem_map.mp hx
    rfl
  · rw [List.length_map, kds_len]; exact Nat.le_of_ble_eq_true rfl
  · rw [List.map_map]; rfl
  · refine kds_all pos [.Constant (.int i) kk p] _ _ ?_
    have S1 := S.pushL (o := { cls := .type "set", dict := none, data := .set #[] 0 (.fresh 0 0 led) }) (c := stC w (fun _ => false) 0) (setObjOf_fresh led) rfl
    show wpAny _ _ (eval (.Constant (.int i) kk p) env) _ _ (sh s _ t)
    refine k_int ?_
    refine kds_fill_cons ?_
    unfold setAdd
    refine wpAny_holding (wpAny_bind ((intKind PG w).pyHash (intKind_is PG w i t) ?_))
    refine wpAny_setAddHashed_of (s := sh s _ (t + 1 + 1)) (intKind_is PG w i t) rfl ((S1.rd (List.mem_append_right _ (.head _))).st (by decide)) (by decide) fun h' hs hS => ?_
    refine kds_fill_nil rfl ?_
    refine q _ h' (t + 1 + 1) (S1.upd (Upd.right .here) hs ?_)
    obtain ⟨o, e, x⟩ := hS.objOf
    exact ⟨o, e, x⟩
theorem sub_lsN {a : Addr} {vs : List Value} {u : Tok} {x : Value} {value slice : Expr} {Q : Value → Shared → Prop} (c : At w h.get? a (.ls vs)) (hx : vs[vs.length - 1]? = some x) (q : Q x (sh s h t))
    (hs : subscripted slice false (.ref a) (.int (-1) u) = operate [.ref a, .int (-1) u] (getItem (.ref a) (.int (-1) u)) := by with_unfolding_all rfl) :
    wpAny (model PG w) A (subscriptTail value slice (.ref a) (.int (-1) u)) Q E (sh s h t) := by
  have hp : 0 < vs.length := by
    rcases Nat.eq_zero_or_pos vs.length with z | z
    · rw [z] at hx; simp [List.length_eq_zero_iff.mp z] at hx
    · exact z
  refine tail_any c.list.typeIs slot_list_getitem.lookup (wpAny_getItem_list_neg (s := sh s h t) c.list (by decide) (by rw [List.size_toArray]; lia) (by decide) ?_ q) hs
  rw [List.size_toArray, show ((-1 : Int) + (vs.length : Int)).toNat = vs.length - 1 by lia]
  simpa using hx
theorem pop_lx {l : Addr} {vs : List Value} {x : Value} {Q : Value → Shared → Prop} (S : St w K L m g Γ h) (u : Upd l (.lx (vs ++ [x])) (.lx vs) Γ Γ') (hz : vs.length + 1 ≤ sizeLine) (q : ∀ h', St w K L m g Γ' h' → Q x (sh s h' t)) :
    wpAny (model PG w) A (call (.builtin "list.pop") [.ref l]) Q E (sh s h t) := by
  obtain ⟨o, ho, n, rfl⟩ := S.rd u.old
  refine call_meets (s := sh s h t) PySem.F.slot_list_pop ⟨_, ho, rfl⟩ PySem.F.entry_list_pop (PySem.F.args_list_pop_1 _) (PySem.MeetsSeq.list_pop_last l (vs ++ [x]).toArray n x (by simp) (by simpa using hz)) ⟨ho, q _ (S.upd u (Heap.SameBut.update ..) ?_)⟩
  refine ⟨_, Heap.get?_update_self _ ho rfl, n + 1, ?_⟩
  have e : (vs ++ [x]).toArray.eraseIdxIfInBounds ((vs ++ [x]).toArray.size - 1) = vs.toArray := by
    apply Array.ext'
    simp [List.eraseIdx_append_of_length_le]
  show Obj.mapSeq _ _ = _
  unfold Obj.mapSeq
  simp only [e]
  rw [if_neg (by simp)]
theorem get_ls {a : Addr} {vs : List Value} {k : Int} {u : Tok} {x : Value} {Q : Value → Shared → Prop} (c : At w h.get? a (.ls vs)) (h0 : 0 ≤ k) (hx : vs[k.toNat]? = some x) (hhi : k < 2 ^ 63) (q : Q x (sh s h t)) :
    wpAny (model PG w) A (getItem (.ref a) (.int k u)) Q E (sh s h t) := wpAny_getItem_list (s := sh s h t) c.list h0 hhi (by simpa using hx) q
theorem sl_rev {value st : Expr} {p pos : Pos} {Q : Value → Shared → Prop}
    (q : wpAny (model PG w) A (eval value env) (fun o s₁ => wpAny (model PG w) A (eval st env) (fun vs s₃ =>
      ∃ l items tk, o = .ref l ∧ s₃.heap.IsList l items ∧ items.size ≤ sizeLine ∧ vs = .int (-1) tk ∧
        Q (.ref (s₃.heap.objs.size + 1)) { s₃ with heap := (s₃.heap.push { cls := .type "slice", data := .fields #[.none, .none, vs] }).push { cls := .type "list", data := .seq items.toList.reverse.toArray } }) E s₁) E s) :
    wpAny (model PG w) A (eval (.Subscript value (.Slice none none (some st) p) pos) env) Q E s := by
  refine sl_any (wpAny_mono q (fun o s₁ h₁ => wpAny_Slice (wpAny_evalPart_none (wpAny_evalPart_none (wpAny_mono h₁ (fun vs s₂ h₂ => ?_) fun _ _ e => e)))) fun _ _ e => e)
  obtain ⟨l, items, tk, rfl, hl, hsz, rfl, hQ⟩ := h₂
  refine ⟨(hl.push _).typeIs, wpAny_getItem_list_slice (hl.push _) (Heap.IsSliceOf.new ..) .none .none (.int _ _) (by decide) ?_ hsz⟩
  rw [Heap.size_push, krv_pick]
  exact hQ
def Wh (w : World) (K : Ent) (L : Addr) (J : Nat → Loc → Frz → List (Addr × Cell) → Prop) (n : Nat) (s : Shared) (f : Flow) (s₂ : Shared) : Prop :=
  match f with
  | .next | .cont => ∃ k m g Γ h t, k < n ∧ s₂ = sh s h t ∧ J k m g Γ ∧ St w K L m g Γ h
  | _ => False
theorem while_go {test : Expr} {body : List Stmt} {pos : Pos} {n : Nat} {Q : Flow → Shared → Prop} (J : Nat → Loc → Frz → List (Addr × Cell) → Prop) (S : St w K L m g Γ h) (j0 : J n m g Γ)
    (turn : ∀ n m g Γ h t, J n m g Γ → St w K L m g Γ h → wpAny (model PG w) A (isTrue test env (eval test env)) (fun b s₂ =>
        if b = true then wpAny (model PG w) A (execs body env) (Wh w K L J n s) (fun _ _ => False) s₂ else Q .next s₂) (fun _ _ => False) (sh s h t)) :
    wpAny (model PG w) A (exec (.While test body [] pos) env) Q E (sh s h t) := by
  refine wpAny_While (codeAny_whileLoop (fun n s' => ∃ m g Γ h t, s' = sh s h t ∧ J n m g Γ ∧ St w K L m g Γ h) ?_ n ⟨m, g, Γ, h, t, rfl, j0, S⟩)
  rintro n s' ⟨m, g, Γ, h, t, rfl, j, S⟩
  refine wpAny_mono (turn n m g Γ h t j S) (fun b s₂ h₂ => ?_) fun _ _ e => e.elim
  cases b with
  | false =>
    simp only [Bool.false_eq_true, if_false] at h₂ ⊢
    exact wpAny_execs_nil h₂
  | true =>
    simp only [if_true] at h₂ ⊢
    refine wpAny_mono h₂ (fun f s₃ h₃ => ?_) fun _ _ e => e.elim
    cases f with
    | next =>
      refine absG fun G9 k9 => ?_
      obtain ⟨k, m, g, Γ, h, t, hk, rfl, j, S⟩ := h₃
      refine k9 ?_
      exact ⟨k, hk, m, g, Γ, h, t, rfl, j, S⟩
    | cont =>
      refine absG fun G9 k9 => ?_
      obtain ⟨k, m, g, Γ, h, t, hk, rfl, j, S⟩ := h₃
      refine k9 ?_
      exact ⟨k, hk, m, g, Γ, h, t, rfl, j, S⟩
    | brk => exact h₃.elim
    | ret v => exact h₃.elim
end
def chunk {α : Type} (xs : List α) (ways i : Nat) : List α := (xs.drop (i * xs.length / ways)).take ((i + 1) * xs.length / ways - i * xs.length / ways)
theorem chunk_len {α : Type} (xs : List α) (ways i : Nat) : (chunk xs ways i).length ≤ xs.length := by
  unfold chunk
  rw [List.length_take, List.length_drop]
  exact Nat.le_trans (Nat.min_le_right _ _) (Nat.sub_le _ _)
theorem chunk_next {α : Type} (xs : List α) {ways i : Nat} (h : i < ways) : xs.take ((i + 1) * xs.length / ways) = xs.take (i * xs.length / ways) ++ chunk xs ways i := by
  have hl := fl_le (n := xs.length) h
  unfold chunk
  have e : (i + 1) * xs.length / ways = i * xs.length / ways + ((i + 1) * xs.length / ways - i * xs.length / ways) := by lia
  calc xs.take ((i + 1) * xs.length / ways) = xs.take (i * xs.length / ways + ((i + 1) * xs.length / ways - i * xs.length / ways)) := by rw [← e]
    _ = _ := List.take_add
theorem chunk_zero {α : Type} (xs : List α) (ways : Nat) : xs.take (0 * xs.length / ways) = [] := by simp
theorem chunk_all {α : Type} (xs : List α) {ways : Nat} (h : 0 < ways) : xs.take (ways * xs.length / ways) = xs := by
  rw [Nat.mul_div_cancel_left _ h]; exact List.take_of_length_le (Nat.le_refl _)
theorem rd_rd {ways k : Nat} (h : k < ways) : rd ways (rd ways k) = k := by
  unfold rd
  by_cases e : k = 0
  · simp [e]
  · rw [if_neg e, if_neg (by lia)]; lia
theorem rd_lt {ways k : Nat} (h : k < ways) : rd ways k < ways := by unfold rd; split <;> lia
theorem RowsOk.drop {w : World} {g : Frz} {vs : List Value} {rs : List Row} (h : RowsOk w g vs rs) : ∀ n, RowsOk w g (vs.drop n) (rs.drop n) := by
  induction h with
  | nil => intro n; simp; exact .nil
  | cons h k ih =>
    intro n
    cases n with
    | zero => exact .cons h k
    | succ n => simpa using ih n
theorem RowsOk.take {w : World} {g : Frz} {vs : List Value} {rs : List Row} (h : RowsOk w g vs rs) : ∀ n, RowsOk w g (vs.take n) (rs.take n) := by
  induction h with
  | nil => intro n; simp; exact .nil
  | cons h k ih =>
    intro n
    cases n with
    | zero => simp; exact .nil
    | succ n => simpa using .cons h (ih n)
def BV (w : World) (g : Frz) (bx : Addr) (rs : List Row) (eargs : List (Str × Int)) (ways k : Nat) : Prop := ∃ bd num ls en cvs, At w g bx (.ins 52 bd) ∧ At w g bd (.dS [("number", num), ("steps", .ref ls), ("end", en)]) ∧ At w g ls (.lx cvs) ∧
  RowsOk w g cvs (chunk rs ways (rd ways k)) ∧ EndAt w g en eargs ways (rd ways k)
abbrev FVb (w : World) (g : Frz) (sizes : List Int) (rs : List Row) (eargs : List (Str × Int)) (ways : Nat) (x d pl sl bl : Addr) (nm t1 : Value) (t2 t3 : Tok) (bvs : List Value) : Prop := At w g x (.ins 73 d) ∧
  At w g d (.dS [("name", nm), ("params", .ref pl), ("is_static", .bool false), ("slots", .ref sl), ("blocks", .ref bl), ("registers", t1), ("has_value", .bool false)]) ∧
  At w g pl (.lx [.int 0 t2, .int 1 t3]) ∧ SlotsOk w g sl sizes ∧ At w g bl (.lx bvs) ∧ bvs.length = ways ∧ (1 ≤ ways ∧ ways ≤ 3) ∧ ∀ (k : Nat), k < ways → ∃ bx, bvs[k]? = some (.ref bx) ∧ BV w g bx rs eargs ways k
def FV (w : World) (g : Frz) (v : Value) (sizes : List Int) (rs : List Row) (eargs : List (Str × Int)) (ways : Nat) : Prop := ∃ x d pl sl bl nm t1 t2 t3 bvs, v = .ref x ∧ FVb w g sizes rs eargs ways x d pl sl bl nm t1 t2 t3 bvs
theorem EndAt.mono {w : World} {g g' : Frz} {v : Value} {eargs : List (Str × Int)} {ways i : Nat} (h : EndAt w g v eargs ways i) (l : g.le g') : EndAt w g' v eargs ways i := by
  unfold EndAt at h ⊢
  split at h <;> rename_i q <;> simp only [q, if_true, if_false] <;> exact h.mono l
theorem BV.mono {w : World} {g g' : Frz} {bx : Addr} {rs : List Row} {eargs : List (Str × Int)} {ways k : Nat} (h : BV w g bx rs eargs ways k) (l : g.le g') : BV w g' bx rs eargs ways k :=
  let ⟨bd, num, ls, en, cvs, h1, h2, h3, h4, h5⟩ := h; ⟨bd, num, ls, en, cvs, h1.mono l, h2.mono l, h3.mono l, h4.mono l, h5.mono l⟩
theorem FV.mono {w : World} {g g' : Frz} {v : Value} {sizes : List Int} {rs : List Row} {eargs : List (Str × Int)} {ways : Nat} (h : FV w g v sizes rs eargs ways) (l : g.le g') : FV w g' v sizes rs eargs ways :=
  let ⟨x, d, pl, sl, bl, nm, t1, t2, t3, bvs, e, h⟩ := h
  ⟨x, d, pl, sl, bl, nm, t1, t2, t3, bvs, e, h.1.mono l, h.2.1.mono l, h.2.2.1.mono l, h.2.2.2.1.mono l, h.2.2.2.2.1.mono l, h.2.2.2.2.2.1, h.2.2.2.2.2.2.1, fun k hk => let ⟨bx, e1, e2⟩ := h.2.2.2.2.2.2.2 k hk; ⟨bx, e1, e2.mono l⟩⟩
theorem FuncOk.view {w : World} {g : Frz} {v : Value} {sizes : List Int} {rvs : List Value} {rs : List Row} {eargs : List (Str × Int)} {ways : Nat} (f : FuncOk w g v sizes rvs eargs ways) (hr : RowsOk w g rvs rs) (hz : sizes.length ≤ 3) (hw : 1 ≤ ways ∧ ways ≤ 3) : FV w g v sizes rs eargs ways := by
  obtain ⟨x, d, pl, sl, bl, nm, t1, t2, t3, svs, bs, rfl, h1, h2, h3, h4, h5, h6, h7, h8, h9, h10⟩ := f.ex
  refine ⟨x, d, pl, sl, bl, nm, t1, t2, t3, _, rfl, h1, h2, h3, ⟨svs, h4, h5, hz, h6⟩, h7, by rw [List.length_map, h8], hw, fun k hk => ?_⟩
  obtain ⟨b, e1, ls, e2, h11, h12⟩ := h10 (rd ways k) (rd_lt hk)
  rw [rd_rd hk] at e1
  have hm := bcells_mem e1
  refine ⟨b.x, by rw [List.getElem?_map, e1]; rfl, b.d, b.num, ls, b.en, _, h9 _ hm.1, by rw [← e2]; exact h9 _ hm.2, h11, ?_, h12⟩
  unfold chunk
  rw [← hr.len]
  exact (hr.drop _).take _
def brows (rs : List Row) (ways k : Nat) : List Row := (List.range k).flatMap fun j => chunk rs ways (rd ways j)
theorem brows_succ (rs : List Row) (ways k : Nat) : brows rs ways (k + 1) = brows rs ways k ++ chunk rs ways (rd ways k) := by
  unfold brows
  rw [List.range_succ, List.flatMap_append]; simp
theorem brows_perm (rs : List Row) {ways : Nat} (h : 1 ≤ ways ∧ ways ≤ 3) : (brows rs ways ways).Perm rs := by
  have c : ∀ i < ways, rs.take ((i + 1) * rs.length / ways) = rs.take (i * rs.length / ways) ++ chunk rs ways i := fun i hi => chunk_next rs hi
  have z := chunk_zero rs ways
  have a := chunk_all rs (ways := ways) (by lia)
  rcases (show ways = 1 ∨ ways = 2 ∨ ways = 3 by lia) with rfl | rfl | rfl
  · have c0 := c 0 (by lia)
    rw [z, List.nil_append] at c0
    have e : brows rs 1 1 = rs.take ((0 + 1) * rs.length / 1) := by rw [c0]; simp [brows, rd, List.range_succ]
    rw [e]
    show (List.take (1 * rs.length / 1) rs).Perm rs
    rw [a]
  · have c0 := c 0 (by lia)
    have c1 := c 1 (by lia)
    rw [z, List.nil_append] at c0
    have e : brows rs 2 2 = rs := by
      rw [show (1 + 1) * rs.length / 2 = 2 * rs.length / 2 from rfl, a, show 1 * rs.length / 2 = (0 + 1) * rs.length / 2 from rfl, c0] at c1
      rw [show brows rs 2 2 = chunk rs 2 0 ++ chunk rs 2 1 from by simp [brows, rd, List.range_succ], ← c1]
    rw [e]
  · have c0 := c 0 (by lia)
    have c1 := c 1 (by lia)
    have c2 := c 2 (by lia)
    rw [z, List.nil_append] at c0
    rw [show 1 * rs.length / 3 = (0 + 1) * rs.length / 3 from rfl, c0] at c1
    rw [show (2 + 1) * rs.length / 3 = 3 * rs.length / 3 from rfl, a, show 2 * rs.length / 3 = (1 + 1) * rs.length / 3 from rfl, c1] at c2
    have e : brows rs 3 3 = chunk rs 3 0 ++ (chunk rs 3 2 ++ chunk rs 3 1) := by simp [brows, rd, List.range_succ]
    rw [e]
    exact ((List.Perm.append_left _ List.perm_append_comm).trans (by rw [← List.append_assoc])).trans (by rw [← c2])
theorem goals_snoc (V : List Row) (r : Row) : goals (V ++ [r]) = goals V ++ (if 0 ≤ r.dst then [r.dst] else []) := by
  unfold goals
  simp only [List.map_append, List.map_cons, List.map_nil, List.filter_append, List.filter_cons, List.filter_nil, decide_eq_true_eq]
theorem goals_pos {V : List Row} {c : Int} (h : c ∈ goals V) : 0 ≤ c := by
  unfold goals at h
  simpa using (List.mem_filter.mp h).2
def onceP (V : List Row) (c : Int) : Bool := decide (c = 0 ∨ c = 1) || decide (c ∈ goals V)
def moreP (V : List Row) (c : Int) : Bool := (decide (c = 0 ∨ c = 1) && decide (c ∈ goals V)) || decide (2 ≤ (goals V).count c)
theorem moreP_once {V : List Row} {c : Int} (h : moreP V c = true) : onceP V c = true := by
  unfold moreP at h; unfold onceP
  simp only [Bool.or_eq_true, Bool.and_eq_true, decide_eq_true_eq] at h ⊢
  rcases h with h | h
  · exact .inr h.2
  · exact .inr (List.count_pos_iff.mp (by lia))
theorem once_again {V : List Row} {r : Row} (h : onceP V r.dst = true) (c : Int) : onceP (V ++ [r]) c = onceP V c ∧ moreP (V ++ [r]) c = (decide (c = r.dst) || moreP V c) := by
  have h0 : 0 ≤ r.dst := by
    unfold onceP at h
    simp only [Bool.or_eq_true, decide_eq_true_eq] at h
    rcases h with h | h
    · lia
    · exact goals_pos h
  unfold onceP at h
  unfold onceP moreP
  rw [goals_snoc, if_pos h0]
  simp only [Bool.or_eq_true, decide_eq_true_eq] at h
  constructor
  · rw [Bool.eq_iff_iff]
    simp only [Bool.or_eq_true, decide_eq_true_eq, List.mem_append, List.mem_singleton]
    constructor
    · rintro (h' | h' | rfl)
      · exact .inl h'
      · exact .inr h'
      · exact h
    · rintro (h' | h')
      · exact .inl h'
      · exact .inr (.inl h')
  · rw [Bool.eq_iff_iff]
    simp only [Bool.or_eq_true, Bool.and_eq_true, decide_eq_true_eq, List.mem_append, List.mem_singleton, List.count_append, List.count_cons, List.count_nil]
    by_cases q : c = r.dst
    · subst q
      simp only [beq_self_eq_true, if_true, or_true, and_true, true_or, iff_true]
      rcases h with h | h
      · exact .inl h
      · exact .inr (by have := List.count_pos_iff.mpr h; lia)
    · have : (r.dst == c) = false := by simpa using fun e => q e.symm
      simp [q, this]
theorem once_new {V : List Row} {r : Row} (h : onceP V r.dst = false) (h0 : 0 ≤ r.dst) (c : Int) : onceP (V ++ [r]) c = (decide (c = r.dst) || onceP V c) ∧ moreP (V ++ [r]) c = moreP V c := by
  unfold onceP at h
  simp only [Bool.or_eq_false_iff, decide_eq_false_iff_not] at h
  unfold onceP moreP
  rw [goals_snoc, if_pos h0]
  constructor
  · rw [Bool.eq_iff_iff]
    simp only [Bool.or_eq_true, decide_eq_true_eq, List.mem_append, List.mem_singleton]
    constructor
    · rintro (h' | h' | h')
      · exact .inr (.inl h')
      · exact .inr (.inr h')
      · exact .inl h'
    · rintro (h' | h' | h')
      · exact .inr (.inr h')
      · exact .inl h'
      · exact .inr (.inl h')
  · rw [Bool.eq_iff_iff]
    simp only [Bool.or_eq_true, Bool.and_eq_true, decide_eq_true_eq, List.mem_append, List.mem_singleton, List.count_append, List.count_cons, List.count_nil]
    by_cases q : c = r.dst
    · subst q
      have hz : (goals V).count r.dst = 0 := List.count_eq_zero.mpr h.2
      simp [h.1, hz]
    · have : (r.dst == c) = false := by simpa using fun e => q e.symm
      simp [q, this]
theorem once_neg {V : List Row} {r : Row} (h0 : ¬ 0 ≤ r.dst) (c : Int) : onceP (V ++ [r]) c = onceP V c ∧ moreP (V ++ [r]) c = moreP V c := by
  unfold onceP moreP
  rw [goals_snoc, if_neg h0, List.append_nil]
  exact ⟨rfl, rfl⟩
theorem once_end {V rs : List Row} (p : V.Perm rs) (c : Int) : (onceP V c && !moreP V c) = OnceI (goals rs) c := by
  have pg : (goals V).Perm (goals rs) := (p.map _).filter _
  unfold onceP moreP OnceI
  rw [← pg.count_eq c, show decide (c ∈ goals rs) = decide (c ∈ goals V) from decide_eq_decide.mpr pg.mem_iff.symm, Bool.eq_iff_iff]
  simp only [Bool.or_eq_true, Bool.and_eq_true, Bool.not_eq_true', Bool.or_eq_false_iff, Bool.and_eq_false_imp, decide_eq_true_eq, decide_eq_false_iff_not]
  constructor
  · rintro ⟨h1, h2, h3⟩
    by_cases z : c = 0 ∨ c = 1
    · exact .inl ⟨z, h2 z⟩
    · rcases h1 with h1 | h1
      · exact absurd h1 z
      · have := goals_pos h1
        have := List.count_pos_iff.mpr h1
        exact .inr ⟨by lia, by lia⟩
  · rintro (⟨h1, h2⟩ | ⟨h1, h2⟩)
    · exact ⟨.inl h1, fun _ => h2, by rw [List.count_eq_zero.mpr h2]; lia⟩
    · exact ⟨.inr (List.count_pos_iff.mp (by lia)), fun z => by lia, by lia⟩
theorem take_snoc {α : Type} {xs : List α} {i : Nat} {x : α} (h : xs[i]? = some x) : xs.take (i + 1) = xs.take i ++ [x] := by
  obtain ⟨hi, e⟩ := List.getElem?_eq_some_iff.mp h
  rw [← List.take_append_getElem hi, e]
theorem mem_valueAt (l : List (Int × Value)) (c : Int) : (valueAt l c).isSome = true ↔ ∃ kv ∈ l, kv.1 = c := by
  unfold valueAt
  rw [Option.isSome_map, List.find?_isSome]
  constructor
  · rintro ⟨x, hx, e⟩; exact ⟨x, hx, by simpa using e⟩
  · rintro ⟨x, hx, e⟩; exact ⟨x, hx, by simpa using e⟩
theorem SetOk.val {kvs : List (Int × Value)} {P : Int → Bool} {c : Int} (h : SetOk kvs P) (e : P c = true) : valueAt kvs c = some (.bool true) := by
  rw [← h.1] at e
  obtain ⟨v, hv⟩ := Option.isSome_iff_exists.mp e
  rw [hv]
  unfold valueAt at hv
  obtain ⟨kv, hf, rfl⟩ := Option.map_eq_some_iff.mp hv
  rw [h.2 kv (List.mem_of_find?_eq_some hf)]
theorem SetOk.wo {kvs : List (Int × Value)} {P P' : Int → Bool} {k : Int} (h : SetOk kvs P) (e : ∀ c, P' c = (P c && !decide (c = k))) : SetOk (without kvs k) P' := by
  refine ⟨fun c => ?_, fun kv hkv => h.2 kv ((List.filter_sublist).subset hkv)⟩
  rw [e, ← h.1 c, Bool.eq_iff_iff, Bool.and_eq_true, mem_valueAt, mem_valueAt]
  unfold without
  constructor
  · rintro ⟨kv, hkv, rfl⟩
    obtain ⟨h1, h2⟩ := List.mem_filter.mp hkv
    exact ⟨⟨kv, h1, rfl⟩, by simpa using h2⟩
  · rintro ⟨⟨kv, hkv, rfl⟩, h2⟩
    exact ⟨kv, List.mem_filter.mpr ⟨hkv, by simpa using h2⟩, rfl⟩
theorem once_ {w : World} {A : Around} {E : Value → Shared → Prop} {s : Shared} {hp : Heap} {tk : Nat} {K : Ent} {L : Addr} {m : Loc} {g : Frz} {Γ : List (Addr × Cell)} {n : Nat} {Q : Value → Shared → Prop} 
    (S : St w K L m g ([] ++ Γ) hp) (bs : Bs w K.B) (room : Room A (n + 1)) {v : Value} {sizes : List Int} {rs : List Row} {eargs : List (Str × Int)} {ways : Nat} (hf : FV w g v sizes rs eargs ways) (hrn : rs.length ≤ 12)
    (q : ∀ g' h' d kvs tk, g.le g' → At w g' d (.dI kvs) → SetOk kvs (OnceI (goals rs)) → kvs.length ≤ 100 → St w K L m g' ([] ++ Γ) h' → Q (.ref d) (sh s h' tk)) :
    wpAny (model PG w) A (call (.ref 106) [v]) Q E (sh s hp tk) := by
  obtain ⟨x, d, pl, sl, bl, nm, t1, t2, t3, bvs, rfl, hx1, hx2, hpl, hsl, hbl, hbn, hwz, hbk⟩ := hf
  refine call_fn ([]) [("func", .ref x)] S bs room (by rfl) (by kernel_rfl) (by rfl) (by kernel_rfl) ?_ (by decide) rfl rfl rfl
  intro L' h₁ tk' A' K' Pp hK room' bk S'
  subst hK
  walk_at "ex"
  (first | ((with_reducible refine' Assign_Tuple ?_ ?kBb ?kBc); (case kBb | kBc => exact rfl)) | ((with_reducible refine' Assign_Tuple_swapped ?_ ?kBb ?kBc); (case kBb | kBc => exact rfl)))
  with_reducible refine' ev_tuple ?_
  walk_at "ac"
  ((with_reducible refine' dict_0 ?kDa ?_); (case kDa => assumption)); intro fo h' S'
  walk_at "ac"
  ((with_reducible refine' dict_0 ?kEa ?_); (case kEa => assumption)); intro fm h' S'
  with_reducible refine' args_nil ?_
  ((with_reducible refine' new_tp ?kMLa ?_ ?kMLc); (case kMLa => assumption); (case kMLc => walk_at "sz")); intro a' h' S'
  walk_at "unp"; intro h' S'
  (refine assignInOrder_cons ?_)
  (first | ((with_reducible refine' assign_Name ?_)) | ((with_reducible refine' bindName_ ?_)))
  walk_at "st"; intro h' t' S'
  (refine assignInOrder_cons ?_)
  (first | ((with_reducible refine' assign_Name ?_)) | ((with_reducible refine' bindName_ ?_)))
  walk_at "st"; intro h' t' S'
  (refine assignInOrder_nil ?_)
  replace S' : St w _ L' _ _ ([(fm, Cell.dI []), (fo, Cell.dI [])] ++ []) _ := S'
  walk_at "nx"
  walk_at "ex"
  ((with_reducible refine' for_ex ?_ ?kJb); (case kJb => intro _; rfl))
  with_reducible refine' PyProof.Rows.Attribute_name ?_
  walk_at "nm"
  walk_at "geta"
  refine iter_ls S' (S'.fz hpl).lx ?_; intro it' h' S'
  refine for_T (T := fun i R => ∀ ko, ko.length ≤ i → SetOk ko (fun c => decide (c ∈ ([0, 1] : List Int).take i)) → R g ([(fm, Cell.dI []), (fo, Cell.dI ko)])) (src_ls (by exact Room.hh (by assumption)) it' pl [.int 0 t2, .int 1 t3]) S' ?tt ?j0 ?ok ?hg ?step ?done
  case tt => exact fun i R H x0 x1 x2 => H _ _ fun R9 k9 => k9 x0 x1 x2
  case j0 =>
    exact fun R9 k9 => k9 [] (Nat.le_refl _) ⟨fun c => by simp [valueAt], fun kv h => by simp at h⟩
  case ok =>
    rintro i kvs _ _ h₁ S; exact (S.fz hpl).lx
  case hg => first | exact .inl ⟨_, _, rfl⟩ | exact .inr ⟨_, _, _, rfl, by walk_at "hgt"⟩
  case step =>
    rintro i' v' P' hi' hx' X' ko hkl hset h' t' S'
    obtain ⟨tc, hic, rfl⟩ := (intsAre_nd (.cons _ _ (.cons _ _ .nil) : IntsAre _ [0, 1])).2 _ _ hx'
    have hkl2 : ko.length ≤ 2 := by have := hic; simp at this; lia
    with_reducible refine' assign_Name ?_
    walk_at "st"; intro h' t' S'
    walk_at "ex"
    ((with_reducible refine' wpAny_Assign_Subscript ?_ ?kMb); (case kMb => exact rfl))
    with_reducible refine' wpAny_Constant_bool ?_
    walk_at "nm"
    walk_at "nm"
    ((with_reducible refine' set_dI ?kOa ?kOb ?kOc ?_); (case kOa => assumption); (case kOb => walk_at "upd"); (case kOc => walk_at "sz")); intro h' S'
    walk_at "nx"
    walk_at "exn"
    refine X' _ (?_) (hset.add fun x => ?_) _ _ _ (.inl rfl) (St.weak S' (by walk_at "lsub"))
    · have := len_stored ko ([0, 1] : List Int)[i'] (.bool true); lia
    · rw [take_snoc (List.getElem?_eq_getElem hic), Bool.eq_iff_iff]
      simp only [Bool.or_eq_true, decide_eq_true_eq, List.mem_append, List.mem_singleton]
      exact Or.comm
  case done =>
    rintro ko hkl hset h' t' S'
    have hko0 : ko.length ≤ 2 := hkl
    replace hset : SetOk ko (onceP (brows rs ways 0)) := hset.congr fun c => by simp [onceP, brows, goals]
    walk_at "nx"
    walk_at "ex"
    ((with_reducible refine' for_ex ?_ ?kPb); (case kPb => intro _; rfl))
    with_reducible refine' PyProof.Rows.Attribute_name ?_
    walk_at "nm"
    walk_at "geta"
    refine iter_ls S' (S'.fz hbl).lx ?_; intro it' h' S'
    refine for_T (T := fun k R => ∀ ko, ∀ km, ko.length ≤ 2 + 12 * k → km.length ≤ 12 * k → SetOk ko (onceP (brows rs ways k)) → SetOk km (moreP (brows rs ways k)) → R g ([(fm, Cell.dI km), (fo, Cell.dI ko)])) (src_ls (by exact Room.hh (by assumption)) it' bl bvs) S' ?tt ?j0 ?ok ?hg ?step ?done
    case tt => exact fun i R H x0 x1 x2 x3 x4 x5 => H _ _ fun R9 k9 => k9 x0 x1 x2 x3 x4 x5
    case j0 =>
      exact fun R9 k9 => k9 ko [] (by lia) (Nat.le_refl _) hset ⟨fun c => by simp [valueAt, moreP, brows, goals], fun kv h => by simp at h⟩
    case ok =>
      rintro i _ _ _ _ _ _ h₁ S; exact (S.fz hbl).lx
    case hg => first | exact .inl ⟨_, _, rfl⟩ | exact .inr ⟨_, _, _, rfl, by walk_at "hgt"⟩
    case step =>
      rintro i' v' P' hi' hx' X' ko km hkl hkm hso hsm h' t' S'
      with_reducible refine absG fun G9 k9 => ?_
      obtain ⟨bx, hbx, bd, num, ls, en, cvs, hb1, hb2, hb3, hb4, hb5⟩ := hbk i' (by lia)
      with_reducible refine k9 ?_
      obtain rfl : v' = .ref bx := by have e : bvs[i']? = some v' := hx'; rw [hbx] at e; cases e; rfl
      have hcl : cvs.length ≤ 12 := by have := hb4.len; have := chunk_len rs ways (rd ways i'); lia
      with_reducible refine' assign_Name ?_
      walk_at "st"; intro h' t' S'
      walk_at "ex"
      ((with_reducible refine' for_ex ?_ ?kSb); (case kSb => intro _; rfl))
      with_reducible refine' PyProof.Rows.Attribute_name ?_
      walk_at "nm"
      walk_at "geta"
      refine iter_ls S' (S'.fz hb3).lx ?_; intro it2 h' S'
      refine for_T (T := fun j R => ∀ ko, ∀ km, ko.length ≤ 2 + 12 * i' + j → km.length ≤ 12 * i' + j → SetOk ko (onceP (brows rs ways i' ++ (chunk rs ways (rd ways i')).take j)) → SetOk km (moreP (brows rs ways i' ++ (chunk rs ways (rd ways i')).take j)) → R g ([(fm, Cell.dI km), (fo, Cell.dI ko)])) (src_ls (by exact Room.hh (by assumption)) it2 ls cvs) S' ?ttB ?j0B ?okB ?hgB ?stepB ?doneB
      case ttB => exact fun i R H x0 x1 x2 x3 x4 x5 => H _ _ fun R9 k9 => k9 x0 x1 x2 x3 x4 x5
      case j0B =>
        exact fun R9 k9 => k9 ko km hkl hkm (by simpa using hso) (by simpa using hsm)
      case okB =>
        rintro i _ _ _ _ _ _ h₁ S; exact (S.fz hb3).lx
      case hgB => first | exact .inl ⟨_, _, rfl⟩ | exact .inr ⟨_, _, _, rfl, by walk_at "hgt"⟩
      case stepB =>
        rintro i' v' P' hi' hx' X' ko km hkl hkm hso hsm h' t' S'
        rename_i j
        with_reducible refine absG fun G9 k9 => ?_
        obtain ⟨r, hr, x9, d9, al9, u1, u2, ul, mv, avs, rfl, hr1, hr2, hr3, hr4, hr5⟩ := hb4.get hx'
        with_reducible refine k9 ?_
        have hkl4 : ko.length ≤ 60 := by lia
        have hkm4 : km.length ≤ 60 := by lia
        with_reducible refine' assign_Name ?_
        walk_at "st"; intro h' t' S'
        walk_at "ex"
        with_reducible refine' wpAny_If ?_
        ((with_reducible refine' wpAny_isTrue_Compare1 ?_ ?kMOb); (case kMOb => with_unfolding_all rfl))
        with_reducible refine' PyProof.Rows.Attribute_name ?_
        walk_at "nm"
        walk_at "geta"
        walk_at "nm"
        ((with_reducible refine' in_dI ?kXa ?kXb ?_); (case kXa => walk_at "at"); (case kXb => walk_at "ns"))
        with_reducible refine' wpAny_truthy_bool ?_
        refine ite_b (fun hb => ?_) (fun hb => ?_)
        ·
          skip
          have hO := hb
          rw [hso.1] at hO
          walk_at "ex"
          ((with_reducible refine' wpAny_Assign_Subscript ?_ ?kYb); (case kYb => exact rfl))
          with_reducible refine' wpAny_Constant_bool ?_
          walk_at "nm"
          with_reducible refine' PyProof.Rows.Attribute_name ?_
          walk_at "nm"
          walk_at "geta"
          ((with_reducible refine' set_dI ?kBBa ?kBBb ?kBBc ?_); (case kBBa => assumption); (case kBBb => walk_at "upd"); (case kBBc => walk_at "sz")); intro h' S'
          walk_at "nx"
          walk_at "exn"
          walk_at "nx"
          walk_at "exn"
          exact X' ko _ (by lia) (by have := len_stored km r.dst (.bool true); lia) (hso.congr fun c => by rw [take_snoc hr, ← List.append_assoc]; exact (once_again hO c).1) (hsm.add fun c => by rw [take_snoc hr, ← List.append_assoc]; exact (once_again hO c).2) _ _ _ (.inl rfl) (St.weak S' (by walk_at "lsub"))
        ·
          skip
          have hO := hb
          rw [hso.1] at hO
          walk_at "ex"
          with_reducible refine' wpAny_If ?_
          ((with_reducible refine' wpAny_isTrue_Compare1 ?_ ?kMQb); (case kMQb => with_unfolding_all rfl))
          with_reducible refine' PyProof.Rows.Attribute_name ?_
          walk_at "nm"
          walk_at "geta"
          with_reducible refine' k_int ?_
          (first | ((with_reducible refine' PySem.P.ge_int ?_)))
          with_reducible refine' wpAny_truthy_bool ?_
          refine ite_b (fun hb => ?_) (fun hb => ?_)
          ·
            replace hb := of_decide_eq_true hb
            have hD : 0 ≤ r.dst := hb
            walk_at "ex"
            ((with_reducible refine' wpAny_Assign_Subscript ?_ ?kBGb); (case kBGb => exact rfl))
            with_reducible refine' wpAny_Constant_bool ?_
            walk_at "nm"
            with_reducible refine' PyProof.Rows.Attribute_name ?_
            walk_at "nm"
            walk_at "geta"
            ((with_reducible refine' set_dI ?kBJa ?kBJb ?kBJc ?_); (case kBJa => assumption); (case kBJb => walk_at "upd"); (case kBJc => walk_at "sz")); intro h' S'
            walk_at "nx"
            walk_at "exn"
            walk_at "nx"
            walk_at "exn"
            walk_at "nx"
            walk_at "exn"
            exact X' _ km (by have := len_stored ko r.dst (.bool true); lia) (by lia) (hso.add fun c => by rw [take_snoc hr, ← List.append_assoc]; exact (once_new hO hD c).1) (hsm.congr fun c => by rw [take_snoc hr, ← List.append_assoc]; exact (once_new hO hD c).2) _ _ _ (.inl rfl) (St.weak S' (by walk_at "lsub"))
          ·
            replace hb := of_decide_eq_false hb
            have hD : ¬ 0 ≤ r.dst := hb
            walk_at "exn"
            walk_at "nx"
            walk_at "exn"
            walk_at "nx"
            walk_at "exn"
            exact X' ko km (by lia) (by lia) (hso.congr fun c => by rw [take_snoc hr, ← List.append_assoc]; exact (once_neg hD c).1) (hsm.congr fun c => by rw [take_snoc hr, ← List.append_assoc]; exact (once_neg hD c).2) _ _ _ (.inl rfl) (St.weak S' (by walk_at "lsub"))
      case doneB =>
        rintro ko km hkl hkm hso hsm h' t' S'
        rw [show List.take cvs.length (chunk rs ways (rd ways i')) = chunk rs ways (rd ways i') from List.take_of_length_le (by rw [hb4.len]; exact Nat.le_refl _)] at hso hsm
        walk_at "nx"
        walk_at "exn"
        refine X' ko km (by lia) (by lia) (?_) (?_) _ _ _ (.inl rfl) (St.weak S' (by walk_at "lsub"))
        · rw [brows_succ]; exact hso
        · rw [brows_succ]; exact hsm
    case done =>
      rintro ko km hkl hkm hso hsm h' t' S'
      rw [hbn] at hkl hkm hso hsm
      with_reducible refine absG fun G9 k9 => ?_
      obtain ⟨g5, hl5, hfm, S'⟩ := St.freeze (Γ := (fo, Cell.dI ko) :: []) S' (St.fresh0 (ΓD := []) S' rfl (List.Mem.head _))
      replace S' : St w _ L' _ _ ([(fo, Cell.dI ko)] ++ []) _ := S'
      obtain ⟨ep, hfe⟩ := hfm.dIe
      with_reducible refine k9 ?_
      have hnd : (km.map (·.1)).Nodup := (S'.fz hfm).dInd
      walk_at "nx"
      walk_at "ex"
      ((with_reducible refine' for_ex ?_ ?kBKb); (case kBKb => intro _; rfl))
      walk_at "nm"
      refine iter_dI S' (S'.fz hfe) (S'.notSysG bs hfm) ?_; intro it' h' hne' S'
      refine for_T (T := fun i R => ∀ ko2, ko2.length ≤ 100 → SetOk ko2 (fun c => onceP (brows rs ways ways) c && !decide (c ∈ (km.map (·.1)).take i)) → R g5 ([(fo, Cell.dI ko2)])) (src_ky (by exact Room.hh (by assumption)) it' fm hne' km ep) S' ?tt ?j0 ?ok ?hg ?step ?done
      case tt => exact fun i R H x0 x1 x2 => H _ _ fun R9 k9 => k9 x0 x1 x2
      case j0 =>
        exact fun R9 k9 => k9 ko (by lia) (hso.congr fun c => by simp)
      case ok =>
        rintro i _ _ _ h₁ S; exact S.fz hfe
      case hg => first | exact .inl ⟨_, _, rfl⟩ | exact .inr ⟨_, _, _, rfl, by walk_at "hgt"⟩
      case step =>
        rintro i' v' P' hi' hx' X' ko2 hkl2 hst h' t' S'
        with_reducible refine absG fun G9 k9 => ?_
        obtain ⟨k0, v0, tk0, hk0, rfl⟩ := hx'
        with_reducible refine k9 ?_
        have hki : (km.map (·.1))[i']? = some k0 := by rw [List.getElem?_map, hk0]; rfl
        have hk1 : moreP (brows rs ways ways) k0 = true := by rw [← hsm.1, valueAt_of_get hnd hk0]; rfl
        have hk2 : k0 ∉ (km.map (·.1)).take i' := fun z => by
          have nd := hnd
          rw [← List.take_append_drop i' (km.map (·.1))] at nd
          exact (List.nodup_append.mp nd).2.2 k0 z k0 (List.mem_of_getElem? (i := 0) (by rw [List.getElem?_drop]; exact hki)) rfl
        have hpv : valueAt ko2 k0 = some (.bool true) := hst.val (by simp [moreP_once hk1, hk2])
        with_reducible refine' assign_Name ?_
        walk_at "st"; intro h' t' S'
        walk_at "ex"
        ((with_reducible refine' wpAny_Expr_any ?_ ?kBMb ?kBMc); (case kBMb | kBMc => exact rfl))
        ((with_reducible refine' meth_node PySem.F.plainAttrs_dict PySem.F.slot_dict_pop PySem.F.type_dict_pop ?_ ?kBNe ?kBNf ?kBNg ?kBNh ?kBNi); (case kBNe | kBNf | kBNg | kBNh | kBNi => exact rfl))
        walk_at "nm"
        (refine ⟨_, rfl, ?_, ?_⟩; (first | exact obj_lx (by walk_at "at") | exact obj_dI (by walk_at "at") | exact obj_dS (by walk_at "at") | exact obj_st (by walk_at "at")))
        walk_at "evl"
        refine dict_pop S' (by walk_at "upd") hpv (by walk_at "sz") ?_
        intro h' t' S'
        walk_at "nx"
        walk_at "exn"
        refine X' _ (Nat.le_trans (List.length_filter_le _ _) hkl2) (hst.wo fun c => ?_) _ _ _ (.inl rfl) (St.weak S' (by walk_at "lsub"))
        rw [take_snoc hki, Bool.and_assoc, Bool.eq_iff_iff]
        simp only [Bool.and_eq_true, Bool.not_eq_true', decide_eq_false_iff_not, List.mem_append, List.mem_singleton, not_or]
      case done =>
        rintro ko2 hkl2 hst h' t' S'
        rw [List.take_of_length_le (by simp)] at hst
        walk_at "nx"
        walk_at "ex"
        with_reducible refine' wpAny_Return_some ?_
        walk_at "nm"
        walk_at "cret"
        with_reducible refine' rt_ret ?_
        obtain ⟨g9, hl9, hfz9, S9⟩ := St.freezeAllN (ΓD := []) S' rfl
        refine bk (ΓD' := []) (Λx := []) S9 (fun S => q g9 _ _ ko2 _ (hl5.trans hl9) (hfz9 (fo, _) (List.Mem.head _)) (hst.congr fun c => ?_) hkl2 S)
        rw [← once_end (brows_perm rs hwz) c, ← hsm.1]
        congr 2
        rw [Bool.eq_iff_iff, decide_eq_true_eq, List.mem_map, mem_valueAt]
theorem EndAt.opened {w : World} {g : Frz} {v : Value} {eargs : List (Str × Int)} {ways i : Nat} (h : EndAt w g v eargs ways i) : ∃ (op : Str) (xe de al : Addr) (u1 u2 ul u3 : Tok) (eavs : List Value) (k2 : Int), v = .ref xe ∧ At w g xe (.ins 31 de) ∧
    At w g de (.dS [("op", .str op u1), ("dst", .int (-1) u2), ("args", .ref al), ("more", .int k2 u3), ("is_volatile", .bool false), ("line", .int 0 ul)]) ∧ At w g al (.lx eavs) ∧ ArgsOk w g eavs (if i + 1 < ways then [] else eargs) ∧
    (if i + 1 < ways then op = "jump" ∧ k2 = rd ways (i + 1) else op = "give") := by
  unfold EndAt at h
  by_cases q : i + 1 < ways
  · rw [if_pos q] at h
    obtain ⟨x, d, al, u1, u2, ul, u3, avs, e, h1, h2, h3, h4⟩ := h
    exact ⟨_, x, d, al, u1, u2, ul, u3, avs, _, e, h1, h2, h3, by rw [if_pos q]; exact h4, by rw [if_pos q]; exact ⟨rfl, rfl⟩⟩
  · rw [if_neg q] at h
    obtain ⟨x, d, al, u1, u2, ul, u3, avs, e, h1, h2, h3, h4⟩ := h
    exact ⟨_, x, d, al, u1, u2, ul, u3, avs, _, e, h1, h2, h3, by rw [if_neg q]; exact h4, by rw [if_neg q]⟩
def FolOk (ways i : Nat) (fvs : List Value) : Prop := if i + 1 < ways then ∃ t, fvs = [.int (rd ways (i + 1)) t] else fvs = []
theorem FolOk.len {ways i : Nat} {fvs : List Value} (h : FolOk ways i fvs) : fvs.length = if i + 1 < ways then 1 else 0 := by
  unfold FolOk at h
  split at h
  · rename_i q; obtain ⟨t, rfl⟩ := h; rw [if_pos q]; rfl
  · rename_i q; rw [h, if_neg q]; rfl
theorem followers_ {w : World} {A : Around} {E : Value → Shared → Prop} {s : Shared} {hp : Heap} {tk : Nat} {K : Ent} {L : Addr} {m : Loc} {g : Frz} {Γ : List (Addr × Cell)} {n : Nat} {Q : Value → Shared → Prop} 
    (S : St w K L m g ([] ++ Γ) hp) (bs : Bs w K.B) (room : Room A (n + 1)) {bx : Addr} {rs : List Row} {eargs : List (Str × Int)} {ways k : Nat} (hbv : BV w g bx rs eargs ways k)
    (q : ∀ g' a fvs h' tk, g.le g' → At w g' a (.lx fvs) → FolOk ways (rd ways k) fvs → St w K L m g' ([] ++ Γ) h' → Q (.ref a) (sh s h' tk)) :
    wpAny (model PG w) A (call (.ref 84) [.ref bx]) Q E (sh s hp tk) := by
  obtain ⟨bd, num, ls, en, cvs, hb1, hb2, hb3, hb4, hb5⟩ := hbv
  obtain ⟨op, xe, de, al, u1, u2, ul, u3, eavs, k2, rfl, he1, he2, he3, he4, he5⟩ := hb5.opened
  refine call_fn ([]) [("block", .ref bx)] S bs room (by rfl) (by kernel_rfl) (by rfl) (by kernel_rfl) ?_ (by decide) rfl rfl rfl
  intro L' h₁ tk' A' K' Pp hK room' bk S'
  subst hK
  walk_at "ex"
  ((with_reducible refine' wpAny_Assign_Name ?_ ?kMSb); (case kMSb => first | exact rfl | kernel_rfl))
  with_reducible refine' PyProof.Rows.Attribute_name ?_
  walk_at "nm"
  walk_at "geta"
  walk_at "st"; intro h' t' S'
  walk_at "nx"
  walk_at "ex"
  with_reducible refine' wpAny_If ?_
  ((with_reducible refine' wpAny_isTrue_Compare1 ?_ ?kMTb); (case kMTb => with_unfolding_all rfl))
  with_reducible refine' PyProof.Rows.Attribute_name ?_
  walk_at "nm"
  walk_at "geta"
  with_reducible refine' k_str ?_
  refine PyProof.Rows.eq_str ?_
  with_reducible refine' wpAny_truthy_bool ?_
  refine ite_b (fun hb => ?_) (fun hb => ?_)
  ·
    replace hb := eq_of_beq hb
    have hJ : rd ways k + 1 < ways := by
      by_cases q : rd ways k + 1 < ways
      · exact q
      · rw [if_neg q] at he5; rw [he5] at hb; exact absurd hb (by decide)
    rw [if_pos hJ] at he5
    walk_at "ex"
    with_reducible refine' wpAny_Return_some ?_
    with_reducible refine' ev_list ?_
    walk_at "ac"
    with_reducible refine' PyProof.Rows.Attribute_name ?_
    walk_at "nm"
    walk_at "geta"
    with_reducible refine' args_nil ?_
    ((with_reducible refine' new_ls ?kMVa ?_ ?kMVc); (case kMVa => assumption); (case kMVc => walk_at "sz")); intro fa h' S'
    walk_at "cret"
    with_reducible refine' rt_ret ?_
    obtain ⟨g9, hl9, hfz9, S9⟩ := St.freezeAllN (ΓD := []) S' rfl
    refine bk (ΓD' := []) (Λx := []) S9 (fun S => q g9 _ _ _ _ hl9 (hfz9 (fa, _) (List.Mem.head _)) ?_ S)
    unfold FolOk
    rw [if_pos hJ, he5.2]
    exact ⟨_, rfl⟩
  ·
    replace hb := ne_of_beq_false hb
    have hJ : ¬ rd ways k + 1 < ways := fun q => by rw [if_pos q] at he5; exact hb he5.1
    rw [if_neg hJ] at he5
    subst he5
    walk_at "exn"
    walk_at "nx"
    walk_at "ex"
    with_reducible refine' wpAny_If ?_
    ((with_reducible refine' wpAny_isTrue_Compare1 ?_ ?kMWb); (case kMWb => with_unfolding_all rfl))
    with_reducible refine' PyProof.Rows.Attribute_name ?_
    walk_at "nm"
    walk_at "geta"
    with_reducible refine' k_str ?_
    refine PyProof.Rows.eq_str ?_
    with_reducible refine' wpAny_truthy_bool ?_
    refine ite_b (fun hb => (by replace hb := eq_of_beq hb; exact absurd hb (by decide))) (fun hb => ?_)
    replace hb := ne_of_beq_false hb
    walk_at "exn"
    walk_at "nx"
    walk_at "ex"
    with_reducible refine' wpAny_If ?_
    ((with_reducible refine' wpAny_isTrue_Compare1 ?_ ?kMYb); (case kMYb => with_unfolding_all rfl))
    with_reducible refine' PyProof.Rows.Attribute_name ?_
    walk_at "nm"
    walk_at "geta"
    with_reducible refine' k_str ?_
    refine PyProof.Rows.eq_str ?_
    with_reducible refine' wpAny_truthy_bool ?_
    refine ite_b (fun hb => (by replace hb := eq_of_beq hb; exact absurd hb (by decide))) (fun hb => ?_)
    replace hb := ne_of_beq_false hb
    walk_at "exn"
    walk_at "nx"
    walk_at "ex"
    with_reducible refine' wpAny_Return_some ?_
    with_reducible refine' ev_list ?_
    with_reducible refine' args_nil ?_
    ((with_reducible refine' new_ls ?kNAa ?_ ?kNAc); (case kNAa => assumption); (case kNAc => walk_at "sz")); intro fa h' S'
    walk_at "cret"
    with_reducible refine' rt_ret ?_
    obtain ⟨g9, hl9, hfz9, S9⟩ := St.freezeAllN (ΓD := []) S' rfl
    refine bk (ΓD' := []) (Λx := []) S9 (fun S => q g9 _ _ _ _ hl9 (hfz9 (fa, _) (List.Mem.head _)) ?_ S)
    unfold FolOk
    rw [if_neg hJ]
structure FR where
  a : Addr
  fa : Addr
  num : Int
  ctr : Int
  t0 : Tok
  t1 : Tok
def FR.cell (f : FR) : Addr × Cell := (f.a, .ls [.int f.num f.t0, .ref f.fa, .int f.ctr f.t1])
def frs (fs : List FR) : List (Addr × Cell) := fs.reverse.map FR.cell
theorem frs_snoc (fs : List FR) (f : FR) : frs (fs ++ [f]) = (f.a, .ls [.int f.num f.t0, .ref f.fa, .int f.ctr f.t1]) :: frs fs := by simp [frs, FR.cell]
def frv (fs : List FR) : List Value := fs.map fun f => .ref f.a
theorem frv_snoc (fs : List FR) (f : FR) : frv (fs ++ [f]) = frv fs ++ [.ref f.a] := by simp [frv]
def FrOk (w : World) (g : Frz) (ways : Nat) (fs : List FR) : Prop := ∀ (i : Nat) f, fs[i]? = some f → f.num = rd ways i ∧ ∃ fv, At w g f.fa (.lx fv) ∧ FolOk ways i fv
theorem FrOk.mono {w : World} {g g' : Frz} {ways : Nat} {fs : List FR} (h : FrOk w g ways fs) (l : g.le g') : FrOk w g' ways fs := fun i f e => let ⟨a, fv, b, c⟩ := h i f e; ⟨a, fv, b.mono l, c⟩
theorem FrOk.init {w : World} {g : Frz} {ways : Nat} {fs : List FR} {f : FR} (h : FrOk w g ways (fs ++ [f])) : FrOk w g ways fs := fun i x e => h i x (by rw [List.getElem?_append_left (List.getElem?_eq_some_iff.mp e).1]; exact e)
theorem FrOk.last {w : World} {g : Frz} {ways : Nat} {fs : List FR} {f : FR} (h : FrOk w g ways (fs ++ [f])) : f.num = rd ways fs.length ∧ ∃ fv, At w g f.fa (.lx fv) ∧ FolOk ways fs.length fv := h fs.length f (by simp)
theorem FrOk.snoc {w : World} {g : Frz} {ways : Nat} {fs : List FR} {f : FR} (h : FrOk w g ways fs) (e : f.num = rd ways fs.length) {fv : List Value} (a : At w g f.fa (.lx fv)) (b : FolOk ways fs.length fv) : FrOk w g ways (fs ++ [f]) := fun i x q => by
  by_cases z : i < fs.length
  · rw [List.getElem?_append_left z] at q; exact h i x q
  · rw [List.getElem?_append_right (by lia)] at q
    have : i = fs.length := by
      cases y : i - fs.length with
      | zero => lia
      | succ n => rw [y] at q; simp at q
    subst this
    simp at q
    subst q
    exact ⟨e, fv, a, b⟩
def dl (ways k : Nat) : List Int := (List.range k).map fun t => ((rd ways (ways - 1 - t) : Nat) : Int)
theorem dl_succ (ways k : Nat) : dl ways (k + 1) = dl ways k ++ [((rd ways (ways - 1 - k) : Nat) : Int)] := by
  unfold dl; rw [List.range_succ, List.map_append]; rfl
def PoPh (w : World) (ways n : Nat) (fs : List FR) (fov : List Value) (Sf : Int → Bool) (cnt : Nat) : Prop :=
  (∃ fs' f, fs = fs' ++ [f] ∧ f.ctr = 0 ∧ (∀ x ∈ fs', x.ctr = 1) ∧ fov = [] ∧ (∀ c, Sf c = true ↔ ∃ i < fs.length, c = ((rd ways i : Nat) : Int)) ∧ cnt ≤ fs.length ∧ n + fs.length = 2 * ways) ∨
  ((∀ x ∈ fs, x.ctr = 1) ∧ IntsAre fov (dl ways (ways - fs.length)) ∧ fs.length < ways ∧ n = fs.length)
theorem PoPh.down {w : World} {ways n cnt : Nat} {fs : List FR} {f : FR} {fov fv : List Value} {Sf : Int → Bool} (h : PoPh w ways n (fs ++ [f]) fov Sf cnt) (hw : fs.length + 1 ≤ ways) (hn : f.num = rd ways fs.length) (hf : FolOk ways fs.length fv) (hb : f.ctr = fv.length) :
    ∃ k, k < n ∧ PoPh w ways k fs (fov ++ [.int f.num f.t0]) Sf cnt := by
  have hl := hf.len
  have app : ∀ {j : Nat}, IntsAre fov (dl ways j) → j = ways - (fs.length + 1) → IntsAre (fov ++ [.int f.num f.t0]) (dl ways (ways - fs.length)) := fun {j} q e => by
    have e2 : ways - fs.length = j + 1 := by lia
    rw [e2, dl_succ, hn, show ways - 1 - j = fs.length by lia]
    exact IntsAre.snoc q
  rcases h with ⟨fs', f', e, e1, e2, e3, e4, e5, e6⟩ | ⟨e1, e2, e3, e4⟩
  · obtain ⟨rfl, e7⟩ := List.append_inj' e rfl
    cases e7
    rw [hb] at e1
    have hz : ¬ fs.length + 1 < ways := fun z => by rw [if_pos z] at hl; lia
    simp only [List.length_append, List.length_cons, List.length_nil] at e6
    refine ⟨fs.length, by lia, .inr ⟨e2, ?_, by lia, rfl⟩⟩
    subst e3
    exact app (j := 0) .nil (by lia)
  · simp only [List.length_append, List.length_cons, List.length_nil] at e2 e3 e4
    exact ⟨fs.length, by lia, .inr ⟨fun x hx => e1 x (List.mem_append_left _ hx), app e2 rfl, by lia, rfl⟩⟩
theorem PoPh.up {w : World} {ways n cnt : Nat} {fs : List FR} {f : FR} {fov fv : List Value} {Sf : Int → Bool} (h : PoPh w ways n (fs ++ [f]) fov Sf cnt) (hw : fs.length + 1 ≤ ways) (hf : FolOk ways fs.length fv) (hb : ¬ f.ctr = fv.length) :
    f.ctr = 0 ∧ fs.length + 1 < ways ∧ fov = [] ∧ (∀ x ∈ fs, x.ctr = 1) ∧ (∀ c, Sf c = true ↔ ∃ i < fs.length + 1, c = ((rd ways i : Nat) : Int)) ∧ cnt ≤ fs.length + 1 ∧ n + (fs.length + 1) = 2 * ways := by
  have hl := hf.len
  rcases h with ⟨fs', f', e, e1, e2, e3, e4, e5, e6⟩ | ⟨e1, e2, e3, e4⟩
  · obtain ⟨rfl, e7⟩ := List.append_inj' e rfl
    cases e7
    simp only [List.length_append, List.length_cons, List.length_nil] at e4 e5 e6
    refine ⟨e1, ?_, e3, e2, e4, e5, e6⟩
    by_cases z : fs.length + 1 < ways
    · exact z
    · rw [if_neg z] at hl; lia
  · have h1 := e1 f (by simp)
    simp only [List.length_append, List.length_cons, List.length_nil] at e3
    rw [if_pos (by lia)] at hl
    lia
def PoJ (w : World) (ways : Nat) (fo sk se : Addr) (m₀ : Loc) (g₀ : Frz) (n : Nat) (m : Loc) (g : Frz) (Γ : List (Addr × Cell)) : Prop :=
  m = m₀ ∧ g₀.le g ∧ ∃ fs fov Sf cnt, Γ = [(fo, .lx fov), (sk, .lx (frv fs)), (se, stC w Sf cnt)] ++ frs fs ∧ fs.length ≤ ways ∧ cnt ≤ ways ∧ FrOk w g ways fs ∧ PoPh w ways n fs fov Sf cnt
theorem PoPh.len {w : World} {ways n cnt : Nat} {fs : List FR} {fov : List Value} {Sf : Int → Bool} (h : PoPh w ways n fs fov Sf cnt) : fov.length ≤ ways := by
  rcases h with ⟨_, _, _, _, _, e, _⟩ | ⟨_, e, _⟩
  · rw [e]; exact Nat.zero_le _
  · rw [(intsAre_nd e).1]; unfold dl; rw [List.length_map, List.length_range]; exact Nat.sub_le _ _
theorem St.relax {w : World} {K : Ent} {L : Addr} {m : Loc} {g : Frz} {Γ Γ' : List (Addr × Cell)} {h : Heap} {a : Addr} {c c' : Cell} (S : St w K L m g Γ h) (u : Upd a c c' Γ Γ') (k : At w h.get? a c → At w h.get? a c') : St w K L m g Γ' h :=
  S.updE u (fun _ _ _ e => e) (k (S.rd u.old))
theorem dl_last (ways : Nat) : (dl ways ways).reverse = (List.range ways).map fun i => ((rd ways i : Nat) : Int) := by
  unfold dl
  rw [← List.map_reverse]
  apply List.ext_getElem
  · simp
  · intro i h1 h2
    simp only [List.length_map, List.length_reverse, List.length_range] at h1
    simp only [List.getElem_map, List.getElem_reverse, List.getElem_range, List.length_range]
    congr 3
    lia
theorem PoPh.fin {w : World} {ways n cnt : Nat} {fov : List Value} {Sf : Int → Bool} (h : PoPh w ways n [] fov Sf cnt) : IntsAre fov (dl ways ways) := by
  rcases h with ⟨fs', f', e, _⟩ | ⟨_, e2, _, _⟩
  · exact absurd e (by simp)
  · exact e2
theorem PoPh.start {w : World} {ways : Nat} {f : FR} {Sf : Int → Bool} (h : f.ctr = 0) (hs : ∀ c, Sf c = decide (c = 0)) (hw : 1 ≤ ways) : PoPh w ways (2 * ways - 1) [f] [] Sf 1 :=
  .inl ⟨[], f, rfl, h, fun x hx => by simp at hx, rfl, fun c => by
    rw [hs, decide_eq_true_eq]
    constructor
    · rintro rfl; exact ⟨0, by simp, by simp [rd]⟩
    · rintro ⟨i, hi, rfl⟩
      have : i = 0 := by simpa using hi
      subst this; simp [rd], Nat.le_refl _, by simp; lia⟩
theorem PoPh.push {w : World} {ways n cnt : Nat} {fs : List FR} {f f1 f2 : FR} {Sf : Int → Bool} (h1 : f1.ctr = 1) (h2 : f2.ctr = 0) (ha : ∀ x ∈ fs, x.ctr = 1) (hs : ∀ c, Sf c = true ↔ ∃ i < fs.length + 1, c = ((rd ways i : Nat) : Int)) (hc : cnt ≤ fs.length + 1) (hn : n + (fs.length + 1) = 2 * ways) (hw : fs.length + 1 < ways) :
    n - 1 < n ∧ PoPh w ways (n - 1) ((fs ++ [f1]) ++ [f2]) [] (fun c => Sf c || decide (c = ((rd ways (fs.length + 1) : Nat) : Int))) (cnt + 1) := by
  refine ⟨by lia, .inl ⟨_, f2, rfl, h2, fun x hx => ?_, rfl, fun c => ?_, by simp; lia, by simp; lia⟩⟩
  · rcases List.mem_append.mp hx with hx | hx
    · exact ha x hx
    · cases List.mem_singleton.mp hx; exact h1
  · rw [Bool.or_eq_true, hs, decide_eq_true_eq]
    simp only [List.length_append, List.length_cons, List.length_nil]
    constructor
    · rintro (⟨i, hi, e⟩ | e)
      · exact ⟨i, by lia, e⟩
      · exact ⟨fs.length + 1, by lia, e⟩
    · rintro ⟨i, hi, e⟩
      by_cases z : i = fs.length + 1
      · subst z; exact .inr e
      · exact .inl ⟨i, by lia, e⟩
theorem truthy_ls {w : World} {A : Around} {E : Value → Shared → Prop} {s : Shared} {h : Heap} {t : Nat} {l : Addr} {vs : List Value} {Q : Bool → Shared → Prop} (c : At w h.get? l (.ls vs)) (hz : vs.length ≤ 1000) (q : Q (!vs.isEmpty) (sh s h (t + 1 + 1))) : wpAny (model PG w) A (truthy (.ref l)) Q E (sh s h t) :=
  wpAny_truthy_list (s := sh s h t) c.list (by rw [List.size_toArray]; lia) (by have e : (!vs.toArray.isEmpty) = !vs.isEmpty := by cases vs <;> rfl
                                                                                rw [e]; exact q)
theorem po_start {w : World} {K : Ent} {L : Addr} {m : Loc} {g : Frz} {h : Heap} {fo sk se a0 fa0 : Addr} {t0 t1 : Tok} {fv : List Value} {ways : Nat} (S : St w K L m g ([] ++ (sk, .lx [.ref a0]) :: (a0, .lx [.int 0 t0, .ref fa0, .int 0 t1]) :: (se, stC w (fun c => false || decide (c = 0)) 1) :: (fo, .lx []) :: []) h)
    (hf : At w g fa0 (.lx fv)) (ho : FolOk ways 0 fv) (hw : 1 ≤ ways) : ∃ Γ, PoJ w ways fo sk se m g (2 * ways - 1) m g Γ ∧ St w K L m g Γ h := by
  refine ⟨_, ⟨rfl, Frz.le.refl, [⟨a0, fa0, 0, 0, t0, t1⟩], [], fun c => false || decide (c = 0), 1, rfl, hw, hw, ?_, PoPh.start rfl (fun c => by simp) hw⟩, ?_⟩
  · have := FrOk.snoc (w := w) (g := g) (ways := ways) (fs := []) (f := ⟨a0, fa0, 0, 0, t0, t1⟩) (fun i x e => absurd (List.getElem?_eq_some_iff.mp e).1 (Nat.not_lt_zero _)) (by simp [rd]) hf ho
    exact this
  · refine (St.relax (S.perm ?_) (.there (.there (.there .here))) At.lx)
    exact (List.perm_append_comm (l₁ := [((fo, Cell.lx []) : Addr × Cell)]) (l₂ := [(sk, Cell.lx [.ref a0]), (se, stC w (fun c => false || decide (c = 0)) 1), (a0, Cell.lx [.int 0 t0, .ref fa0, .int 0 t1])])).trans (List.Perm.cons _ (List.Perm.swap _ _ _))
theorem po_push {w : World} {K : Ent} {L : Addr} {m : Loc} {g : Frz} {h : Heap} {fo sk se na fa2 : Addr} {n1 x : Int} {tn t2 tx : Tok} {fs : List FR} {f : FR} {c : Cell}
    (S : St w K L m g ([] ++ (na, .lx [.int n1 tn, .ref fa2, .int 0 t2]) :: ([(fo, .lx []), (sk, .lx (frv fs ++ [.ref f.a] ++ [.ref na])), (se, c)] ++ (f.a, .ls [.int f.num f.t0, .ref f.fa, .int x tx]) :: frs fs)) h) :
    St w K L m g ([(fo, .lx []), (sk, .lx (frv ((fs ++ [⟨f.a, f.fa, f.num, x, f.t0, tx⟩]) ++ [⟨na, fa2, n1, 0, tn, t2⟩]))), (se, c)] ++ frs ((fs ++ [⟨f.a, f.fa, f.num, x, f.t0, tx⟩]) ++ [⟨na, fa2, n1, 0, tn, t2⟩])) h := by
  rw [frv_snoc, frv_snoc, frs_snoc, frs_snoc]
  have S2 := St.relax (c' := .ls [.int n1 tn, .ref fa2, .int 0 t2]) S .here At.lx
  exact S2.perm List.perm_middle
theorem postorder_ {w : World} {A : Around} {E : Value → Shared → Prop} {s : Shared} {hp : Heap} {tk : Nat} {K : Ent} {L : Addr} {m : Loc} {g : Frz} {Γ : List (Addr × Cell)} {n : Nat} {Q : Value → Shared → Prop} 
    (S : St w K L m g ([] ++ Γ) hp) (bs : Bs w K.B) (room : Room A (n + 2)) {v : Value} {sizes : List Int} {rs : List Row} {eargs : List (Str × Int)} {ways : Nat} (hf : FV w g v sizes rs eargs ways) (hrn : rs.length ≤ 12)
    (q : ∀ g' a fvs h' tk, g.le g' → At w g' a (.lx fvs) → IntsAre fvs (dl ways ways) → St w K L m g' ([] ++ Γ) h' → Q (.ref a) (sh s h' tk)) :
    wpAny (model PG w) A (call (.ref 91) [v]) Q E (sh s hp tk) := by
  obtain ⟨x, d, pl, sl, bl, nm, t1, t2, t3, bvs, rfl, hx1, hx2, hpl, hsl, hbl, hbn, hwz, hbk⟩ := hf
  refine call_fn ([]) [("func", .ref x)] S bs room (by rfl) (by kernel_rfl) (by rfl) (by kernel_rfl) ?_ (by decide) rfl rfl rfl
  intro L' h₁ tk' A' K' Pp hK room' bk S'
  subst hK
  walk_at "ex"
  ((with_reducible refine' wpAny_Assign_Name ?_ ?kNBb); (case kNBb => first | exact rfl | kernel_rfl))
  with_reducible refine' ev_list ?_
  with_reducible refine' args_nil ?_
  ((with_reducible refine' new_ls ?kNCa ?_ ?kNCc); (case kNCa => assumption); (case kNCc => walk_at "sz")); intro fo h' S'
  walk_at "st"; intro h' t' S'
  walk_at "nx"
  walk_at "ex"
  ((with_reducible refine' wpAny_Assign_Name ?_ ?kNDb); (case kNDb => first | exact rfl | kernel_rfl))
  refine set_one S' bs (by kernel_rfl) ?_
  intro se h' t' S'
  walk_at "st"; intro h' t' S'
  walk_at "nx"
  walk_at "ex"
  ((with_reducible refine' wpAny_Assign_Name ?_ ?kNEb); (case kNEb => first | exact rfl | kernel_rfl))
  with_reducible refine' ev_list ?_
  walk_at "ac"
  with_reducible refine' ev_list ?_
  walk_at "ac"
  with_reducible refine' k_int ?_
  walk_at "ac"
  ((with_reducible refine' call_def_node ?kGa ?kGb (Gfollowers _) (Pfollowers _) ?_ ?kGf ?kGg ?kGh ?kGi ?kGj ?kGk); (case kGa | kGb => assumption); (case kGf | kGg | kGj | kGk => exact rfl); (case kGh | kGi => kernel_rfl))
  walk_at "ac"
  with_reducible refine' Subscript_ ?_
  with_reducible refine' PyProof.Rows.Attribute_name ?_
  walk_at "nm"
  walk_at "geta"
  with_reducible refine' k_int ?_
  obtain ⟨bx, hbx, hbv⟩ := hbk 0 (by lia)
  refine sub_ls (S'.fz hbl).lx (by decide) hbx ?_ (by decide)
  with_reducible refine' args_nil ?_
  (refine ⟨St.base (by assumption), ?_⟩)
  refine followers_ (Γ := _) S' bs (room'.l (k := 0 + 1)) hbv ?_
  intro g5 fa0 fv0 h' tk' hl5 hfa0 hfo0 S'
  walk_at "evl"
  ((with_reducible refine' new_ls ?kNFa ?_ ?kNFc); (case kNFa => assumption); (case kNFc => walk_at "sz")); intro a0 h' S'
  with_reducible refine' args_nil ?_
  ((with_reducible refine' new_ls ?kNGa ?_ ?kNGc); (case kNGa => assumption); (case kNGc => walk_at "sz")); intro sk h' S'
  walk_at "st"; intro h' t' S'
  walk_at "nx"
  walk_at "ex"
  obtain ⟨Γ9, hJ9, S9⟩ := po_start (ways := ways) (S'.weak (m' := [("stack", .ref sk), ("seen", .ref se), ("found", .ref fo), ("func", .ref x)]) (by walk_at "lsub")) hfa0 hfo0 hwz.1
  refine while_go (n := 2 * ways - 1) (J := PoJ w ways fo sk se [("stack", .ref sk), ("seen", .ref se), ("found", .ref fo), ("func", .ref x)] g5) S9 ?j0 ?turn
  case j0 =>
    exact hJ9
  case turn =>
    intro n' m' g' Γ' h' t' hj' S'
    with_reducible refine absG fun G9 k9 => ?_
    obtain ⟨rfl, hle, fs, fov, Sf, cnt, rfl, hfl, hcn, hfr, hph⟩ := hj'
    with_reducible refine k9 ?_
    have hfv := hph.len
    have hx1' := hx1.mono (hl5.trans hle)
    have hx2' := hx2.mono (hl5.trans hle)
    ((with_reducible refine' isTrue_plain ?_ ?kNb); (case kNb => exact rfl))
    walk_at "nm"
    refine truthy_ls (S'.rd (List.mem_append_left _ (.tail _ (.head _)))).lx (by simp [frv]; lia) ?_
    refine ite_b (fun hb => ?_) (fun hb => ?_)
    ·
      skip
      with_reducible refine absG fun G9 k9 => ?_
      obtain ⟨fs', f, rfl⟩ : ∃ fs' f, fs = fs' ++ [f] := by
        rcases List.eq_nil_or_concat fs with rfl | ⟨a, b, e⟩
        · simp [frv] at hb
        · exact ⟨a, b, by rw [e, List.concat_eq_append]⟩
      rw [frv_snoc, frs_snoc] at S'
      obtain ⟨hnum, fv, hfa, hfo⟩ := hfr.last
      with_reducible refine k9 ?_
      have hfl2 : fs'.length + 1 ≤ ways := by simpa using hfl
      have hlen := hfo.len
      have hlen1 : fv.length ≤ 1 := by rw [hlen]; split <;> lia
      walk_at "ex"
      ((with_reducible refine' wpAny_Assign_Name ?_ ?kNHb); (case kNHb => first | exact rfl | kernel_rfl))
      with_reducible refine' Subscript_ ?_
      walk_at "nm"
      ((with_reducible refine' k_neg ?_); intro _)
      refine sub_lsN (x := .ref f.a) (by walk_at "at") (by simp) ?_
      walk_at "st"; intro h' t' S'
      walk_at "nx"
      walk_at "ex"
      with_reducible refine' wpAny_If ?_
      ((with_reducible refine' wpAny_isTrue_Compare1 ?_ ?kNIb); (case kNIb => with_unfolding_all rfl))
      walk_at "ev"
      ((with_reducible refine' call_bi_node ?kRa ?kRb (Nlen _) Blen ?kRe ?_ ?kRg ?kRh ?kRi ?kRj ?kRk ?kRl ?kRm); (case kRa | kRb => assumption); (case kRe => decide); (case kRg | kRh | kRi | kRl | kRm => exact rfl); (case kRj | kRk => kernel_rfl))
      walk_at "evl"
      (first | ((with_reducible refine' len_ls ?kSa ?kSb ?_); (case kSa => walk_at "at"); (case kSb => first | lia | decide)) | ((with_reducible refine' len_dI ?kSa ?kSb ?kSc ?_); (case kSa => walk_at "at"); (case kSb => walk_at "ns"); (case kSc => lia); intro _))
      (first | ((with_reducible refine' PySem.P.eq_int ?_)) | ((with_reducible refine' PySem.P.eq_str ?_)) | ((with_reducible refine' eq_bool ?_)))
      with_reducible refine' wpAny_truthy_bool ?_
      refine ite_b (fun hb => ?_) (fun hb => ?_)
      ·
        replace hb := eq_of_beq hb
        have hB := hb
        walk_at "ex"
        ((with_reducible refine' wpAny_Expr_any ?_ ?kUb ?kUc); (case kUb | kUc => exact rfl))
        ((with_reducible refine' meth_node PySem.F.plainAttrs_list PySem.F.slot_list_append PySem.F.type_list_append ?_ ?kVe ?kVf ?kVg ?kVh ?kVi); (case kVe | kVf | kVg | kVh | kVi => exact rfl))
        walk_at "nm"
        (refine ⟨_, rfl, ?_, ?_⟩; (first | exact obj_lx (by walk_at "at") | exact obj_dI (by walk_at "at") | exact obj_dS (by walk_at "at") | exact obj_st (by walk_at "at")))
        walk_at "evl"
        ((show wpAny _ _ (call _ [_, _]) _ _ _); (with_reducible refine' app_lx ?kXa ?kXb ?kXc ?_); (case kXa => assumption); (case kXb => walk_at "upd"); (case kXc => walk_at "sz")); intro h' S'
        walk_at "nx"
        walk_at "ex"
        ((with_reducible refine' wpAny_Expr_any ?_ ?kYb ?kYc); (case kYb | kYc => exact rfl))
        ((with_reducible refine' meth_node0 PySem.F.plainAttrs_list PySem.F.slot_list_pop PySem.F.type_list_pop ?_ ?kZe ?kZf); (case kZe | kZf => exact rfl))
        walk_at "nm"
        (refine ⟨_, rfl, ?_, ?_⟩; (first | exact obj_lx (by walk_at "at") | exact obj_dI (by walk_at "at") | exact obj_dS (by walk_at "at") | exact obj_st (by walk_at "at")))
        refine pop_lx S' (by walk_at "upd") (by simp [frv]; rw [sizeLine_eq]; lia) ?_
        intro h' S'
        walk_at "nx"
        walk_at "ex"
        with_reducible refine' wpAny_Continue ?_
        (repeat (with_reducible refine cnt_cont ?_))
        obtain ⟨k, hk, hph2⟩ := hph.down hfl2 hnum hfo hB
        exact ⟨k, _, _, _, _, _, hk, rfl, ⟨rfl, hle, fs', _, Sf, cnt, rfl, by lia, hcn, hfr.init, hph2⟩, (S'.weak (by walk_at "lsub")).drop⟩
      ·
        replace hb := ne_of_beq_false hb
        with_reducible refine absG fun G9 k9 => ?_
        obtain ⟨hc0, hi1, rfl, hall, hSf, hcnt, hn⟩ := hph.up hfl2 hfo hb
        obtain ⟨tf, rfl⟩ : ∃ t, fv = [.int (rd ways (fs'.length + 1)) t] := by unfold FolOk at hfo; rw [if_pos hi1] at hfo; exact hfo
        with_reducible refine k9 ?_
        rw [hc0] at S'
        walk_at "exn"
        walk_at "nx"
        walk_at "ex"
        ((with_reducible refine' wpAny_Assign_Name ?_ ?kNKb); (case kNKb => first | exact rfl | kernel_rfl))
        with_reducible refine' Subscript_ ?_
        walk_at "ev"
        walk_at "ev"
        refine sub_ls (by walk_at "at") (by decide) rfl ?_ (by decide)
        walk_at "st"; intro h' t' S'
        walk_at "nx"
        walk_at "ex"
        ((with_reducible refine' wpAny_AugAssign_SubscriptAny ?_ ?kBEb); (case kBEb => intros; rfl))
        walk_at "nm"
        with_reducible refine' k_int ?_
        refine get_ls (by walk_at "at") (by decide) rfl (by decide) ?_
        with_reducible refine' k_int ?_
        with_reducible refine' PySem.P.iadd_int ?_
        refine set_ls S' (by walk_at "upd") (by decide) (by simp) ?_ (by decide)
        intro h' S'
        walk_at "nx"
        walk_at "ex"
        with_reducible refine' wpAny_If ?_
        ((with_reducible refine' wpAny_isTrue_Compare1 ?_ ?kNLb); (case kNLb => with_unfolding_all rfl))
        walk_at "nm"
        walk_at "nm"
        refine notin_st (by walk_at "at") (by unfold scanBound; lia) ?_
        with_reducible refine' wpAny_truthy_bool ?_
        refine ite_b (fun hb => ?_) (fun hb => (by have h9 := (hSf _).mp (show Sf ((rd ways (fs'.length + 1) : Nat) : Int) = true by simpa using hb); obtain ⟨i, hi, e⟩ := h9; have := rd_inj (ways := ways) (by lia) (by lia) (Int.ofNat.inj e); lia))
        have hSn : Sf ((rd ways (fs'.length + 1) : Nat) : Int) = false := by simpa using hb
        walk_at "ex"
        ((with_reducible refine' wpAny_Expr_any ?_ ?kBJb ?kBJc); (case kBJb | kBJc => exact rfl))
        ((with_reducible refine' meth_node PySem.F.plainAttrs_set PySem.F.slot_set_add PySem.F.type_set_add ?_ ?kBKe ?kBKf ?kBKg ?kBKh ?kBKi); (case kBKe | kBKf | kBKg | kBKh | kBKi => exact rfl))
        walk_at "nm"
        (refine ⟨_, rfl, ?_, ?_⟩; (first | exact obj_lx (by walk_at "at") | exact obj_dI (by walk_at "at") | exact obj_dS (by walk_at "at") | exact obj_st (by walk_at "at")))
        walk_at "evl"
        refine add_st S' (by walk_at "upd") (by unfold scanBound; lia) ?_
        rw [hSn, if_neg (by decide)]
        intro h' S'
        walk_at "nx"
        walk_at "ex"
        ((with_reducible refine' wpAny_Expr_any ?_ ?kBMb ?kBMc); (case kBMb | kBMc => exact rfl))
        ((with_reducible refine' meth_node PySem.F.plainAttrs_list PySem.F.slot_list_append PySem.F.type_list_append ?_ ?kBNe ?kBNf ?kBNg ?kBNh ?kBNi); (case kBNe | kBNf | kBNg | kBNh | kBNi => exact rfl))
        walk_at "nm"
        (refine ⟨_, rfl, ?_, ?_⟩; (first | exact obj_lx (by walk_at "at") | exact obj_dI (by walk_at "at") | exact obj_dS (by walk_at "at") | exact obj_st (by walk_at "at")))
        walk_at "ac"
        with_reducible refine' ev_list ?_
        walk_at "ac"
        walk_at "nm"
        walk_at "ac"
        ((with_reducible refine' call_def_node ?kBQa ?kBQb (Gfollowers _) (Pfollowers _) ?_ ?kBQf ?kBQg ?kBQh ?kBQi ?kBQj ?kBQk); (case kBQa | kBQb => assumption); (case kBQf | kBQg | kBQj | kBQk => exact rfl); (case kBQh | kBQi => kernel_rfl))
        walk_at "ac"
        with_reducible refine' Subscript_ ?_
        with_reducible refine' PyProof.Rows.Attribute_name ?_
        walk_at "nm"
        walk_at "geta"
        walk_at "nm"
        obtain ⟨bx2, hbx2, hbv2⟩ := hbk (rd ways (fs'.length + 1)) (rd_lt (by lia))
        refine sub_ls (S'.fz (hbl.mono (hl5.trans hle))).lx (by lia) (by rw [Int.toNat_natCast]; exact hbx2) ?_ (by have := rd_lt (ways := ways) (k := fs'.length + 1) (by lia); lia)
        with_reducible refine' args_nil ?_
        (refine ⟨St.base (by assumption), ?_⟩)
        refine followers_ (Γ := _) S' bs (room'.l (k := 0 + 1)) (hbv2.mono (hl5.trans hle)) ?_
        intro g6 fa2 fv2 h' tk' hl6 hfa2 hfo2 S'
        rw [rd_rd (by lia)] at hfo2
        walk_at "evl"
        ((with_reducible refine' new_ls ?kNNa ?_ ?kNNc); (case kNNa => assumption); (case kNNc => walk_at "sz")); intro na h' S'
        with_reducible refine' args_nil ?_
        (show wpAny _ _ (call _ [_, _]) _ _ _)
        refine app_lx S' (Upd.right (.there (Upd.left (.there .here)))) (by simp [frv]; rw [sizeLine_eq]; lia) ?_
        intro h' S'
        walk_at "nx"
        walk_at "exn"
        walk_at "nx"
        walk_at "exn"
        have hps := fun (q1 q2 : Tok) => PoPh.push (w := w) (ways := ways) (n := n') (cnt := cnt) (fs := fs') (f := f) (f1 := ⟨f.a, f.fa, f.num, 0 + 1, f.t0, q1⟩) (f2 := ⟨na, fa2, ((rd ways (fs'.length + 1) : Nat) : Int), 0, tf, q2⟩) (Sf := Sf) rfl rfl hall hSf hcnt hn hi1
        have S9 := po_push (S'.weak (m' := [("stack", .ref sk), ("seen", .ref se), ("found", .ref fo), ("func", .ref x)]) (by walk_at "lsub"))
        refine ⟨n' - 1, _, _, _, _, _, (hps 0 0).1, rfl, ?_, S9⟩
        refine ⟨rfl, hle.trans hl6, _, _, _, _, rfl, ?_, ?_, ?_, (hps _ _).2⟩
        · simp; lia
        · lia
        · exact FrOk.snoc (FrOk.snoc (hfr.init.mono hl6) hnum (hfa.mono hl6) hfo) (by simp) hfa2 (by simpa using hfo2)
    ·
      skip
      skip
      have hfz : fs = [] := by
        cases fs with
        | nil => rfl
        | cons a b => simp [frv] at hb
      subst hfz
      have hfin := hph.fin
      walk_at "nx"
      walk_at "ex"
      with_reducible refine' wpAny_Return_some ?_
      walk_at "nm"
      walk_at "cret"
      with_reducible refine' rt_ret ?_
      obtain ⟨g9, hl9, hfz9, S9⟩ := St.freezeAllN (ΓD := []) S' rfl
      exact bk (ΓD' := []) (Λx := []) S9 (fun S => q g9 _ _ _ _ (hl5.trans (hle.trans hl9)) (hfz9 (fo, _) (List.Mem.head _)) hfin S)
def roadL (ways : Nat) : List Int := (List.range ways).map fun i => ((rd ways i : Nat) : Int)
section
variable {w : World} {A : Around} {E : Value → Shared → Prop} {s : Shared} {h h' : Heap} {t : Nat} {K : Ent} {L : Addr} {m m' : Loc} {g : Frz} {Γ Γ' ΓD Λ : List (Addr × Cell)} {env : Env}
def RvF (w : World) (Q : Value → Shared → Prop) (o vs : Value) (s₃ : Shared) : Prop := ∃ l items tk, o = .ref l ∧ s₃.heap.IsList l items ∧ items.size ≤ sizeLine ∧ vs = .int (-1) tk ∧
        Q (.ref (s₃.heap.objs.size + 1)) { s₃ with heap := (s₃.heap.push { cls := .type "slice", data := .fields #[.none, .none, vs] }).push { cls := .type "list", data := .seq items.toList.reverse.toArray } }
theorem sl_revF {value st : Expr} {p pos : Pos} {Q : Value → Shared → Prop} (q : wpAny (model PG w) A (eval value env) (fun o s₁ => wpAny (model PG w) A (eval st env) (fun vs s₃ => RvF w Q o vs s₃) E s₁) E s) : wpAny (model PG w) A (eval (.Subscript value (.Slice none none (some st) p) pos) env) Q E s := sl_rev q
theorem rev_fin {l : Addr} {vs : List Value} {tk : Tok} {Q : Value → Shared → Prop} (S : St w K L m g (ΓD ++ Λ) h) (c : At w h.get? l (.ls vs)) (hz : vs.length ≤ 1000)
    (q : ∀ x g' h', g.le g' → At w g' x (.lx vs.reverse) → St w K L m g' (ΓD ++ Λ) h' → Q (.ref x) (sh s h' t)) : RvF w Q (.ref l) (.int (-1) tk) (sh s h t) := by
  refine ⟨l, vs.toArray, tk, rfl, c.list, by simp [sizeLine_eq]; lia, rfl, ?_⟩
  obtain ⟨g', l', c', S'⟩ := S.two (o1 := { cls := .type "slice", data := .fields #[.none, .none, .int (-1) tk] }) (o2 := { cls := .type "list", data := .seq vs.toArray.toList.reverse.toArray }) (c := .lx vs.reverse) ⟨0, by simp⟩ rfl rfl
  exact q _ _ _ l' c' S'
theorem IntsAre.rev {vs : List Value} {ns : List Int} (x : IntsAre vs ns) : IntsAre vs.reverse ns.reverse := by
  induction x with
  | nil => exact .nil
  | cons n t _ ih => rw [List.reverse_cons, List.reverse_cons]; exact IntsAre.snoc ih
theorem ArgsOk.one {vs : List Value} {x : Str × Int} (h : ArgsOk w g vs [x]) : ∃ v, vs = [v] ∧ ArgOk w g v x := by
  cases h with
  | cons h k => cases k with | nil => exact ⟨_, rfl, h⟩
theorem ArgsOk.two {vs : List Value} {x y : Str × Int} (h : ArgsOk w g vs [x, y]) : ∃ u v, vs = [u, v] ∧ ArgOk w g u x ∧ ArgOk w g v y := by
  cases h with
  | cons h k => cases k with | cons h2 k => cases k with | nil => exact ⟨_, _, rfl, h, h2⟩
end
def slotTold (F : Int → Option Int) (r : Row) : Int := if r.op = "slot" then r.more else if r.op = "copy" ∨ r.op = "add" then (F (arg0 r)).getD (-1) else -1
theorem MapOk.getD {kvs : List (Int × Value)} {F : Int → Option Int} (h : MapOk kvs F) (c : Int) (tk : Tok) : ∃ t, (valueAt kvs c).getD (.int (-1) tk) = .int ((F c).getD (-1)) t := by
  rcases h c with ⟨e1, e2⟩ | ⟨i, t, e1, e2⟩
  · exact ⟨tk, by rw [e1, e2]; rfl⟩
  · exact ⟨t, by rw [e1, e2]; rfl⟩
theorem hstep_told {P : Int → Bool} {F : Int → Option Int} {r : Row} {nsz : Nat} (hs : RowSh nsz r) (hF : ∀ c v, F c = some v → 0 ≤ v) : hstep P F r = if P r.dst = true ∧ 0 ≤ slotTold F r then hset F r.dst (slotTold F r) else F := by
  unfold hstep slotTold
  by_cases p : P r.dst = true
  · by_cases a : r.op = "slot"
    · rw [if_pos ⟨p, a⟩, if_pos a, if_pos ⟨p, (hs.sl a).1⟩]
    · rw [if_neg (fun z => a z.2), if_neg a]
      by_cases b : r.op = "copy" ∨ r.op = "add"
      · rw [if_pos ⟨p, b⟩, if_pos b]
        cases q : F (arg0 r) with
        | none => rw [if_neg (fun z => absurd z.2 (by decide))]
        | some v => rw [if_pos ⟨p, hF _ _ q⟩]; rfl
      · rw [if_neg (fun z => b z.2), if_neg b, if_neg (fun z => absurd z.2 (by decide))]
  · rw [if_neg (fun z => p z.1), if_neg (fun z => p z.1), if_neg (fun z => p z.1)]
theorem holdersOf_snoc (P : Int → Bool) (V : List Row) (r : Row) : holdersOf P (V ++ [r]) = hstep P (holdersOf P V) r := by unfold holdersOf; rw [List.foldl_append]; rfl
theorem holders_pos {P : Int → Bool} {nsz : Nat} {rs : List Row} (hs : ∀ r ∈ rs, RowSh nsz r) : ∀ c v, holdersOf P rs c = some v → 0 ≤ v := by
  have key : ∀ (rs : List Row) (F : Int → Option Int), (∀ r ∈ rs, RowSh nsz r) → (∀ c v, F c = some v → 0 ≤ v) → ∀ c v, rs.foldl (hstep P) F c = some v → 0 ≤ v := by
    intro rs
    induction rs with
    | nil => intro F _ hF c v h; exact hF c v h
    | cons r rs ih =>
      intro F hs hF c v h
      refine ih (hstep P F r) (fun x hx => hs x (.tail _ hx)) (fun c v h => ?_) c v h
      rw [hstep_told (hs r (.head _)) hF] at h
      split at h
      · rename_i q
        unfold hset at h
        split at h
        · cases h; exact q.2
        · exact hF c v h
      · exact hF c v h
  exact key rs _ hs (fun c v h => by cases h)
theorem order_ {w : World} {A : Around} {E : Value → Shared → Prop} {s : Shared} {hp : Heap} {tk : Nat} {K : Ent} {L : Addr} {m : Loc} {g : Frz} {Γ : List (Addr × Cell)} {n : Nat} {Q : Value → Shared → Prop} 
    (S : St w K L m g ([] ++ Γ) hp) (bs : Bs w K.B) (room : Room A (n + 3)) {v : Value} {sizes : List Int} {rs : List Row} {eargs : List (Str × Int)} {ways : Nat} (hf : FV w g v sizes rs eargs ways) (hrn : rs.length ≤ 12)
    (q : ∀ g' a fvs h' tk, g.le g' → At w g' a (.lx fvs) → IntsAre fvs (roadL ways) → St w K L m g' ([] ++ Γ) h' → Q (.ref a) (sh s h' tk)) :
    wpAny (model PG w) A (call (.ref 98) [v]) Q E (sh s hp tk) := by
  obtain ⟨x, d, pl, sl, bl, nm, t1, t2, t3, bvs, rfl, hx1, hx2, hpl, hsl, hbl, hbn, hwz, hbk⟩ := hf
  refine call_fn ([]) [("func", .ref x)] S bs room (by rfl) (by kernel_rfl) (by rfl) (by kernel_rfl) ?_ (by decide) rfl rfl rfl
  intro L' h₁ tk' A' K' Pp hK room' bk S'
  subst hK
  walk_at "ex"
  with_reducible refine' wpAny_Return_some ?_
  refine sl_revF ?_
  ((with_reducible refine' call_def_node ?kCa ?kCb (Gpostorder _) (Ppostorder _) ?_ ?kCf ?kCg ?kCh ?kCi ?kCj ?kCk); (case kCa | kCb => assumption); (case kCf | kCg | kCj | kCk => exact rfl); (case kCh | kCi => kernel_rfl))
  walk_at "ac"
  walk_at "nm"
  with_reducible refine' args_nil ?_
  (refine ⟨St.base (by assumption), ?_⟩)
  refine postorder_ (Γ := _) S' bs (room'.l (k := 0 + 2)) (v := .ref x) (ways := ways) ⟨x, d, pl, sl, bl, nm, t1, t2, t3, bvs, rfl, hx1, hx2, hpl, hsl, hbl, hbn, hwz, hbk⟩ hrn ?_
  intro g5 fa fvs h' tk' hl5 hfa hfi S'
  ((with_reducible refine' k_neg ?_); intro _)
  refine rev_fin S' (S'.fz hfa).lx (by rw [(intsAre_nd hfi).1]; simp [dl]; lia) ?_
  intro ra g6 h' hl6 hra S'
  walk_at "cret"
  with_reducible refine' rt_ret ?_
  exact bk (ΓD' := []) (Λx := []) S' (fun S => q g6 _ _ _ _ (hl5.trans hl6) hra (by have := IntsAre.rev hfi; rw [dl_last] at this; exact this) S)
theorem told_ {w : World} {A : Around} {E : Value → Shared → Prop} {s : Shared} {hp : Heap} {tk : Nat} {K : Ent} {L : Addr} {m : Loc} {g : Frz} {Γ : List (Addr × Cell)} {n : Nat} {Q : Value → Shared → Prop} 
    (S : St w K L m g ([] ++ Γ) hp) (bs : Bs w K.B) (room : Room A (n + 1)) {x fd : Addr} {r : Row} {kvs : List (Int × Value)} {F : Int → Option Int} {nsz : Nat} (hr : RowOk w g (.ref x) r) (hsh : RowSh nsz r) (hfd : At w hp.get? fd (.dI kvs)) (hns : (fd == sysModules) = false) (hmap : MapOk kvs F)
    (q : ∀ h' t tk, St w K L m g ([] ++ Γ) h' → Q (.int (slotTold F r) t) (sh s h' tk)) :
    wpAny (model PG w) A (call (.ref 113) [.ref x, .ref fd]) Q E (sh s hp tk) := by
  obtain ⟨x9, d, al, t1, t2, tl, mv, avs, e9, hx1, hx2, hx3, hx4, hx5⟩ := hr
  cases e9
  refine call_fn ([]) [("found", .ref fd), ("step", .ref x)] S bs room (by rfl) (by kernel_rfl) (by rfl) (by kernel_rfl) ?_ (by decide) rfl rfl rfl
  intro L' h₁ tk' A' K' Pp hK room' bk S'
  subst hK
  walk_at "ex"
  with_reducible refine' wpAny_If ?_
  ((with_reducible refine' wpAny_isTrue_Compare1 ?_ ?kNOb); (case kNOb => with_unfolding_all rfl))
  with_reducible refine' PyProof.Rows.Attribute_name ?_
  walk_at "nm"
  walk_at "geta"
  with_reducible refine' k_str ?_
  refine PyProof.Rows.eq_str ?_
  with_reducible refine' wpAny_truthy_bool ?_
  refine ite_b (fun hb => ?_) (fun hb => ?_)
  ·
    replace hb := eq_of_beq hb
    have hS := hb
    obtain ⟨tm9, rfl⟩ := hx5 hb
    walk_at "ex"
    with_reducible refine' wpAny_Return_some ?_
    with_reducible refine' PyProof.Rows.Attribute_name ?_
    walk_at "nm"
    walk_at "geta"
    walk_at "cret"
    with_reducible refine' rt_ret ?_
    refine bk (ΓD' := []) (Λx := []) S' (fun S => ?_)
    rw [show r.more = slotTold F r from by (unfold slotTold; rw [if_pos hS])]
    exact q _ _ _ S
  ·
    replace hb := ne_of_beq_false hb
    have hS := hb
    walk_at "exn"
    walk_at "nx"
    walk_at "ex"
    with_reducible refine' wpAny_If ?_
    with_reducible refine' isTrue_and ?_
    ((with_reducible refine' wpAny_isTrue_Compare1 ?_ ?kNQb); (case kNQb => with_unfolding_all rfl))
    with_reducible refine' PyProof.Rows.Attribute_name ?_
    walk_at "nm"
    walk_at "geta"
    with_reducible refine' k_str ?_
    refine PyProof.Rows.eq_str ?_
    with_reducible refine' wpAny_truthy_bool ?_
    refine ite_b (fun hb => ?_) (fun hb => ?_)
    ·
      replace hb := eq_of_beq hb
      have hC := hb
      with_reducible refine absG fun G9 k9 => ?_
      obtain ⟨e0, hargs⟩ := hsh.cp hb
      have hx6 := hx4
      rw [hargs] at hx6
      obtain ⟨v0, rfl, a0, ta0, tb0, rfl, hat0⟩ := hx6.one
      with_reducible refine k9 ?_
      have hA0 : arg0 r = e0 := by unfold arg0; rw [hargs]
      with_reducible refine' isTrue_and ?_
      ((with_reducible refine' wpAny_isTrue_Compare1 ?_ ?kNSb); (case kNSb => with_unfolding_all rfl))
      with_reducible refine' Subscript_ ?_
      with_reducible refine' Subscript_ ?_
      with_reducible refine' PyProof.Rows.Attribute_name ?_
      walk_at "nm"
      walk_at "geta"
      with_reducible refine' k_int ?_
      walk_at "tail"
      with_reducible refine' k_int ?_
      walk_at "tail"
      with_reducible refine' k_str ?_
      refine PyProof.Rows.eq_str ?_
      with_reducible refine' wpAny_truthy_bool ?_
      refine ite_b (fun hb => ?_) (fun hb => (by replace hb := ne_of_beq_false hb; exact absurd rfl hb))
      replace hb := eq_of_beq hb
      with_reducible refine' isTrue_and_nil ?_
      with_reducible refine' ite_t ?_
      walk_at "ex"
      with_reducible refine' wpAny_Return_some ?_
      ((with_reducible refine' meth_node PySem.F.plainAttrs_dict PySem.F.slot_dict_get PySem.F.type_dict_get ?_ ?kBBe ?kBBf ?kBBg ?kBBh ?kBBi); (case kBBe | kBBf | kBBg | kBBh | kBBi => exact rfl))
      walk_at "nm"
      (refine ⟨_, rfl, ?_, ?_⟩; (first | exact obj_lx (by walk_at "at") | exact obj_dI (by walk_at "at") | exact obj_dS (by walk_at "at") | exact obj_st (by walk_at "at")))
      walk_at "ac"
      with_reducible refine' Subscript_ ?_
      with_reducible refine' Subscript_ ?_
      with_reducible refine' PyProof.Rows.Attribute_name ?_
      walk_at "nm"
      walk_at "geta"
      with_reducible refine' k_int ?_
      walk_at "tail"
      with_reducible refine' k_int ?_
      walk_at "tail"
      walk_at "ac"
      ((with_reducible refine' k_neg ?_); intro _)
      with_reducible refine' args_nil ?_
      obtain ⟨tg, hg⟩ := hmap.getD e0 _
      refine dict_getV (S'.old hfd (by simp)) hns hg ?_
      walk_at "cret"
      with_reducible refine' rt_ret ?_
      refine bk (ΓD' := []) (Λx := []) S' (fun S => ?_)
      rw [show (F e0).getD (-1) = slotTold F r from by (unfold slotTold; rw [if_neg hS, if_pos (.inl hC), hA0])]
      exact q _ _ _ S
    ·
      replace hb := ne_of_beq_false hb
      have hC := hb
      with_reducible refine' ite_f ?_
      walk_at "exn"
      walk_at "nx"
      walk_at "ex"
      with_reducible refine' wpAny_If ?_
      with_reducible refine' isTrue_and ?_
      ((with_reducible refine' wpAny_isTrue_Compare1 ?_ ?kNUb); (case kNUb => with_unfolding_all rfl))
      with_reducible refine' PyProof.Rows.Attribute_name ?_
      walk_at "nm"
      walk_at "geta"
      with_reducible refine' k_str ?_
      refine PyProof.Rows.eq_str ?_
      with_reducible refine' wpAny_truthy_bool ?_
      refine ite_b (fun hb => ?_) (fun hb => ?_)
      ·
        replace hb := eq_of_beq hb
        have hD := hb
        with_reducible refine absG fun G9 k9 => ?_
        obtain ⟨e0, k0, hargs⟩ := hsh.ad hb
        have hx6 := hx4
        rw [hargs] at hx6
        obtain ⟨v0, v1, rfl, ⟨a0, ta0, tb0, rfl, hat0⟩, ⟨a1, ta1, tb1, rfl, hat1⟩⟩ := hx6.two
        with_reducible refine k9 ?_
        have hA0 : arg0 r = e0 := by unfold arg0; rw [hargs]
        with_reducible refine' isTrue_and ?_
        ((with_reducible refine' wpAny_isTrue_Compare1 ?_ ?kNWb); (case kNWb => with_unfolding_all rfl))
        with_reducible refine' Subscript_ ?_
        with_reducible refine' Subscript_ ?_
        with_reducible refine' PyProof.Rows.Attribute_name ?_
        walk_at "nm"
        walk_at "geta"
        with_reducible refine' k_int ?_
        walk_at "tail"
        with_reducible refine' k_int ?_
        walk_at "tail"
        with_reducible refine' k_str ?_
        refine PyProof.Rows.eq_str ?_
        with_reducible refine' wpAny_truthy_bool ?_
        refine ite_b (fun hb => ?_) (fun hb => (by replace hb := ne_of_beq_false hb; exact absurd rfl hb))
        replace hb := eq_of_beq hb
        with_reducible refine' isTrue_and ?_
        ((with_reducible refine' wpAny_isTrue_Compare1 ?_ ?kNYb); (case kNYb => with_unfolding_all rfl))
        with_reducible refine' Subscript_ ?_
        with_reducible refine' Subscript_ ?_
        with_reducible refine' PyProof.Rows.Attribute_name ?_
        walk_at "nm"
        walk_at "geta"
        with_reducible refine' k_int ?_
        walk_at "tail"
        with_reducible refine' k_int ?_
        walk_at "tail"
        with_reducible refine' k_str ?_
        refine PyProof.Rows.eq_str ?_
        with_reducible refine' wpAny_truthy_bool ?_
        refine ite_b (fun hb => ?_) (fun hb => (by replace hb := ne_of_beq_false hb; exact absurd rfl hb))
        replace hb := eq_of_beq hb
        with_reducible refine' isTrue_and_nil ?_
        with_reducible refine' ite_t ?_
        walk_at "ex"
        with_reducible refine' wpAny_Return_some ?_
        ((with_reducible refine' meth_node PySem.F.plainAttrs_dict PySem.F.slot_dict_get PySem.F.type_dict_get ?_ ?kCHe ?kCHf ?kCHg ?kCHh ?kCHi); (case kCHe | kCHf | kCHg | kCHh | kCHi => exact rfl))
        walk_at "nm"
        (refine ⟨_, rfl, ?_, ?_⟩; (first | exact obj_lx (by walk_at "at") | exact obj_dI (by walk_at "at") | exact obj_dS (by walk_at "at") | exact obj_st (by walk_at "at")))
        walk_at "ac"
        with_reducible refine' Subscript_ ?_
        with_reducible refine' Subscript_ ?_
        with_reducible refine' PyProof.Rows.Attribute_name ?_
        walk_at "nm"
        walk_at "geta"
        with_reducible refine' k_int ?_
        walk_at "tail"
        with_reducible refine' k_int ?_
        walk_at "tail"
        walk_at "ac"
        ((with_reducible refine' k_neg ?_); intro _)
        with_reducible refine' args_nil ?_
        obtain ⟨tg, hg⟩ := hmap.getD e0 _
        refine dict_getV (S'.old hfd (by simp)) hns hg ?_
        walk_at "cret"
        with_reducible refine' rt_ret ?_
        refine bk (ΓD' := []) (Λx := []) S' (fun S => ?_)
        rw [show (F e0).getD (-1) = slotTold F r from by (unfold slotTold; rw [if_neg hS, if_pos (.inr hD), hA0])]
        exact q _ _ _ S
      ·
        replace hb := ne_of_beq_false hb
        have hD := hb
        with_reducible refine' ite_f ?_
        walk_at "exn"
        walk_at "nx"
        walk_at "ex"
        with_reducible refine' wpAny_Return_some ?_
        ((with_reducible refine' k_neg ?_); intro _)
        walk_at "cret"
        with_reducible refine' rt_ret ?_
        refine bk (ΓD' := []) (Λx := []) S' (fun S => ?_)
        have e : slotTold F r = -1 := by unfold slotTold; rw [if_neg hS, if_neg (fun z => z.elim hC hD)]
        rw [← e]
        exact q _ _ _ S
theorem att_any {w : World} {A : Around} {E : Value → Shared → Prop} {s : Shared} {env : Env} {value : Expr} {attr : Str} {pos : Pos} {Q : Value → Shared → Prop} (q : wpAny (model PG w) A (eval value env) (fun o s₁ => wpAny (model PG w) A (getAttr o attr true) Q E s₁) E s)
    (hb : attributeBase value attr env (eval value env) = eval value env) : wpAny (model PG w) A (eval (.Attribute value attr pos) env) Q E s := by
  rw [arm_eval_Attribute, hb]
  exact wpAny_bind (wpAny_mono q (fun o s₁ h₁ => wpAny_bind (wpAny_standAt (wpAny_bind (wpAny_holding (wpAny_mono h₁ (fun r s₂ h₂ => wpAny_bind (wpAny_letTemporaryGo (wpAny_pure h₂))) fun _ _ e => e))))) fun _ _ e => e)
local macro_rules | `(tactic| walk_at "ataA") => `(tactic| (with_reducible refine' att_any ?_ ?k1; (case k1 => first | exact rfl | kernel_rfl)))
theorem chunk_mem {α : Type} {xs : List α} {ways i : Nat} {x : α} (h : x ∈ chunk xs ways i) : x ∈ xs := List.mem_of_mem_drop (List.mem_of_mem_take h)
theorem MapOk.step {P : Int → Bool} {V : List Row} {r : Row} {nsz : Nat} {kvs : List (Int × Value)} {t : Tok} (hs : RowSh nsz r) (hV : ∀ r ∈ V, RowSh nsz r) (h : MapOk kvs (holdersOf P V)) (hP : P r.dst = true) (h0 : 0 ≤ slotTold (holdersOf P V) r) :
    MapOk (stored kvs r.dst (.int (slotTold (holdersOf P V) r) t)) (holdersOf P (V ++ [r])) := by
  rw [holdersOf_snoc, hstep_told hs (holders_pos hV), if_pos ⟨hP, h0⟩]; exact h.set
theorem MapOk.stay {P : Int → Bool} {V : List Row} {r : Row} {nsz : Nat} {kvs : List (Int × Value)} (hs : RowSh nsz r) (hV : ∀ r ∈ V, RowSh nsz r) (h : MapOk kvs (holdersOf P V)) (hP : ¬(P r.dst = true ∧ 0 ≤ slotTold (holdersOf P V) r)) :
    MapOk kvs (holdersOf P (V ++ [r])) := by
  rw [holdersOf_snoc, hstep_told hs (holders_pos hV), if_neg hP]; exact h
theorem hold_ {w : World} {A : Around} {E : Value → Shared → Prop} {s : Shared} {hp : Heap} {tk : Nat} {K : Ent} {L : Addr} {m : Loc} {g : Frz} {Γ : List (Addr × Cell)} {n : Nat} {Q : Value → Shared → Prop} 
    (S : St w K L m g ([] ++ Γ) hp) (bs : Bs w K.B) (room : Room A (n + 4)) {v : Value} {sizes : List Int} {rs : List Row} {eargs : List (Str × Int)} {ways : Nat} (hf : FV w g v sizes rs eargs ways) (hrn : rs.length ≤ 12) {od : Addr} {okvs : List (Int × Value)} {P : Int → Bool} {nsz : Nat} (hod : At w g od (.dI okvs)) (hok : SetOk okvs P) (hsh : ∀ r ∈ rs, RowSh nsz r)
    (q : ∀ g' h' d kvs tk, g.le g' → At w g' d (.dI kvs) → MapOk kvs (holdersOf P rs) → kvs.length ≤ 40 → St w K L m g' ([] ++ Γ) h' → Q (.ref d) (sh s h' tk)) :
    wpAny (model PG w) A (call (.ref 120) [v, .ref od]) Q E (sh s hp tk) := by
  obtain ⟨x, d, pl, sl, bl, nm, t1, t2, t3, bvs, rfl, hx1, hx2, hpl, hsl, hbl, hbn, hwz, hbk⟩ := hf
  refine call_fn ([]) [("once", .ref od), ("func", .ref x)] S bs room (by rfl) (by kernel_rfl) (by rfl) (by kernel_rfl) ?_ (by decide) rfl rfl rfl
  intro L' h₁ tk' A' K' Pp hK room' bk S'
  subst hK
  walk_at "ex"
  ((with_reducible refine' wpAny_Assign_Name ?_ ?kOAb); (case kOAb => first | exact rfl | kernel_rfl))
  ((with_reducible refine' dict_0 ?kBa ?_); (case kBa => assumption)); intro fd h' S'
  walk_at "st"; intro h' t' S'
  replace S' : St w _ L' _ _ ([(fd, Cell.dI [])] ++ []) _ := S'
  walk_at "nx"
  walk_at "ex"
  ((with_reducible refine' for_ex ?_ ?kCb); (case kCb => intro _; rfl))
  ((with_reducible refine' call_def_node ?kDa ?kDb (Gorder _) (Porder _) ?_ ?kDf ?kDg ?kDh ?kDi ?kDj ?kDk); (case kDa | kDb => assumption); (case kDf | kDg | kDj | kDk => exact rfl); (case kDh | kDi => kernel_rfl))
  walk_at "evl"
  (refine ⟨St.base (by assumption), ?_⟩)
  refine order_ (Γ := _) S' bs (room'.l (k := 0 + 3)) (v := .ref x) (ways := ways) ⟨x, d, pl, sl, bl, nm, t1, t2, t3, bvs, rfl, hx1, hx2, hpl, hsl, hbl, hbn, hwz, hbk⟩ hrn ?_
  intro g5 ra rvl h' tk' hl5 hra hri S'
  replace S' : St w _ L' _ _ ([(fd, Cell.dI [])] ++ []) _ := S'
  have hrl := (intsAre_nd hri).1
  rw [show (roadL ways).length = ways by simp [roadL]] at hrl
  refine iter_ls S' (S'.fz hra).lx ?_; intro it' h' S'
  refine for_T (T := fun k R => ∀ g₁, ∀ kvs, g5.le g₁ → kvs.length ≤ 12 * k → MapOk kvs (holdersOf P (rs.take (k * rs.length / ways))) → R g₁ ([(fd, Cell.dI kvs)])) (src_ls (by exact Room.hh (by assumption)) it' ra rvl) S' ?tt ?j0 ?ok ?hg ?step ?done
  case tt => exact fun i R H x0 x1 x2 x3 x9 => H _ _ fun R9 k9 => k9 x0 x1 x2 x3 x9
  case j0 =>
    exact fun R9 k9 => k9 _ [] Frz.le.refl (Nat.le_refl _) (fun c => .inl ⟨rfl, by rw [chunk_zero]; rfl⟩)
  case ok =>
    rintro i g₁ _ hle _ _ h₁ S; exact (S.fz (hra.mono hle)).lx
  case hg => first | exact .inl ⟨_, _, rfl⟩ | exact .inr ⟨_, _, _, rfl, by walk_at "hgt"⟩
  case step =>
    rintro i9 v' P' hi' hx' X' g' kvs hle hkl hmap h' t' S'
    have hiw : i9 < ways := by lia
    obtain ⟨tc, hic, hv9⟩ := (intsAre_nd hri).2 _ _ hx'
    rw [show (roadL ways)[i9] = ((rd ways i9 : Nat) : Int) by simp [roadL]] at hv9
    subst hv9
    with_reducible refine absG fun G9 k9 => ?_
    obtain ⟨bx, hbx, hbv⟩ := hbk (rd ways i9) (rd_lt hiw)
    obtain ⟨bd, num, ls, en, cvs, hb1, hb2, hb3, hb4, hb5⟩ := hbv.mono (hl5.trans hle)
    with_reducible refine k9 ?_
    rw [rd_rd hiw] at hb4
    have hcl : cvs.length ≤ 12 := by have := hb4.len; have := chunk_len rs ways i9; lia
    have hx1' := hx1.mono (hl5.trans hle)
    have hx2' := hx2.mono (hl5.trans hle)
    have hodz := hod.mono (hl5.trans hle)
    have hrdl := rd_lt hiw
    with_reducible refine' assign_Name ?_
    walk_at "st"; intro h' t' S'
    walk_at "ex"
    ((with_reducible refine' for_ex ?_ ?kGb); (case kGb => intro _; rfl))
    walk_at "ataA"
    with_reducible refine' Subscript_ ?_
    with_reducible refine' PyProof.Rows.Attribute_name ?_
    walk_at "nm"
    walk_at "geta"
    walk_at "nm"
    refine sub_ls (S'.fz (hbl.mono (hl5.trans hle))).lx (by lia) (by rw [Int.toNat_natCast]; exact hbx) ?_ (by lia)
    walk_at "geta"
    refine iter_ls S' (S'.fz hb3).lx ?_; intro it2 h' S'
    refine for_T (T := fun j R => ∀ kvs, kvs.length ≤ 12 * i9 + j → MapOk kvs (holdersOf P (rs.take (i9 * rs.length / ways) ++ (chunk rs ways i9).take j)) → R g' ([(fd, Cell.dI kvs)])) (src_ls (by exact Room.hh (by assumption)) it2 ls cvs) S' ?ttB ?j0B ?okB ?hgB ?stepB ?doneB
    case ttB => exact fun i R H x0 x1 x2 => H _ _ fun R9 k9 => k9 x0 x1 x2
    case j0B =>
      exact fun R9 k9 => k9 kvs hkl (by simpa using hmap)
    case okB =>
      rintro i _ _ _ h₁ S; exact (S.fz hb3).lx
    case hgB => first | exact .inl ⟨_, _, rfl⟩ | exact .inr ⟨_, _, _, rfl, by walk_at "hgt"⟩
    case stepB =>
      rintro j v' P' hi' hx' X' kvs hkl hmap h' t' S'
      with_reducible refine absG fun G9 k9 => ?_
      obtain ⟨r, hr, hro⟩ := hb4.get hx'
      have hrm := chunk_mem (List.mem_of_getElem? hr)
      have hro2 := hro
      obtain ⟨x9, d9, al9, u1, u2, ul, mv, avs, rfl, hr1, hr2, hr3, hr4, hr5⟩ := hro
      with_reducible refine k9 ?_
      have hkl4 : kvs.length ≤ 60 := by lia
      with_reducible refine' assign_Name ?_
      walk_at "st"; intro h' t' S'
      walk_at "ex"
      with_reducible refine' wpAny_If ?_
      ((with_reducible refine' wpAny_isTrue_Compare1 ?_ ?kOBb); (case kOBb => with_unfolding_all rfl))
      with_reducible refine' PyProof.Rows.Attribute_name ?_
      walk_at "nm"
      walk_at "geta"
      walk_at "nm"
      ((with_reducible refine' in_dI ?kMa ?kMb ?_); (case kMa => walk_at "at"); (case kMb => walk_at "ns"))
      with_reducible refine' wpAny_truthy_bool ?_
      refine ite_b (fun hb => ?_) (fun hb => ?_)
      ·
        skip
        have hP := hb
        rw [hok.1] at hP
        walk_at "ex"
        ((with_reducible refine' wpAny_Assign_Name ?_ ?kODb); (case kODb => first | exact rfl | kernel_rfl))
        ((with_reducible refine' call_def_node ?kNa ?kNb (Gslot_told _) (Pslot_told _) ?_ ?kNf ?kNg ?kNh ?kNi ?kNj ?kNk); (case kNa | kNb => assumption); (case kNf | kNg | kNj | kNk => exact rfl); (case kNh | kNi => kernel_rfl))
        walk_at "evl"
        (refine ⟨St.base (by assumption), ?_⟩)
        refine told_ (Γ := _) S' bs (room'.l (k := 0 + 1)) hro2 (hsh r hrm) (S'.rd (List.mem_append_left _ (.head _))) (S'.notSys bs (List.mem_append_left _ (.head _))) hmap ?_
        intro h' tv tk' S'
        replace S' : St w _ L' _ _ ([(fd, Cell.dI kvs)] ++ _) _ := S'
        walk_at "st"; intro h' t' S'
        walk_at "nx"
        walk_at "ex"
        with_reducible refine' wpAny_If ?_
        ((with_reducible refine' evb_ ?kOEa ?kOEb ?_ ?kOEd ?kOEe); (case kOEa => assumption); (case kOEb => walk_at "eec"); (case kOEd | kOEe => exact rfl))
        refine ite_b (fun hb => ?_) (fun hb => ?_)
        ·
          replace hb := of_decide_eq_true hb
          have h0 := hb
          walk_at "ex"
          ((with_reducible refine' wpAny_Assign_Subscript ?_ ?kQb); (case kQb => exact rfl))
          walk_at "nm"
          walk_at "nm"
          with_reducible refine' PyProof.Rows.Attribute_name ?_
          walk_at "nm"
          walk_at "geta"
          ((with_reducible refine' set_dI ?kSa ?kSb ?kSc ?_); (case kSa => assumption); (case kSb => walk_at "upd"); (case kSc => walk_at "sz")); intro h' S'
          walk_at "nx"
          walk_at "exn"
          walk_at "nx"
          walk_at "exn"
          walk_at "nx"
          walk_at "exn"
          have hV : ∀ x ∈ rs.take (i9 * rs.length / ways) ++ (chunk rs ways i9).take j, RowSh nsz x := fun x hx => hsh x (by
            rcases List.mem_append.mp hx with hx | hx
            · exact List.mem_of_mem_take hx
            · exact chunk_mem (List.mem_of_mem_take hx))
          exact X' _ (by have := len_stored kvs r.dst (.int (slotTold (holdersOf P (rs.take (i9 * rs.length / ways) ++ (chunk rs ways i9).take j)) r) tv); lia) (by rw [take_snoc hr, ← List.append_assoc]; exact MapOk.step (hsh r hrm) hV hmap hP h0) _ _ _ (.inl rfl) (St.weak S' (by walk_at "lsub"))
        ·
          replace hb := of_decide_eq_false hb
          have h0 := hb
          walk_at "exn"
          walk_at "nx"
          walk_at "exn"
          walk_at "nx"
          walk_at "exn"
          have hV : ∀ x ∈ rs.take (i9 * rs.length / ways) ++ (chunk rs ways i9).take j, RowSh nsz x := fun x hx => hsh x (by
            rcases List.mem_append.mp hx with hx | hx
            · exact List.mem_of_mem_take hx
            · exact chunk_mem (List.mem_of_mem_take hx))
          exact X' kvs (by lia) (by rw [take_snoc hr, ← List.append_assoc]; exact MapOk.stay (hsh r hrm) hV hmap (fun z => h0 z.2)) _ _ _ (.inl rfl) (St.weak S' (by walk_at "lsub"))
      ·
        skip
        have hP := hb
        rw [hok.1] at hP
        walk_at "exn"
        walk_at "nx"
        walk_at "exn"
        have hV : ∀ x ∈ rs.take (i9 * rs.length / ways) ++ (chunk rs ways i9).take j, RowSh nsz x := fun x hx => hsh x (by
          rcases List.mem_append.mp hx with hx | hx
          · exact List.mem_of_mem_take hx
          · exact chunk_mem (List.mem_of_mem_take hx))
        exact X' kvs (by lia) (by rw [take_snoc hr, ← List.append_assoc]; exact MapOk.stay (hsh r hrm) hV hmap (fun z => by rw [hP] at z; exact absurd z.1 (by decide))) _ _ _ (.inl rfl) (St.weak S' (by walk_at "lsub"))
    case doneB =>
      rintro kvs hkl hmap h' t' S'
      rw [show List.take cvs.length (chunk rs ways i9) = chunk rs ways i9 from List.take_of_length_le (by rw [hb4.len]; exact Nat.le_refl _)] at hmap
      walk_at "nx"
      walk_at "exn"
      exact X' _ kvs hle (by lia) (by rw [chunk_next rs hiw]; exact hmap) _ _ _ (.inl rfl) (St.weak S' (by walk_at "lsub"))
  case done =>
    rintro g' kvs hle hkl hmap h' t' S'
    rw [hrl, chunk_all rs (by lia)] at hmap
    walk_at "nx"
    walk_at "ex"
    with_reducible refine' wpAny_Return_some ?_
    walk_at "nm"
    walk_at "cret"
    with_reducible refine' rt_ret ?_
    obtain ⟨g9, hl9, hfz9, S9⟩ := St.freezeAllN (ΓD := []) S' rfl
    exact bk (ΓD' := []) (Λx := []) S9 (fun S => q g9 _ _ kvs _ (hl5.trans (hle.trans hl9)) (hfz9 (fd, _) (List.Mem.head _)) hmap (by lia) S)
theorem lk99 (w : World) : (hd.heap_39 w.params).lookup 99 = some ⟨.type "dict", none, .dict #[{ hash := PyData.keyHash w.params (Str.ofString "load"), key := .str (Str.ofString "load") 325, val := .int 1 326 },
    { hash := PyData.keyHash w.params (Str.ofString "store"), key := .str (Str.ofString "store") 327, val := .int 1 328 }, { hash := PyData.keyHash w.params (Str.ofString "move"), key := .str (Str.ofString "move") 329, val := .int 2 330 }] 3, #[]⟩ := by kernel_rfl
section
variable {w : World} {A : Around} {E : Value → Shared → Prop} {s : Shared} {h h' : Heap} {t : Nat} {K : Ent} {L : Addr} {m m' : Loc} {g : Frz} {Γ Γ' ΓD Λ : List (Addr × Cell)} {env : Env}
theorem at99 (S : St w K L m g Γ h) (bs : Bs w K.B) : ∃ b d f, At w h.get? 99 (.dS [("load", .int 1 b), ("store", .int 1 d), ("move", .int 2 f)]) := by
  refine ⟨326, 328, 330, _, (bs.X.keeps S.base) _ _ (lk99 w), _, 3, ⟨rfl, rfl, rfl⟩, rfl, fun x hx => ?_, ?_, by decide⟩
  · simp only [List.mem_toArray, List.mem_cons, List.not_mem_nil, or_false] at hx
    rcases hx with rfl | rfl | rfl
    · exact ⟨_, strKind_is PG w _ _, rfl⟩
    · exact ⟨_, strKind_is PG w _ _, rfl⟩
    · exact ⟨_, strKind_is PG w _ _, rfl⟩
  · exact .cons (strKind_is PG w _ _) rfl (.cons (strKind_is PG w _ _) rfl (.cons (strKind_is PG w _ _) rfl .nil))
def addrN (op : Str) : Int := if op = "move" then 2 else 1
theorem in_addr {k : Str} {tk : Tok} {Q : Value → Shared → Prop} (S : St w K L m g Γ h) (bs : Bs w K.B) (q : Q (.bool (decide (k = "load" ∨ k = "store" ∨ k = "move"))) (sh s h (t + 1))) :
    wpAny (model PG w) A (compareOp .In (.str k tk) (.ref 99)) Q E (sh s h t) := by
  obtain ⟨b, d, f, c⟩ := at99 S bs
  refine wpAny_in_of (s := sh s h t) (strKind_is PG w k tk) (by decide) c.dictS.mapOf ?_
  have e : (valueAt [((Str.ofString "load"), Value.int 1 b), ("store", .int 1 d), ("move", .int 2 f)] k).isSome = decide (k = "load" ∨ k = "store" ∨ k = "move") := by
    rw [Bool.eq_iff_iff, decide_eq_true_eq]
    unfold valueAt
    rw [Option.isSome_map, List.find?_isSome]
    simp [eq_comm]
  rw [← e] at q
  exact q
theorem sub_addr {k : Str} {u : Tok} {value slice : Expr} {Q : Value → Shared → Prop} (S : St w K L m g Γ h) (bs : Bs w K.B) (hk : k = "load" ∨ k = "store" ∨ k = "move") (q : ∀ t', Q (.int (addrN k) t') (sh s h (t + 1)))
    (hs : subscripted slice false (.ref 99) (.str k u) = operate [.ref 99, .str k u] (getItem (.ref 99) (.str k u)) := by with_unfolding_all rfl) :
    wpAny (model PG w) A (subscriptTail value slice (.ref 99) (.str k u)) Q E (sh s h t) := by
  obtain ⟨b, d, f, c⟩ := at99 S bs
  rcases hk with rfl | rfl | rfl
  · exact sub_dS c (Lk.of rfl) (q b) hs
  · exact sub_dS c (Lk.of rfl) (q d) hs
  · exact sub_dS c (Lk.of rfl) (q f) hs
theorem dict_eqE {a b : Addr} {ka : List (Int × Value)} {n : Nat} {Q : Value → Shared → Prop} (ca : At w h.get? a (.dI ka)) (cb : At w h.get? b (.dI [])) (ha : (a == sysModules) = false) (hb : (b == sysModules) = false) (r : Room A n) (hk : ka.length ≠ 0) (q : Q (.bool false) (sh s h t)) :
    wpAny (model PG w) A (compareOp .Eq (.ref a) (.ref b)) Q E (sh s h t) := by
  refine keq_eq (s := sh s h t) (r := true) ha hb ca.dictI cb.dictI (by have := r.u; lia) (fun e => absurd e hk) ?_
  have e : (ka.length == ([] : List (Int × Value)).length && true) = false := by simpa using hk
  rw [e]; exact q
end
structure RowS2 (r : Row) : Prop where
  ld : r.op = "load" → r.args.length = 1
  sd : r.op = "store" → r.dst = -1
theorem said_addr {F : Int → Option Int} {r : Row} {nsz : Nat} (h : RowSh nsz r) (h2 : RowS2 r) (hm : r.op = "move" → r.args.length = 2) (hF : F (-1) = none) (hk : r.op = "load" ∨ r.op = "store" ∨ r.op = "move") : saidOf F r = r.args.drop (addrN r.op).toNat := by
  unfold saidOf addrN
  rcases hk with e | e | e
  · rw [if_pos (.inl e), if_neg (by rw [e]; decide)]
    have := h2.ld e
    exact (List.drop_eq_nil_of_le (by rw [this]; decide)).symm
  · rw [if_neg (fun z => by
      rcases z with z | z | z
      · rw [e] at z; exact absurd z (by decide)
      · rw [e] at z; exact absurd z (by decide)
      · rw [h2.sd e, hF] at z; cases z), if_pos e, if_neg (by rw [e]; decide)]
    rfl
  · rw [if_pos (.inr (.inl e)), if_pos e]
    have := hm e
    exact (List.drop_eq_nil_of_le (by rw [this]; decide)).symm
theorem said_slot {F : Int → Option Int} {r : Row} {nsz : Nat} (h : RowSh nsz r) (e : r.op = "slot") : saidOf F r = [] := by
  unfold saidOf
  rw [(h.sl e).2.2]
  split
  · rfl
  · split <;> rfl
def endA (eargs : List (Str × Int)) (ways j : Nat) : List (Str × Int) := if rd ways j + 1 < ways then [] else eargs
theorem lost_snoc (P : Int → Bool) (F : Int → Option Int) (V : List Row) (r : Row) (c : Int) : (V ++ [r]).any (lostAt P F c) = ((V.any (lostAt P F c) || slotHit P r c) || (saidOf F r).any (argHit F c)) := by
  rw [List.any_append, Bool.or_assoc]; simp [lostAt]
def privP (P : Int → Bool) (F : Int → Option Int) (V : List Row) (eargs : List (Str × Int)) (ways k n : Nat) (c : Int) : Bool := (decide (0 ≤ c ∧ c < n) && !(List.range k).any (fun j => (endA eargs ways j).any (argHit F c))) && !V.any (lostAt P F c)
theorem priv_end {P : Int → Bool} {F : Int → Option Int} {V rs : List Row} {eargs : List (Str × Int)} {ways n : Nat} (p : V.Perm rs) (hw : 1 ≤ ways) (hF : F (-1) = none) (c : Int) : privP P F V eargs ways ways n c = dueOf P F rs eargs n c := by
  unfold privP dueOf lostOf
  have e1 : (List.range ways).any (fun j => (endA eargs ways j).any (argHit F c)) = eargs.any (argHit F c) := by
    rw [Bool.eq_iff_iff, List.any_eq_true]
    constructor
    · rintro ⟨j, hj, e⟩
      unfold endA at e
      split at e
      · simp at e
      · exact e
    · intro e
      refine ⟨rd ways (ways - 1), List.mem_range.mpr (rd_lt (by lia)), ?_⟩
      unfold endA
      rw [rd_rd (by lia), if_neg (by lia)]
      exact e
  have e2 : V.any (lostAt P F c) = rs.any (lostAt P F c) := by
    rw [Bool.eq_iff_iff, List.any_eq_true, List.any_eq_true]
    exact ⟨fun ⟨x, hx, e⟩ => ⟨x, p.mem_iff.mp hx, e⟩, fun ⟨x, hx, e⟩ => ⟨x, p.mem_iff.mpr hx, e⟩⟩
  have e3 : lostAt P F c (endRow eargs) = eargs.any (argHit F c) := by
    unfold lostAt
    rw [slotHit_no (.inl (show ¬ Str.ofString "give" = Str.ofString "slot" by decide)), Bool.false_or]
    unfold saidOf endRow
    rw [if_neg (by
      rintro (z | z | z)
      · exact absurd (show Str.ofString "give" = Str.ofString "load" from z) (by decide)
      · exact absurd (show Str.ofString "give" = Str.ofString "move" from z) (by decide)
      · simp only [hF] at z; cases z), if_neg (show ¬ Str.ofString "give" = Str.ofString "store" by decide)]
  rw [e1, e2, List.any_append, List.any_cons, List.any_nil, Bool.or_false, e3, Bool.not_or, Bool.and_assoc]
  congr 1
  exact Bool.and_comm _ _
theorem privP_next {P : Int → Bool} {F : Int → Option Int} {V : List Row} {eargs : List (Str × Int)} {ways k n : Nat} (c : Int) : privP P F V eargs ways (k + 1) n c = (privP P F V eargs ways k n c && !(endA eargs ways k).any (argHit F c)) := by
  unfold privP
  rw [List.range_succ, List.any_append]
  simp only [List.any_cons, List.any_nil, Bool.or_false, Bool.not_or, Bool.and_assoc]
  congr 2
  exact Bool.and_comm _ _
theorem privP_row {P : Int → Bool} {F : Int → Option Int} {V : List Row} {r : Row} {eargs : List (Str × Int)} {ways k n : Nat} (c : Int) :
    privP P F (V ++ [r]) eargs ways k n c = ((privP P F V eargs ways k n c && !slotHit P r c) && !(saidOf F r).any (argHit F c)) := by
  unfold privP
  rw [lost_snoc]
  simp only [Bool.not_or, Bool.and_assoc]
local macro_rules | `(tactic| walk_at "ataA") => `(tactic| (with_reducible refine' att_any ?_ ?k1; (case k1 => first | exact rfl | kernel_rfl)))
theorem letgo_ {w : World} {A : Around} {E : Value → Shared → Prop} {s : Shared} {hp : Heap} {tk : Nat} {K : Ent} {L : Addr} {m : Loc} {g : Frz} {Γ : List (Addr × Cell)} {n : Nat} {Q : Value → Shared → Prop} 
    {pd : Addr} {pkvs : List (Int × Value)} (S : St w K L m g ([(pd, Cell.dI pkvs)] ++ Γ) hp) (bs : Bs w K.B) (room : Room A (n + 1)) {al hd_ : Addr} {avs : List Value} {xs : List (Str × Int)} {hkvs : List (Int × Value)} {PV : Int → Bool} {F : Int → Option Int} (hal : At w g al (.lx avs)) (hxs : ArgsOk w g avs xs) (hhd : At w g hd_ (.dI hkvs)) (hhk : MapOk hkvs F) (hpv : SetOk pkvs PV) (hpz : pkvs.length ≤ 100)
    (q : ∀ h' pk2 tk, pk2.length ≤ pkvs.length → SetOk pk2 (fun c => PV c && !xs.any (argHit F c)) → St w K L m g ([(pd, Cell.dI pk2)] ++ Γ) h' → Q .none (sh s h' tk)) :
    wpAny (model PG w) A (call (.ref 127) [.ref al, .ref hd_, .ref pd]) Q E (sh s hp tk) := by
  refine call_fn ([(pd, Cell.dI pkvs)]) [("private", .ref pd), ("holders", .ref hd_), ("args", .ref al)] S bs room (by rfl) (by kernel_rfl) (by rfl) (by kernel_rfl) ?_ (by decide) rfl rfl rfl
  intro L' h₁ tk' A' K' Pp hK room' bk S'
  subst hK
  walk_at "ex"
  ((with_reducible refine' for_ex ?_ ?kBb); (case kBb => intro _; rfl))
  walk_at "nm"
  refine iter_ls S' (S'.fz hal).lx ?_; intro it' h' S'
  refine for_T (T := fun j R => ∀ pk, pk.length ≤ pkvs.length → SetOk pk (fun c => PV c && !(xs.take j).any (argHit F c)) → R g ([(pd, Cell.dI pk)])) (src_ls (by exact Room.hh (by assumption)) it' al avs) S' ?tt ?j0 ?ok ?hg ?step ?done
  case tt => exact fun i R H x0 x1 x2 => H _ _ fun R9 k9 => k9 x0 x1 x2
  case j0 =>
    exact fun R9 k9 => k9 pkvs (Nat.le_refl _) (hpv.congr fun c => by simp)
  case ok =>
    rintro i _ _ _ h₁ S; exact (S.fz hal).lx
  case hg => first | exact .inl ⟨_, _, rfl⟩ | exact .inr ⟨_, _, _, rfl, by walk_at "hgt"⟩
  case step =>
    rintro i' v' P' hi' hx' X' pk hkl hset h' t' S'
    with_reducible refine absG fun G9 k9 => ?_
    obtain ⟨x0, hx0, a0, ta0, tb0, rfl, hat0⟩ := hxs.get hx'
    with_reducible refine k9 ?_
    have hkl4 : pk.length ≤ 100 := by lia
    with_reducible refine' assign_Name ?_
    walk_at "st"; intro h' t' S'
    walk_at "ex"
    with_reducible refine' wpAny_If ?_
    with_reducible refine' isTrue_and ?_
    ((with_reducible refine' wpAny_isTrue_Compare1 ?_ ?kOFb); (case kOFb => with_unfolding_all rfl))
    walk_at "ev"
    with_reducible refine' k_str ?_
    refine PyProof.Rows.eq_str ?_
    with_reducible refine' wpAny_truthy_bool ?_
    refine ite_b (fun hb => ?_) (fun hb => ?_)
    ·
      replace hb := eq_of_beq hb
      have hK := hb
      with_reducible refine' isTrue_and ?_
      ((with_reducible refine' wpAny_isTrue_Compare1 ?_ ?kOHb); (case kOHb => with_unfolding_all rfl))
      walk_at "ev"
      walk_at "nm"
      ((with_reducible refine' in_dI ?kHa ?kHb ?_); (case kHa => walk_at "at"); (case kHb => walk_at "ns"))
      with_reducible refine' wpAny_truthy_bool ?_
      refine ite_b (fun hb => ?_) (fun hb => ?_)
      ·
        skip
        obtain ⟨fi, ft, hfi1, hfi2⟩ := hhk.there hb
        with_reducible refine' isTrue_and_nil ?_
        with_reducible refine' ite_t ?_
        walk_at "ex"
        ((with_reducible refine' wpAny_Expr_any ?_ ?kKb ?kKc); (case kKb | kKc => exact rfl))
        ((with_reducible refine' meth_node PySem.F.plainAttrs_dict PySem.F.slot_dict_pop PySem.F.type_dict_pop ?_ ?kLe ?kLf ?kLg ?kLh ?kLi); (case kLe | kLf | kLg | kLh | kLi => exact rfl))
        walk_at "nm"
        (refine ⟨_, rfl, ?_, ?_⟩; (first | exact obj_lx (by walk_at "at") | exact obj_dI (by walk_at "at") | exact obj_dS (by walk_at "at") | exact obj_st (by walk_at "at")))
        walk_at "ac"
        with_reducible refine' Subscript_ ?_
        walk_at "nm"
        walk_at "ev"
        refine sub_dI (by walk_at "at") hfi1 ?_
        walk_at "ac"
        with_reducible refine' wpAny_Constant_none ?_
        with_reducible refine' args_nil ?_
        refine dict_popD S' (by walk_at "upd") (by walk_at "sz") (S'.notSys bs (by walk_at "mem")) ?_
        intro v9 h' t' S'
        walk_at "nx"
        walk_at "exn"
        walk_at "nx"
        walk_at "exn"
        exact X' _ (Nat.le_trans (List.length_filter_le _ _) hkl) (hset.wo fun c => by rw [any_take hx0, argHit_yes hK hfi2, Bool.not_or, Bool.and_assoc]) _ _ _ (.inl rfl) (St.weak S' (by walk_at "lsub"))
      ·
        skip
        have hfn : F x0.2 = none := by
          have := hhk.isSome x0.2
          rw [hb] at this
          cases q : F x0.2 with
          | none => rfl
          | some v => rw [q] at this; cases this
        with_reducible refine' ite_f ?_
        walk_at "exn"
        walk_at "nx"
        walk_at "exn"
        exact X' pk hkl (hset.congr fun c => by rw [any_take hx0, argHit_no (.inr hfn), Bool.or_false]) _ _ _ (.inl rfl) (St.weak S' (by walk_at "lsub"))
    ·
      replace hb := ne_of_beq_false hb
      have hK := hb
      with_reducible refine' ite_f ?_
      walk_at "exn"
      walk_at "nx"
      walk_at "exn"
      exact X' pk hkl (hset.congr fun c => by rw [any_take hx0, argHit_no (.inl hK), Bool.or_false]) _ _ _ (.inl rfl) (St.weak S' (by walk_at "lsub"))
  case done =>
    rintro pk hkl hset h' t' S'
    rw [List.take_of_length_le (by rw [hxs.len]; exact Nat.le_refl _)] at hset
    walk_at "nx"
    walk_at "exn"
    with_reducible refine' rt_next ?_
    exact bk (ΓD' := [(pd, Cell.dI pk)]) (Λx := []) S' (fun S => q _ _ _ hkl hset S)
local macro_rules | `(tactic| walk_at "ataA") => `(tactic| (with_reducible refine' att_any ?_ ?k1; (case k1 => first | exact rfl | kernel_rfl)))
theorem priv_ {w : World} {A : Around} {E : Value → Shared → Prop} {s : Shared} {hp : Heap} {tk : Nat} {K : Ent} {L : Addr} {m : Loc} {g : Frz} {Γ : List (Addr × Cell)} {n : Nat} {Q : Value → Shared → Prop} 
    (S : St w K L m g ([] ++ Γ) hp) (bs : Bs w K.B) (room : Room A (n + 5)) {v : Value} {sizes : List Int} {rs : List Row} {eargs : List (Str × Int)} {ways : Nat} (hf : FV w g v sizes rs eargs ways) (hrn : rs.length ≤ 12) {od : Addr} {okvs : List (Int × Value)} {P : Int → Bool} {nsz : Nat} (hod : At w g od (.dI okvs)) (hok : SetOk okvs P) (hsh : ∀ r ∈ rs, RowSh nsz r) (hs2 : ∀ r ∈ rs, RowS2 r) (hmv : ∀ r ∈ rs, r.op = "move" → r.args.length = 2) (hF : holdersOf P rs (-1) = none) (hsz : 0 < sizes.length)
    (q : ∀ g' h' d kvs tk, g.le g' → At w g' d (.dI kvs) → SetOk kvs (dueOf P (holdersOf P rs) rs eargs sizes.length) → kvs.length ≤ 3 → St w K L m g' ([] ++ Γ) h' → Q (.ref d) (sh s h' tk)) :
    wpAny (model PG w) A (call (.ref 134) [v, .ref od]) Q E (sh s hp tk) := by
  obtain ⟨x, d, pl, sl, bl, nm, t1, t2, t3, bvs, rfl, hx1, hx2, hpl, hsl, hbl, hbn, hwz, hbk⟩ := hf
  obtain ⟨svs, hs1, hs2x, hs3, hs4⟩ := id hsl
  generalize hFe : holdersOf P rs = F at hF q
  refine call_fn ([]) [("once", .ref od), ("func", .ref x)] S bs room (by rfl) (by kernel_rfl) (by rfl) (by kernel_rfl) ?_ (by decide) rfl rfl rfl
  intro L' h₁ tk' A' K' Pp hK room' bk S'
  subst hK
  walk_at "ex"
  ((with_reducible refine' wpAny_Assign_Name ?_ ?kOJb); (case kOJb => first | exact rfl | kernel_rfl))
  ((with_reducible refine' dict_0 ?kBa ?_); (case kBa => assumption)); intro pd h' S'
  walk_at "st"; intro h' t' S'
  replace S' : St w _ L' _ _ ([(pd, Cell.dI [])] ++ []) _ := S'
  walk_at "nx"
  walk_at "ex"
  ((with_reducible refine' for_ex ?_ ?kCb); (case kCb => intro _; rfl))
  ((with_reducible refine' call_ty_node ?kDa ?kDb (Nrange _) Brange ?kDe ?_ ?kDg ?kDh ?kDi ?kDj ?kDk ?kDl ?kDm); (case kDa | kDb => assumption); (case kDe => decide); (case kDg | kDh | kDi | kDl | kDm => exact rfl); (case kDj | kDk => kernel_rfl))
  walk_at "ac"
  ((with_reducible refine' call_bi_node ?kEa ?kEb (Nlen _) Blen ?kEe ?_ ?kEg ?kEh ?kEi ?kEj ?kEk ?kEl ?kEm); (case kEa | kEb => assumption); (case kEe => decide); (case kEg | kEh | kEi | kEl | kEm => exact rfl); (case kEj | kEk => kernel_rfl))
  walk_at "ac"
  with_reducible refine' PyProof.Rows.Attribute_name ?_
  walk_at "nm"
  walk_at "geta"
  with_reducible refine' args_nil ?_
  refine len_ls (S'.fz hs1).lx (by lia) ?_
  with_reducible refine' args_nil ?_
  ((with_reducible refine' rng1 ?kIa ?_); (case kIa => assumption)); intro ra h' t' S'
  refine iter_rg (n := svs.length) S' (by walk_at "at") (by rw [range_n (by lia)]; simp) (by rcases (show svs.length = 1 ∨ svs.length = 2 ∨ svs.length = 3 by lia) with h | h | h <;> rw [h] <;> decide) ?_; intro it' h' S'
  refine for_T (T := fun i R => ∀ pk, pk.length ≤ i → SetOk pk (fun c => decide (0 ≤ c ∧ c < (i : Int))) → R g ([(pd, Cell.dI pk)])) (src_rg (by exact Room.hh (by assumption)) it' 0 1 svs.length) S' ?tt ?j0 ?ok ?hg ?step ?done
  case tt => exact fun i R H x0 x1 x2 => H _ _ fun R9 k9 => k9 x0 x1 x2
  case j0 =>
    exact fun R9 k9 => k9 [] (Nat.le_refl _) ⟨fun c => by simp [valueAt] <;> lia, fun kv h => by simp at h⟩
  case ok => intro i; intros; intro _ _; trivial
  case hg => first | exact .inl ⟨_, _, rfl⟩ | exact .inr ⟨_, _, _, rfl, by walk_at "hgt"⟩
  case step =>
    rintro i' v' P' hi' hx' X' pk hkl hset h' t' S'
    obtain ⟨t9, rfl⟩ := hx'
    have hkl2 : pk.length ≤ 3 := by lia
    with_reducible refine' assign_Name ?_
    walk_at "st"; intro h' t' S'
    walk_at "ex"
    ((with_reducible refine' wpAny_Assign_Subscript ?_ ?kKb); (case kKb => exact rfl))
    with_reducible refine' wpAny_Constant_bool ?_
    walk_at "nm"
    walk_at "nm"
    ((with_reducible refine' set_dI ?kMa ?kMb ?kMc ?_); (case kMa => assumption); (case kMb => walk_at "upd"); (case kMc => walk_at "sz")); intro h' S'
    walk_at "nx"
    walk_at "exn"
    refine X' _ (?_) (hset.add fun x => ?_) _ _ _ (.inl rfl) (St.weak S' (by walk_at "lsub"))
    · have := len_stored pk (0 + (i' : Int) * 1) (.bool true); lia
    · rw [Bool.eq_iff_iff]
      simp only [Bool.or_eq_true, decide_eq_true_eq]
      lia
  case done =>
    rintro pk hkl hset h' t' S'
    replace S' : St w _ L' _ _ ([(pd, Cell.dI pk)] ++ []) _ := S'.drop
    rw [hs2x] at hset hkl
    have hpk0 : pk.length ≠ 0 := fun z => by
      have h9 := hset.1 0
      rw [List.length_eq_zero_iff.mp z] at h9
      have e : decide ((0 : Int) ≤ 0 ∧ (0 : Int) < (sizes.length : Int)) = true := decide_eq_true (by lia)
      exact absurd (h9.trans e) (by simp [valueAt])
    walk_at "nx"
    walk_at "ex"
    with_reducible refine' wpAny_If ?_
    ((with_reducible refine' wpAny_isTrue_Compare1 ?_ ?kOKb); (case kOKb => with_unfolding_all rfl))
    walk_at "nm"
    ((with_reducible refine' dict_0 ?kOa ?_); (case kOa => assumption)); intro e9 h' S'
    refine dict_eqE (S'.rd (List.mem_append_left _ (.head _))) (S'.rd (List.mem_append_right _ (.head _))) (S'.notSys bs (List.mem_append_left _ (.head _))) (S'.notSys bs (List.mem_append_right _ (.head _))) room' hpk0 ?_
    with_reducible refine' wpAny_truthy_bool ?_
    with_reducible refine' ite_f ?_
    walk_at "exn"
    walk_at "nx"
    walk_at "ex"
    ((with_reducible refine' wpAny_Assign_Name ?_ ?kOMb); (case kOMb => first | exact rfl | kernel_rfl))
    ((with_reducible refine' call_def_node ?kQa ?kQb (Gholders_of_slots _) (Pholders_of_slots _) ?_ ?kQf ?kQg ?kQh ?kQi ?kQj ?kQk); (case kQa | kQb => assumption); (case kQf | kQg | kQj | kQk => exact rfl); (case kQh | kQi => kernel_rfl))
    walk_at "evl"
    (refine ⟨St.base (by assumption), ?_⟩)
    refine hold_ (Γ := _) S'.drop bs (room'.l (k := 0 + 4)) (v := .ref x) (ways := ways) ⟨x, d, pl, sl, bl, nm, t1, t2, t3, bvs, rfl, hx1, hx2, hpl, hsl, hbl, hbn, hwz, hbk⟩ hrn hod hok hsh ?_
    intro g5 h' hd_ hkvs tk' hl5 hhd hhk hhz S'
    replace S' : St w _ L' _ _ ([(pd, Cell.dI pk)] ++ []) _ := S'
    rw [hFe] at hhk
    have hx1' := hx1.mono hl5
    have hx2' := hx2.mono hl5
    walk_at "st"; intro h' t' S'
    walk_at "nx"
    walk_at "ex"
    ((with_reducible refine' for_ex ?_ ?kSb); (case kSb => intro _; rfl))
    with_reducible refine' PyProof.Rows.Attribute_name ?_
    walk_at "nm"
    walk_at "geta"
    refine iter_ls S' (S'.fz (hbl.mono hl5)).lx ?_; intro it' h' S'
    refine for_T (T := fun k R => ∀ g₁, ∀ pk, g5.le g₁ → pk.length ≤ 3 → SetOk pk (privP P F (brows rs ways k) eargs ways k sizes.length) → R g₁ ([(pd, Cell.dI pk)])) (src_ls (by exact Room.hh (by assumption)) it' bl bvs) S' ?tt ?j0 ?ok ?hg ?step ?done
    case tt => exact fun i R H x0 x1 x2 x3 x9 => H _ _ fun R9 k9 => k9 x0 x1 x2 x3 x9
    case j0 =>
      exact fun R9 k9 => k9 _ pk Frz.le.refl (by lia) (hset.congr fun c => by simp [privP, brows])
    case ok =>
      rintro i g₁ _ hle _ _ h₁ S; exact (S.fz (hbl.mono (hl5.trans hle))).lx
    case hg => first | exact .inl ⟨_, _, rfl⟩ | exact .inr ⟨_, _, _, rfl, by walk_at "hgt"⟩
    case step =>
      rintro i9 v' P' hi' hx' X' g' pk hle hkl hset h' t' S'
      obtain ⟨bx, hbx, hbv⟩ := hbk i9 (by lia)
      obtain rfl : v' = .ref bx := by have e : bvs[i9]? = some v' := hx'; rw [hbx] at e; cases e; rfl
      with_reducible refine absG fun G9 k9 => ?_
      obtain ⟨bd, num, ls, en, cvs, hb1, hb2, hb3, hb4, hb5⟩ := hbv.mono (hl5.trans hle)
      with_reducible refine k9 ?_
      have hcl : cvs.length ≤ 12 := by have := hb4.len; have := chunk_len rs ways (rd ways i9); lia
      with_reducible refine' assign_Name ?_
      walk_at "st"; intro h' t' S'
      walk_at "ex"
      ((with_reducible refine' for_ex ?_ ?kVb); (case kVb => intro _; rfl))
      with_reducible refine' PyProof.Rows.Attribute_name ?_
      walk_at "nm"
      walk_at "geta"
      refine iter_ls S' (S'.fz hb3).lx ?_; intro it2 h' S'
      have hle0 := hle
      refine for_T (T := fun j R => ∀ g₁, ∀ pk, g'.le g₁ → pk.length ≤ 3 → SetOk pk (privP P F (brows rs ways i9 ++ (chunk rs ways (rd ways i9)).take j) eargs ways i9 sizes.length) → R g₁ ([(pd, Cell.dI pk)])) (src_ls (by exact Room.hh (by assumption)) it2 ls cvs) S' ?ttB ?j0B ?okB ?hgB ?stepB ?doneB
      case ttB => exact fun i R H x0 x1 x2 x3 x9 => H _ _ fun R9 k9 => k9 x0 x1 x2 x3 x9
      case j0B =>
        exact fun R9 k9 => k9 _ pk Frz.le.refl hkl (by simpa using hset)
      case okB =>
        rintro i g₁ _ hle _ _ h₁ S; exact (S.fz (hb3.mono hle)).lx
      case hgB => first | exact .inl ⟨_, _, rfl⟩ | exact .inr ⟨_, _, _, rfl, by walk_at "hgt"⟩
      case stepB =>
        rintro j v' P' hi' hx' X' g' pk hle hkl hset h' t' S'
        with_reducible refine absG fun G9 k9 => ?_
        obtain ⟨r, hr, hro⟩ := (hb4.mono hle).get hx'
        have hrm := chunk_mem (List.mem_of_getElem? hr)
        obtain ⟨x9, d9, al9, u1, u2, ul, mv, avs, rfl, hr1, hr2, hr3, hr4, hr5⟩ := hro
        with_reducible refine k9 ?_
        have hkl4 : pk.length ≤ 60 := by lia
        have ha2 := (hsh r hrm).a2
        have hodz := hod.mono (hl5.trans (hle0.trans hle))
        have hhdz := hhd.mono (hle0.trans hle)
        with_reducible refine' assign_Name ?_
        walk_at "st"; intro h' t' S'
        walk_at "ex"
        with_reducible refine' wpAny_If ?_
        ((with_reducible refine' wpAny_isTrue_Compare1 ?_ ?kONb); (case kONb => with_unfolding_all rfl))
        with_reducible refine' PyProof.Rows.Attribute_name ?_
        walk_at "nm"
        walk_at "geta"
        ((with_reducible refine' nm_g ?kBAa ?kBAb (GADDRESSED _) ?_ ?kBAe ?kBAf ?kBAg ?kBAh); (case kBAa | kBAb => assumption); (case kBAe | kBAf => exact rfl); (case kBAg | kBAh => kernel_rfl))
        refine in_addr S' bs ?_
        with_reducible refine' wpAny_truthy_bool ?_
        refine ite_b (fun hb => ?_) (fun hb => ?_)
        ·
          replace hb := of_decide_eq_true hb
          have hA := hb
          have hns : ¬ r.op = "slot" := fun z => by rw [z] at hA; exact absurd hA (by decide)
          walk_at "ex"
          ((with_reducible refine' wpAny_Expr_any ?_ ?kBBb ?kBBc); (case kBBb | kBBc => exact rfl))
          ((with_reducible refine' call_def_node ?kBCa ?kBCb (Glet_go _) (Plet_go _) ?_ ?kBCf ?kBCg ?kBCh ?kBCi ?kBCj ?kBCk); (case kBCa | kBCb => assumption); (case kBCf | kBCg | kBCj | kBCk => exact rfl); (case kBCh | kBCi => kernel_rfl))
          walk_at "ac"
          with_reducible refine' sl_x ?_
          with_reducible refine' PyProof.Rows.Attribute_name ?_
          walk_at "nm"
          walk_at "geta"
          with_reducible refine' Subscript_ ?_
          ((with_reducible refine' nm_g ?kBGa ?kBGb (GADDRESSED _) ?_ ?kBGe ?kBGf ?kBGg ?kBGh); (case kBGa | kBGb => assumption); (case kBGe | kBGf => exact rfl); (case kBGg | kBGh => kernel_rfl))
          with_reducible refine' PyProof.Rows.Attribute_name ?_
          walk_at "nm"
          walk_at "geta"
          refine sub_addr S' bs hA ?_
          intro t9
          refine sl_finA S' (S'.fz hr3).lx (by have := hr4.len; lia) (by unfold addrN; split <;> decide) ?_
          intro sd9 gq h' hls hsd S'
          walk_at "evl"
          (refine ⟨St.base (by assumption), ?_⟩)
          refine letgo_ (Γ := _) S' bs (room'.l (k := 0 + 1)) hsd ((hr4.mono hls).drop _) (hhd.mono (hle0.trans (hle.trans hls))) hhk hset (by lia) ?_
          intro h' pk2 tk' hpk2 hset2 S'
          walk_at "nx"
          walk_at "exn"
          walk_at "nx"
          walk_at "exn"
          exact X' _ pk2 (hle.trans hls) (by lia) (hset2.congr fun c => by rw [take_snoc hr, ← List.append_assoc, privP_row, slotHit_no (.inl hns), said_addr (hsh r hrm) (hs2 r hrm) (hmv r hrm) hF hA, Bool.not_false, Bool.and_true]) _ _ _ (.inl rfl) (St.weak S' (by walk_at "lsub"))
        ·
          replace hb := of_decide_eq_false hb
          have hA := hb
          walk_at "ex"
          with_reducible refine' wpAny_If ?_
          ((with_reducible refine' wpAny_isTrue_Compare1 ?_ ?kOPb); (case kOPb => with_unfolding_all rfl))
          with_reducible refine' PyProof.Rows.Attribute_name ?_
          walk_at "nm"
          walk_at "geta"
          with_reducible refine' k_str ?_
          refine PyProof.Rows.eq_str ?_
          with_reducible refine' wpAny_truthy_bool ?_
          refine ite_b (fun hb => ?_) (fun hb => ?_)
          ·
            replace hb := eq_of_beq hb
            have hS := hb
            obtain ⟨tm9, rfl⟩ := hr5 hb
            walk_at "ex"
            with_reducible refine' wpAny_If ?_
            ((with_reducible refine' wpAny_isTrue_Compare1 ?_ ?kORb); (case kORb => with_unfolding_all rfl))
            with_reducible refine' PyProof.Rows.Attribute_name ?_
            walk_at "nm"
            walk_at "geta"
            walk_at "nm"
            ((with_reducible refine' notin_dI ?kBOa ?kBOb ?_); (case kBOa => walk_at "at"); (case kBOb => walk_at "ns"))
            with_reducible refine' wpAny_truthy_bool ?_
            refine ite_b (fun hb => ?_) (fun hb => ?_)
            ·
              skip
              have hP : P r.dst = false := by rw [← hok.1]; simpa using hb
              walk_at "ex"
              ((with_reducible refine' wpAny_Expr_any ?_ ?kBPb ?kBPc); (case kBPb | kBPc => exact rfl))
              ((with_reducible refine' meth_node PySem.F.plainAttrs_dict PySem.F.slot_dict_pop PySem.F.type_dict_pop ?_ ?kBQe ?kBQf ?kBQg ?kBQh ?kBQi); (case kBQe | kBQf | kBQg | kBQh | kBQi => exact rfl))
              walk_at "nm"
              (refine ⟨_, rfl, ?_, ?_⟩; (first | exact obj_lx (by walk_at "at") | exact obj_dI (by walk_at "at") | exact obj_dS (by walk_at "at") | exact obj_st (by walk_at "at")))
              walk_at "ac"
              with_reducible refine' PyProof.Rows.Attribute_name ?_
              walk_at "nm"
              walk_at "geta"
              walk_at "ac"
              with_reducible refine' wpAny_Constant_none ?_
              with_reducible refine' args_nil ?_
              refine dict_popD S' (by walk_at "upd") (by walk_at "sz") (S'.notSys bs (by walk_at "mem")) ?_
              intro v9 h' t' S'
              walk_at "nx"
              walk_at "exn"
              walk_at "nx"
              walk_at "exn"
              walk_at "nx"
              walk_at "exn"
              walk_at "nx"
              walk_at "exn"
              exact X' _ _ hle (Nat.le_trans (List.length_filter_le _ _) hkl) (hset.wo fun c => by rw [take_snoc hr, ← List.append_assoc, privP_row, slotHit_yes hS hP, said_slot (hsh r hrm) hS, List.any_nil, Bool.not_false, Bool.and_true]) _ _ _ (.inl rfl) (St.weak S' (by walk_at "lsub"))
            ·
              skip
              have hP : P r.dst = true := by rw [← hok.1]; simpa using hb
              walk_at "exn"
              walk_at "nx"
              walk_at "exn"
              walk_at "nx"
              walk_at "exn"
              walk_at "nx"
              walk_at "exn"
              exact X' _ pk hle (by lia) (hset.congr fun c => by rw [take_snoc hr, ← List.append_assoc, privP_row, slotHit_no (.inr hP), said_slot (hsh r hrm) hS, List.any_nil, Bool.not_false, Bool.and_true, Bool.and_true]) _ _ _ (.inl rfl) (St.weak S' (by walk_at "lsub"))
          ·
            replace hb := ne_of_beq_false hb
            have hS := hb
            walk_at "ex"
            with_reducible refine' wpAny_If ?_
            ((with_reducible refine' wpAny_isTrue_Compare1 ?_ ?kOTb); (case kOTb => with_unfolding_all rfl))
            with_reducible refine' PyProof.Rows.Attribute_name ?_
            walk_at "nm"
            walk_at "geta"
            walk_at "nm"
            ((with_reducible refine' notin_dI ?kBXa ?kBXb ?_); (case kBXa => walk_at "at"); (case kBXb => walk_at "ns"))
            with_reducible refine' wpAny_truthy_bool ?_
            refine ite_b (fun hb => ?_) (fun hb => ?_)
            ·
              skip
              have hD : (F r.dst).isSome = false := by rw [← hhk.isSome]; simpa using hb
              walk_at "ex"
              ((with_reducible refine' wpAny_Expr_any ?_ ?kBYb ?kBYc); (case kBYb | kBYc => exact rfl))
              ((with_reducible refine' call_def_node ?kBZa ?kBZb (Glet_go _) (Plet_go _) ?_ ?kBZf ?kBZg ?kBZh ?kBZi ?kBZj ?kBZk); (case kBZa | kBZb => assumption); (case kBZf | kBZg | kBZj | kBZk => exact rfl); (case kBZh | kBZi => kernel_rfl))
              walk_at "ac"
              with_reducible refine' PyProof.Rows.Attribute_name ?_
              walk_at "nm"
              walk_at "geta"
              walk_at "evl"
              (refine ⟨St.base (by assumption), ?_⟩)
              refine letgo_ (Γ := _) S' bs (room'.l (k := 0 + 1)) hr3 hr4 (hhd.mono (hle0.trans hle)) hhk hset (by lia) ?_
              intro h' pk2 tk' hpk2 hset2 S'
              walk_at "nx"
              walk_at "exn"
              walk_at "nx"
              walk_at "exn"
              walk_at "nx"
              walk_at "exn"
              walk_at "nx"
              walk_at "exn"
              exact X' _ pk2 hle (by lia) (hset2.congr fun c => by rw [take_snoc hr, ← List.append_assoc, privP_row, slotHit_no (.inl hS), saidOf_all (fun z => hA (z.elim .inl fun z => .inr (.inr z))) hD (fun z => hA (.inr (.inl z))), Bool.not_false, Bool.and_true]) _ _ _ (.inl rfl) (St.weak S' (by walk_at "lsub"))
            ·
              skip
              have hD : (F r.dst).isSome = true := by rw [← hhk.isSome]; simpa using hb
              walk_at "exn"
              walk_at "nx"
              walk_at "exn"
              walk_at "nx"
              walk_at "exn"
              walk_at "nx"
              walk_at "exn"
              exact X' _ pk hle (by lia) (hset.congr fun c => by rw [take_snoc hr, ← List.append_assoc, privP_row, slotHit_no (.inl hS), saidOf_nil (.inr (.inr hD)), List.any_nil, Bool.not_false, Bool.and_true, Bool.and_true]) _ _ _ (.inl rfl) (St.weak S' (by walk_at "lsub"))
      case doneB =>
        rintro g' pk hle1 hkl hset h' t' S'
        rw [show List.take cvs.length (chunk rs ways (rd ways i9)) = chunk rs ways (rd ways i9) from List.take_of_length_le (by rw [hb4.len]; exact Nat.le_refl _)] at hset
        replace hle := hle0.trans hle1
        with_reducible refine absG fun G9 k9 => ?_
        obtain ⟨op, xe, de, al, u1, u2, ul, u3, eavs, k2, rfl, he1, he2, he3, he4, he5⟩ := (hb5.mono hle1).opened
        with_reducible refine k9 ?_
        replace hb1 := hb1.mono hle1
        replace hb2 := hb2.mono hle1
        walk_at "nx"
        walk_at "ex"
        ((with_reducible refine' wpAny_Expr_any ?_ ?kCCb ?kCCc); (case kCCb | kCCc => exact rfl))
        ((with_reducible refine' call_def_node ?kCDa ?kCDb (Glet_go _) (Plet_go _) ?_ ?kCDf ?kCDg ?kCDh ?kCDi ?kCDj ?kCDk); (case kCDa | kCDb => assumption); (case kCDf | kCDg | kCDj | kCDk => exact rfl); (case kCDh | kCDi => kernel_rfl))
        walk_at "ac"
        walk_at "ataA"
        with_reducible refine' PyProof.Rows.Attribute_name ?_
        walk_at "nm"
        walk_at "geta"
        walk_at "geta"
        walk_at "evl"
        (refine ⟨St.base (by assumption), ?_⟩)
        refine letgo_ (Γ := _) S' bs (room'.l (k := 0 + 1)) he3 he4 (hhd.mono hle) hhk hset (by lia) ?_
        intro h' pk2 tk' hpk2 hset2 S'
        walk_at "nx"
        walk_at "exn"
        exact X' _ pk2 hle (by lia) (hset2.congr fun c => by rw [privP_next, brows_succ]; rfl) _ _ _ (.inl rfl) (St.weak S' (by walk_at "lsub"))
    case done =>
      rintro g' pk hle hkl hset h' t' S'
      rw [hbn] at hset
      walk_at "nx"
      walk_at "ex"
      with_reducible refine' wpAny_Return_some ?_
      walk_at "nm"
      walk_at "cret"
      with_reducible refine' rt_ret ?_
      obtain ⟨g9, hl9, hfz9, S9⟩ := St.freezeAllN (ΓD := []) S' rfl
      exact bk (ΓD' := []) (Λx := []) S9 (fun S => q g9 _ _ pk _ (hl5.trans (hle.trans hl9)) (hfz9 (pd, _) (List.Mem.head _)) (hset.congr fun c => (priv_end (brows_perm rs hwz) hwz.1 hF c).symm) hkl S)
inductive Tr (nsz : Nat) (p0 : PS) : List Row → PS → Prop
  | nil : Tr nsz p0 [] p0
  | snoc {rs : List Row} {p : PS} {r : Row} {p' : PS} : Tr nsz p0 rs p → Stp nsz p r p' → Tr nsz p0 (rs ++ [r]) p'
def startPS : PS := { R := fun k => if k = 0 then some ⟨65536, .v 0, 0⟩ else if k = 1 then some ⟨5, .v 1, 0⟩ else none, next := 2, many := 1, wv := [], ov := [], sv := [] }
def VOk (k nsz : Nat) (ov : List Int) (x : Int) : Prop := x = 3 ∨ x = 5 ∨ x = 7 ∨ x = 9 ∨ (65536 - 8 * k ≤ x ∧ x ≤ 65536 + 8 * k) ∨ (69632 - 8 * k ≤ x ∧ x ≤ 69632 + 8 * k) ∨
  ∃ s, s ∈ ov ∧ 0 ≤ s ∧ s < nsz ∧ 4096 + 1024 * s - 8 * k ≤ x ∧ x ≤ 4096 + 1024 * s + 8 * k
def GOk (k nsz : Nat) (ov : List Int) (bv : Int → Int) (many num : Int) (gr : Gr) (off : Int) : Prop := (-(8 * k) ≤ off ∧ off ≤ 8 * k) ∧ match gr with
  | .slot i => 0 ≤ i ∧ i < nsz ∧ num = 4096 + 1024 * i + off
  | .nm s => (s = "p" ∧ num = 65536 + off) ∨ (s = "q" ∧ num = 69632 + off)
  | .v n => 0 ≤ n ∧ n ≤ many ∧ num = bv n + off ∧ VOk k nsz ov num
theorem VOk.mono {k k' nsz : Nat} {ov ov' : List Int} {x : Int} (h : VOk k nsz ov x) (hk : k ≤ k') (ho : ∀ s ∈ ov, s ∈ ov') : VOk k' nsz ov' x := by
  rcases h with h | h | h | h | h | h | ⟨s, h1, h2⟩
  · exact .inl h
  · exact .inr (.inl h)
  · exact .inr (.inr (.inl h))
  · exact .inr (.inr (.inr (.inl h)))
  · exact .inr (.inr (.inr (.inr (.inl (by lia)))))
  · exact .inr (.inr (.inr (.inr (.inr (.inl (by lia))))))
  · exact .inr (.inr (.inr (.inr (.inr (.inr ⟨s, ho s h1, by lia⟩)))))
theorem GOk.mono {k k' nsz : Nat} {ov ov' : List Int} {bv bv' : Int → Int} {many many' num off : Int} {gr : Gr} (h : GOk k nsz ov bv many num gr off) (hk : k ≤ k') (ho : ∀ s ∈ ov, s ∈ ov') (hm : many ≤ many') (hb : ∀ n, 0 ≤ n → n ≤ many → bv' n = bv n) : GOk k' nsz ov' bv' many' num gr off := by
  refine ⟨by have := h.1; lia, ?_⟩
  have h2 := h.2
  cases gr with
  | slot i => exact h2
  | nm s => exact h2
  | v n =>
    obtain ⟨a, b, c, d⟩ := h2
    exact ⟨a, by lia, by rw [hb n a b]; exact c, d.mono hk ho⟩
structure InvA (nsz k : Nat) (bv : Int → Int) (p : PS) : Prop where
  rg : ∀ c r, p.R c = some r → GOk k nsz p.ov bv p.many r.num r.gr r.off
  wv : ∀ x ∈ p.wv, VOk k nsz p.ov x
  sv : ∀ a ∈ p.sv, 4096 ≤ a.num ∧ 1 ≤ a.oct ∧ a.oct ≤ 8 ∧ GOk k nsz p.ov bv p.many a.num a.gr a.off
  ks : ∀ c, (p.R c).isSome = true → 0 ≤ c
  nx : 2 ≤ p.next
  mn : 0 ≤ p.many
theorem InvA.start (nsz : Nat) : InvA nsz 0 (fun n => if n = 0 then 65536 else 5) startPS where
  rg := fun c r h => by
    unfold startPS at h
    dsimp only at h
    split at h
    · cases h
      refine ⟨by decide, by decide, by decide, by decide, ?_⟩
      exact .inr (.inr (.inr (.inr (.inl (by decide)))))
    · split at h
      · cases h
        refine ⟨by decide, by decide, by decide, by decide, ?_⟩
        exact .inr (.inl rfl)
      · cases h
  wv := fun x h => nomatch h
  sv := fun x h => nomatch h
  ks := fun c h => by
    unfold startPS at h
    dsimp only at h
    split at h
    · lia
    · split at h
      · lia
      · cases h
  nx := by decide
  mn := by decide
theorem Goal.same {p p1 : PS} {c : Int} (h : Goal p c p1) : p1.R = p.R ∧ p1.many = p.many ∧ p1.wv = p.wv ∧ p1.ov = p.ov ∧ p1.sv = p.sv ∧ p.next ≤ p1.next := by
  rcases h with ⟨_, rfl⟩ | ⟨_, rfl⟩
  · exact ⟨rfl, rfl, rfl, rfl, rfl, Int.le_refl _⟩
  · exact ⟨rfl, rfl, rfl, rfl, rfl, by show p.next ≤ p.next + 1; lia⟩
theorem Goal.pos {nsz k : Nat} {bv : Int → Int} {p q p1 : PS} {c : Int} (I : InvA nsz k bv p) (e1 : q.R = p.R) (e2 : q.next = p.next) (h : Goal q c p1) : 0 ≤ c := by
  rcases h with ⟨h, _⟩ | ⟨h, _⟩
  · exact I.ks c (e1 ▸ h)
  · have := I.nx; lia
theorem InvA.put {nsz k : Nat} {bv bv' : Int → Int} {p p1 : PS} {c : Int} {r : Reg} (I : InvA nsz k bv p) (hR : p1.R = p.R) (hw : ∀ x ∈ p1.wv, VOk (k + 1) nsz p1.ov x) (hs : ∀ a ∈ p1.sv, 4096 ≤ a.num ∧ 1 ≤ a.oct ∧ a.oct ≤ 8 ∧ GOk (k + 1) nsz p1.ov bv' p1.many a.num a.gr a.off)
    (ho : ∀ s ∈ p.ov, s ∈ p1.ov) (hm : p.many ≤ p1.many) (hb : ∀ n, 0 ≤ n → n ≤ p.many → bv' n = bv n) (hn : p.next ≤ p1.next) (hc : 0 ≤ c) (hg : GOk (k + 1) nsz p1.ov bv' p1.many r.num r.gr r.off) : InvA nsz (k + 1) bv' (p1.set c r) where
  rg := fun c' r' h => by
    change (if c' = c then some r else p1.R c') = some r' at h
    split at h
    · cases h; exact hg
    · rw [hR] at h; exact (I.rg c' r' h).mono (Nat.le_succ k) ho hm hb
  wv := hw
  sv := hs
  ks := fun c' h => by
    change ((if c' = c then some r else p1.R c') : Option Reg).isSome = true at h
    split at h
    · lia
    · rw [hR] at h; exact I.ks c' h
  nx := by have := I.nx; show 2 ≤ p1.next; lia
  mn := by have := I.mn; show 0 ≤ p1.many; lia
theorem InvA.same {nsz k : Nat} {bv : Int → Int} {p p1 : PS} (I : InvA nsz k bv p) (hR : p1.R = p.R) (hw : ∀ x ∈ p1.wv, VOk (k + 1) nsz p1.ov x) (hs : ∀ a ∈ p1.sv, 4096 ≤ a.num ∧ 1 ≤ a.oct ∧ a.oct ≤ 8 ∧ GOk (k + 1) nsz p1.ov bv p1.many a.num a.gr a.off)
    (ho : ∀ s ∈ p.ov, s ∈ p1.ov) (hm : p1.many = p.many) (hn : p.next ≤ p1.next) : InvA nsz (k + 1) bv p1 where
  rg := fun c' r' h => by rw [hR] at h; exact (I.rg c' r' h).mono (Nat.le_succ k) ho (by lia) (fun _ _ _ => rfl)
  wv := hw
  sv := hs
  ks := fun c' h => by rw [hR] at h; exact I.ks c' h
  nx := by have := I.nx; lia
  mn := by have := I.mn; lia
theorem InvA.wvUp {nsz k : Nat} {bv : Int → Int} {p : PS} {ov' : List Int} (I : InvA nsz k bv p) (ho : ∀ s ∈ p.ov, s ∈ ov') : ∀ x ∈ p.wv, VOk (k + 1) nsz ov' x := fun x hx => (I.wv x hx).mono (Nat.le_succ k) ho
theorem InvA.svUp {nsz k : Nat} {bv bv' : Int → Int} {p : PS} {ov' : List Int} {many' : Int} (I : InvA nsz k bv p) (ho : ∀ s ∈ p.ov, s ∈ ov') (hm : p.many ≤ many') (hb : ∀ n, 0 ≤ n → n ≤ p.many → bv' n = bv n) :
    ∀ a ∈ p.sv, 4096 ≤ a.num ∧ 1 ≤ a.oct ∧ a.oct ≤ 8 ∧ GOk (k + 1) nsz ov' bv' many' a.num a.gr a.off := fun a ha => let ⟨h1, h2, h3, h4⟩ := I.sv a ha; ⟨h1, h2, h3, h4.mono (Nat.le_succ k) ho hm hb⟩
theorem oct4 {o : Int} (h : o ∈ ([4, 4, 2, 1] : List Int)) : 1 ≤ o ∧ o ≤ 8 := by simp at h; lia
theorem oct8 {o : Int} (h : o ∈ ([4, 8] : List Int)) : 1 ≤ o ∧ o ≤ 8 := by simp at h; lia
theorem ov_hand {p : PS} {cs : List Int} : ∀ s ∈ p.ov, s ∈ (p.hand cs).ov := fun s hs => List.mem_append_left _ hs
theorem InvA.num {nsz k : Nat} {bv : Int → Int} {p : PS} {c : Int} {r : Reg} (I : InvA nsz k bv p) (h : p.R c = some r) {ov' : List Int} (ho : ∀ s ∈ p.ov, s ∈ ov') (hs : ∀ i, r.gr = .slot i → i ∈ ov') : VOk (k + 1) nsz ov' r.num := by
  obtain ⟨num, gr, off⟩ := r
  have g := I.rg c _ h
  obtain ⟨⟨g1, g2⟩, g3⟩ := g
  dsimp only at g1 g2 g3 hs ⊢
  cases gr with
  | slot i => exact .inr (.inr (.inr (.inr (.inr (.inr ⟨i, hs i rfl, g3.1, g3.2.1, by have := g3.2.2; lia, by have := g3.2.2; lia⟩)))))
  | nm s =>
    rcases g3 with ⟨_, e⟩ | ⟨_, e⟩
    · exact .inr (.inr (.inr (.inr (.inl (by lia)))))
    · exact .inr (.inr (.inr (.inr (.inr (.inl (by lia))))))
  | v n => exact g3.2.2.2.mono (Nat.le_succ k) ho
theorem InvA.addOk {nsz k : Nat} {bv : Int → Int} {p : PS} {c more : Int} {r : Reg} (I : InvA nsz k bv p) (h : p.R c = some r) (hn : 4096 ≤ r.num) (hz : nsz ≤ 3) (hk : k ≤ 100) (hm : more ∈ ([4, 8, 1, 2, 4294967292] : List Int)) :
    GOk (k + 1) nsz p.ov bv p.many ((r.num + more) % 4294967296) r.gr (r.off + signed more) := by
  obtain ⟨num, gr, off⟩ := r
  have g := I.rg c _ h
  obtain ⟨⟨g1, g2⟩, g3⟩ := g
  dsimp only at g1 g2 g3 hn ⊢
  obtain ⟨d, hd, hd1, hd2, hmd⟩ : ∃ d, signed more = d ∧ -8 ≤ d ∧ d ≤ 8 ∧ (more = d ∨ more = d + 4294967296) := by
    simp only [List.mem_cons, List.not_mem_nil, or_false] at hm
    rcases hm with rfl | rfl | rfl | rfl | rfl
    · exact ⟨4, by decide, by decide, by decide, .inl rfl⟩
    · exact ⟨8, by decide, by decide, by decide, .inl rfl⟩
    · exact ⟨1, by decide, by decide, by decide, .inl rfl⟩
    · exact ⟨2, by decide, by decide, by decide, .inl rfl⟩
    · exact ⟨-4, by decide, by decide, by decide, .inr (by decide)⟩
  rw [hd]
  have hmod : num ≤ 100000 → (num + more) % 4294967296 = num + d := fun hu => by
    rcases hmd with e | e
    · rw [e]; exact Int.emod_eq_of_lt (by lia) (by lia)
    · rw [e, show num + (d + 4294967296) = (num + d) + 4294967296 by lia, Int.add_emod_right]; exact Int.emod_eq_of_lt (by lia) (by lia)
  refine ⟨⟨by lia, by lia⟩, ?_⟩
  cases gr with
  | slot i =>
    obtain ⟨a, b, e⟩ := g3
    rw [hmod (by lia)]
    exact ⟨a, b, by lia⟩
  | nm s =>
    rcases g3 with ⟨a, e⟩ | ⟨a, e⟩
    · rw [hmod (by lia)]; exact .inl ⟨a, by lia⟩
    · rw [hmod (by lia)]; exact .inr ⟨a, by lia⟩
  | v n =>
    obtain ⟨a, b, e, hv⟩ := g3
    rcases hv with hv | hv | hv | hv | hv | hv | ⟨s, h1, h2, h3, h4⟩
    · lia
    · lia
    · lia
    · lia
    · rw [hmod (by lia)]; exact ⟨a, b, by lia, .inr (.inr (.inr (.inr (.inl (by lia)))))⟩
    · rw [hmod (by lia)]; exact ⟨a, b, by lia, .inr (.inr (.inr (.inr (.inr (.inl (by lia))))))⟩
    · rw [hmod (by lia)]; exact ⟨a, b, by lia, .inr (.inr (.inr (.inr (.inr (.inr ⟨s, h1, h2, h3, by lia, by lia⟩)))))⟩
theorem InvA.acc {nsz k : Nat} {bv bv' : Int → Int} {p : PS} {c oct : Int} {r : Reg} (I : InvA nsz k bv p) (h : p.R c = some r) (hn : 4096 ≤ r.num) (ho : 1 ≤ oct ∧ oct ≤ 8) {ov' : List Int} {many' : Int} (hov : ∀ s ∈ p.ov, s ∈ ov') (hm : p.many ≤ many') (hb : ∀ n, 0 ≤ n → n ≤ p.many → bv' n = bv n) :
    4096 ≤ (⟨r.num, r.gr, r.off, oct⟩ : Acc).num ∧ 1 ≤ (⟨r.num, r.gr, r.off, oct⟩ : Acc).oct ∧ (⟨r.num, r.gr, r.off, oct⟩ : Acc).oct ≤ 8 ∧ GOk (k + 1) nsz ov' bv' many' (⟨r.num, r.gr, r.off, oct⟩ : Acc).num (⟨r.num, r.gr, r.off, oct⟩ : Acc).gr (⟨r.num, r.gr, r.off, oct⟩ : Acc).off :=
  ⟨hn, ho.1, ho.2, (I.rg c r h).mono (Nat.le_succ k) hov hm hb⟩
theorem slot_handed {p : PS} {f : Int} {r : Reg} (h : p.R f = some r) {cs : List Int} (hf : f ∈ cs) : ∀ i, r.gr = .slot i → i ∈ (p.hand cs).ov := fun i e => by
  refine List.mem_append_right _ (List.mem_flatMap.mpr ⟨f, hf, ?_⟩)
  unfold PS.slotOf
  obtain ⟨n, gr, o⟩ := r
  dsimp only at e
  subst e
  rw [h]; exact .head _
theorem InvA.byGoal {nsz k : Nat} {bv : Int → Int} {p p1 : PS} {c : Int} {r : Reg} (I : InvA nsz k bv p) (hg : Goal p c p1) (h : GOk (k + 1) nsz p.ov bv p.many r.num r.gr r.off) : InvA nsz (k + 1) bv (p1.set c r) := by
  obtain ⟨e1, e2, e3, e4, e5, e6⟩ := hg.same
  refine I.put (bv' := bv) e1 ?_ ?_ (by rw [e4]; exact fun s h => h) (by lia) (fun _ _ _ => rfl) e6 (hg.pos I rfl rfl) ?_
  · rw [e3, e4]; exact I.wvUp fun s h => h
  · rw [e5, e4, e2]; exact I.svUp (fun s h => h) (Int.le_refl _) fun _ _ _ => rfl
  · rw [e4, e2]; exact h
theorem InvA.step {nsz k : Nat} {bv : Int → Int} {p p' : PS} {r : Row} (I : InvA nsz k bv p) (hz : nsz ≤ 3) (hk : k ≤ 100) (st : Stp nsz p r p') : ∃ bv', InvA nsz (k + 1) bv' p' := by
  cases st with
  | @slot at_ c p1 h1 h2 hg =>
    refine ⟨bv, I.byGoal hg ?_⟩
    · exact ⟨⟨by show _ ≤ (0 : Int); lia, by show (0 : Int) ≤ _; lia⟩, h1, h2, by show (4096 + 1024 * at_ : Int) = 4096 + 1024 * at_ + 0; lia⟩
  | @name nm b more c p1 h1 h2 hg =>
    have hm : 0 ≤ more ∧ more ≤ 8 := by simp at h2; lia
    refine ⟨bv, I.byGoal hg ?_⟩
    · refine ⟨⟨by show _ ≤ more; lia, by show more ≤ _; lia⟩, ?_⟩
      rcases h1 with ⟨a, rfl⟩ | ⟨a, rfl⟩
      · exact .inl ⟨a, rfl⟩
      · exact .inr ⟨a, rfl⟩
  | @copy e c r0 p1 h1 h2 hg =>
    refine ⟨bv, I.byGoal hg ?_⟩
    · exact (I.rg e r0 h1).mono (Nat.le_succ k) (fun s h => h) (Int.le_refl _) fun _ _ _ => rfl
  | @add e c more r0 p1 h1 h2 h3 hg =>
    refine ⟨bv, I.byGoal hg ?_⟩
    · exact I.addOk h1 h2 hz hk h3
  | @storeK e oct r0 wv h1 h2 h3 h4 =>
    refine ⟨bv, I.same rfl (fun x hx => ?_) (fun a ha => ?_) (fun s h => h) rfl (Int.le_refl _)⟩
    · rcases h4 x hx with rfl | hx
      · exact .inr (.inr (.inr (.inl rfl)))
      · exact I.wvUp (fun s h => h) x hx
    · rcases List.mem_cons.mp ha with rfl | ha
      · exact I.acc h1 h2 (oct4 h3) (fun s h => h) (Int.le_refl _) fun _ _ _ => rfl
      · exact I.svUp (fun s h => h) (Int.le_refl _) (fun _ _ _ => rfl) a ha
  | @storeR e f oct r0 rf wv h1 h2 h3 h4 h5 =>
    refine ⟨bv, I.same rfl (fun x hx => ?_) (fun a ha => ?_) ov_hand rfl (Int.le_refl _)⟩
    · rcases h5 x hx with rfl | hx
      · exact I.num h3 ov_hand (slot_handed h3 (.head _))
      · exact I.wvUp ov_hand x hx
    · rcases List.mem_cons.mp ha with rfl | ha
      · exact I.acc h1 h2 (oct4 h4) ov_hand (Int.le_refl _) fun _ _ _ => rfl
      · exact I.svUp ov_hand (Int.le_refl _) (fun _ _ _ => rfl) a ha
  | @load e c oct n r0 p1 h1 h2 h3 h4 hg =>
    obtain ⟨e1, e2, e3, e4, e5, e6⟩ := hg.same
    have hb : ∀ x, 0 ≤ x → x ≤ p.many → (fun x => if x = p.many + 1 then n else bv x) x = bv x := fun x _ hx => by dsimp only; rw [if_neg (by lia)]
    refine ⟨fun x => if x = p.many + 1 then n else bv x, I.put (p1 := p1) e1 ?_ ?_ (by rw [e4]; exact fun s h => h) (by rw [e2]; show p.many ≤ p.many + 1; lia) hb e6 (Goal.pos I (by rfl) (by rfl) hg) ?_⟩
    · rw [e3, e4]; exact I.wvUp fun s h => h
    · rw [e5, e4, e2]
      intro a ha
      rcases List.mem_cons.mp ha with rfl | ha
      · exact I.acc h1 h2 (oct4 h3) (fun s h => h) (by show p.many ≤ p.many + 1; lia) hb
      · exact I.svUp (fun s h => h) (by show p.many ≤ p.many + 1; lia) hb a ha
    · rw [e4, e2]
      refine ⟨⟨by show _ ≤ (0 : Int); lia, by show (0 : Int) ≤ _; lia⟩, by have := I.mn; show 0 ≤ p.many + 1; lia, by show p.many + 1 ≤ p.many + 1; lia, by show n = (if p.many + 1 = p.many + 1 then n else _) + (0 : Int); rw [if_pos rfl]; lia, ?_⟩
      rcases h4 with rfl | h4
      · exact .inl rfl
      · exact I.wvUp (fun s h => h) n h4
  | @move e f oct r0 rf h1 h2 h3 h4 h5 =>
    refine ⟨bv, I.same rfl (I.wvUp fun s h => h) (fun a ha => ?_) (fun s h => h) rfl (Int.le_refl _)⟩
    rcases List.mem_cons.mp ha with rfl | ha
    · exact I.acc h3 h4 (oct8 h5) (fun s h => h) (Int.le_refl _) fun _ _ _ => rfl
    · rcases List.mem_cons.mp ha with rfl | ha
      · exact I.acc h1 h2 (oct8 h5) (fun s h => h) (Int.le_refl _) fun _ _ _ => rfl
      · exact I.svUp (fun s h => h) (Int.le_refl _) (fun _ _ _ => rfl) a ha
  | @other op cs c p' h1 h2 h3 h4 =>
    rcases h4 with ⟨_, rfl⟩ | ⟨p1, hg, h5⟩
    · exact ⟨bv, I.same rfl (I.wvUp ov_hand) (I.svUp ov_hand (Int.le_refl _) fun _ _ _ => rfl) ov_hand rfl (Int.le_refl _)⟩
    · obtain ⟨e1, e2, e3, e4, e5, e6⟩ := hg.same
      rcases h5 with ⟨hc, rfl⟩ | ⟨hc, rfl⟩
      · have e2' : p1.many = p.many := e2
        have hb : ∀ x, 0 ≤ x → x ≤ p.many → (fun x => if x = p.many + 1 then 7 else bv x) x = bv x := fun x _ hx => by dsimp only; rw [if_neg (by lia)]
        refine ⟨fun x => if x = p.many + 1 then 7 else bv x, I.put (p1 := { p1 with many := p1.many + 1 }) e1 ?_ ?_ (by show ∀ s ∈ p.ov, s ∈ p1.ov; rw [e4]; exact ov_hand) (by show p.many ≤ p1.many + 1; lia) hb e6 hc ?_⟩
        · show ∀ x ∈ p1.wv, VOk (k + 1) nsz p1.ov x
          rw [e3, e4]; exact I.wvUp ov_hand
        · show ∀ a ∈ p1.sv, _ ∧ _ ∧ _ ∧ GOk (k + 1) nsz p1.ov _ (p1.many + 1) a.num a.gr a.off
          rw [e5, e4]
          exact I.svUp ov_hand (by lia) hb
        · refine ⟨⟨by show _ ≤ (0 : Int); lia, by show (0 : Int) ≤ _; lia⟩, by have := I.mn; show 0 ≤ p1.many + 1; lia, by show p1.many + 1 ≤ p1.many + 1; lia, by show (7 : Int) = (if p1.many + 1 = p.many + 1 then 7 else _) + (0 : Int); rw [if_pos (by lia)]; rfl, ?_⟩
          exact .inr (.inr (.inl rfl))
      · refine ⟨bv, I.same e1 ?_ ?_ (by rw [e4]; exact ov_hand) e2 e6⟩
        · rw [e3, e4]; exact I.wvUp ov_hand
        · rw [e5, e4, e2]; exact I.svUp ov_hand (Int.le_refl _) fun _ _ _ => rfl
theorem Tr.invA {nsz : Nat} {rs : List Row} {p : PS} (hz : nsz ≤ 3) (t : Tr nsz startPS rs p) (hl : rs.length ≤ 100) : ∃ bv, InvA nsz rs.length bv p := by
  induction t with
  | nil => exact ⟨_, InvA.start nsz⟩
  | snoc t st ih =>
    rw [List.length_append] at hl
    obtain ⟨bv, I⟩ := ih (by lia)
    obtain ⟨bv', I'⟩ := I.step hz (by lia) st
    exact ⟨bv', by rw [List.length_append]; exact I'⟩
theorem GOk.diff {k nsz : Nat} {ov : List Int} {bv : Int → Int} {many n1 n2 o1 o2 : Int} {gr : Gr} (h1 : GOk k nsz ov bv many n1 gr o1) (h2 : GOk k nsz ov bv many n2 gr o2) : n1 - n2 = o1 - o2 := by
  have a := h1.2
  have b := h2.2
  cases gr with
  | slot i => dsimp only at a b; lia
  | nm s =>
    dsimp only at a b
    rcases a with ⟨a1, a2⟩ | ⟨a1, a2⟩ <;> rcases b with ⟨b1, b2⟩ | ⟨b1, b2⟩
    · lia
    · rw [a1] at b1; exact absurd b1 (by decide)
    · rw [a1] at b1; exact absurd b1 (by decide)
    · lia
  | v n => dsimp only at a b; lia
theorem same_meet {d x y : Int} (hd : -200 ≤ d ∧ d ≤ 200) (hx : 1 ≤ x ∧ x ≤ 8) (hy : 1 ≤ y ∧ y ≤ 8) : (decide (d % 4294967296 < y) || decide (4294967296 - d % 4294967296 < x)) = (decide (d < y) && decide (-d < x)) := by
  rw [Bool.eq_iff_iff]
  simp only [Bool.or_eq_true, Bool.and_eq_true, decide_eq_true_eq]
  lia
def AOk (k nsz : Nat) (ov : List Int) (bv : Int → Int) (many : Int) (a : Acc) : Prop := 4096 ≤ a.num ∧ 1 ≤ a.oct ∧ a.oct ≤ 8 ∧ GOk k nsz ov bv many a.num a.gr a.off
theorem meetB_same {k nsz : Nat} {ov : List Int} {bv : Int → Int} {many : Int} {a b : Acc} {sz : List Int} {PV : Int → Bool} (hk : k ≤ 12) (ha : AOk k nsz ov bv many a) (hb : AOk k nsz ov bv many b) (e : a.gr = b.gr) : meetB sz PV a b = realB a b := by
  obtain ⟨a1, a2, a3, a4⟩ := ha
  obtain ⟨b1, b2, b3, b4⟩ := hb
  unfold meetB realB
  rw [if_pos ((grEq_iff _ _).mpr e)]
  rw [e] at a4
  have hd := a4.diff b4
  have h1 := a4.1
  have h2 := b4.1
  rw [same_meet (by lia) ⟨a2, a3⟩ ⟨b2, b3⟩, Bool.eq_iff_iff]
  simp only [Bool.and_eq_true, decide_eq_true_eq]
  lia
theorem realB_comm (a b : Acc) : realB b a = realB a b := by unfold realB; exact Bool.and_comm _ _
theorem inside_le {sz : List Int} {r : Acc} {i : Int} (hz : ∀ z ∈ sz, z ≤ 12) (h : insideB sz r = true) (e : r.gr = .slot i) : 0 ≤ r.off ∧ r.off + r.oct ≤ 12 := by
  rw [insideB_slot e, Bool.and_eq_true, decide_eq_true_eq, decide_eq_true_eq] at h
  refine ⟨h.1, Int.le_trans h.2 ?_⟩
  rw [List.getD_eq_getElem?_getD]
  cases q : sz[i.toNat]? with
  | none => simp
  | some z => simpa using hz z (List.mem_of_getElem? q)
theorem apart_ok {k nsz : Nat} {ov : List Int} {bv : Int → Int} {many : Int} {a b : Acc} {sz : List Int} {PV : Int → Bool} (hk : k ≤ 12) (hn : nsz ≤ 3) (hz : ∀ z ∈ sz, z ≤ 12) (ha : AOk k nsz ov bv many a) (hb : AOk k nsz ov bv many b) (hp : ∀ i, PV i = true → i ∉ ov)
    (e : ¬ a.gr = b.gr) (hi : insideB sz a = true) (ho : insideB sz b = true ∨ aloneB PV a = true) : realB a b = false := by
  obtain ⟨a1, a2, a3, a4⟩ := ha
  obtain ⟨b1, b2, b3, b4⟩ := hb
  have close : ¬ (a.num < b.num + b.oct ∧ b.num < a.num + a.oct) → realB a b = false := fun h => by
    unfold realB
    rw [Bool.eq_false_iff]
    intro z
    rw [Bool.and_eq_true, decide_eq_true_eq, decide_eq_true_eq] at z
    exact h z
  apply close
  have ga := a4.1
  have gb := b4.1
  have ca := a4.2
  have cb := b4.2
  cases qa : a.gr with
  | slot i =>
    rw [qa] at ca e
    dsimp only at ca
    have hin := inside_le hz hi qa
    cases qb : b.gr with
    | slot j =>
      rw [qb] at cb e
      dsimp only at cb
      have hij : i ≠ j := fun z => e (by rw [z])
      lia
    | nm t =>
      rw [qb] at cb
      dsimp only at cb
      lia
    | v n =>
      rw [qb] at cb
      dsimp only at cb
      rcases ho with ho | ho
      · unfold insideB at ho; rw [qb] at ho; exact absurd (show false = true from ho) (by decide)
      · rw [aloneB_yes qa] at ho
        have hio := hp i ho
        rcases cb.2.2.2 with h | h | h | h | h | h | ⟨s, h1, h2⟩
        · lia
        · lia
        · lia
        · lia
        · lia
        · lia
        · have : s ≠ i := fun z => hio (z ▸ h1)
          lia
  | nm s =>
    rw [qa] at ca e
    dsimp only at ca
    rcases ho with ho | ho
    · cases qb : b.gr with
      | slot j =>
        rw [qb] at cb
        dsimp only at cb
        lia
      | nm t =>
        rw [qb] at cb e
        dsimp only at cb
        rcases ca with ⟨x1, x2⟩ | ⟨x1, x2⟩ <;> rcases cb with ⟨y1, y2⟩ | ⟨y1, y2⟩
        · exact absurd (by rw [x1, y1]) e
        · lia
        · lia
        · exact absurd (by rw [x1, y1]) e
      | v n => unfold insideB at ho; rw [qb] at ho; exact absurd (show false = true from ho) (by decide)
    · unfold aloneB at ho; rw [qa] at ho; exact absurd (show false = true from ho) (by decide)
  | v n => unfold insideB at hi; rw [qa] at hi; exact absurd (show false = true from hi) (by decide)
theorem lawMeets_ok {k nsz : Nat} {ov : List Int} {bv : Int → Int} {many : Int} {a b : Acc} {sz : List Int} {PV : Int → Bool} (hk : k ≤ 12) (hn : nsz ≤ 3) (hz : ∀ z ∈ sz, z ≤ 12) (ha : AOk k nsz ov bv many a) (hb : AOk k nsz ov bv many b) (hp : ∀ i, PV i = true → i ∉ ov) : lawMeets sz PV a b = true := by
  unfold lawMeets
  by_cases e : a.gr = b.gr
  · rw [meetB_same hk ha hb e, meetB_same hk hb ha e.symm, realB_comm, (grEq_iff _ _).mpr e]
    simp
  · have g1 : grEq a.gr b.gr = false := by rw [Bool.eq_false_iff]; exact fun z => e ((grEq_iff _ _).mp z)
    have g2 : grEq b.gr a.gr = false := by rw [Bool.eq_false_iff]; exact fun z => e ((grEq_iff _ _).mp z).symm
    have m1 : meetB sz PV a b = (!(insideB sz a && insideB sz b) && !(insideB sz a && aloneB PV a) && !(insideB sz b && aloneB PV b)) := by unfold meetB; rw [g1]; rfl
    have m2 : meetB sz PV b a = (!(insideB sz b && insideB sz a) && !(insideB sz b && aloneB PV b) && !(insideB sz a && aloneB PV a)) := by unfold meetB; rw [g2]; rfl
    have x1 : insideB sz a = true → insideB sz b = true ∨ aloneB PV a = true → realB a b = false := apart_ok hk hn hz ha hb hp e
    have x2 : insideB sz b = true → insideB sz a = true ∨ aloneB PV b = true → realB a b = false := fun h1 h2 => (realB_comm a b) ▸ apart_ok hk hn hz hb ha hp (fun z => e z.symm) h1 h2
    rw [m1, m2, g1]
    revert x1 x2
    generalize insideB sz a = ia
    generalize insideB sz b = ib
    generalize aloneB PV a = pa
    generalize aloneB PV b = pb
    generalize realB a b = rl
    revert ia ib pa pb rl
    decide +kernel
theorem hstep_else {P : Int → Bool} {F : Int → Option Int} {r : Row} {c : Int} (h : ¬ c = r.dst) : hstep P F r c = F c := by
  unfold hstep
  split
  · unfold hset; rw [if_neg h]
  · split
    · generalize F (arg0 r) = o
      cases o with
      | none => rfl
      | some v => show hset F r.dst v c = F c; unfold hset; rw [if_neg h]
    · rfl
theorem holders_rest {P : Int → Bool} {c : Int} : ∀ {W V : List Row}, (∀ x ∈ W, ¬ x.dst = c) → holdersOf P (V ++ W) c = holdersOf P V c
  | [], V, _ => by rw [List.append_nil]
  | x :: W, V, h => by
    have e : V ++ x :: W = (V ++ [x]) ++ W := by simp
    rw [e, holders_rest (fun y hy => h y (.tail _ hy)), holdersOf_snoc, hstep_else fun z => h x (.head _) z.symm]
theorem holders_in {P : Int → Bool} {c s : Int} {V : List Row} (h : holdersOf P V c = some s) : P c = true ∧ ∃ x ∈ V, x.dst = c ∧ (x.op = "slot" ∨ x.op = "copy" ∨ x.op = "add") := by
  have key : ∀ n (V : List Row), V.length = n → ∀ s, holdersOf P V c = some s → P c = true ∧ ∃ x ∈ V, x.dst = c ∧ (x.op = "slot" ∨ x.op = "copy" ∨ x.op = "add") := by
    intro n
    induction n with
    | zero => intro V hl s h; rw [List.length_eq_zero_iff.mp hl] at h; cases h
    | succ n ih =>
      intro V hl s h
      rcases List.eq_nil_or_concat V with rfl | ⟨V', x, e⟩
      · cases hl
      · rw [List.concat_eq_append] at e
        subst e
        rw [holdersOf_snoc] at h
        by_cases q : c = x.dst
        · unfold hstep at h
          split at h
          · rename_i z; exact ⟨q ▸ z.1, x, by simp, q.symm, .inl z.2⟩
          · split at h
            · rename_i z; exact ⟨q ▸ z.1, x, by simp, q.symm, .inr z.2⟩
            · obtain ⟨a, y, hy, b⟩ := ih V' (by simpa using hl) s h
              exact ⟨a, y, List.mem_append_left _ hy, b⟩
        · rw [hstep_else q] at h
          obtain ⟨a, y, hy, b⟩ := ih V' (by simpa using hl) s h
          exact ⟨a, y, List.mem_append_left _ hy, b⟩
  exact key _ V rfl s h
theorem OnceI.pos {gs : List Int} {c : Int} (h : OnceI gs c = true) : 0 ≤ c := by
  unfold OnceI at h
  simp only [Bool.or_eq_true, Bool.and_eq_true, Bool.not_eq_true', decide_eq_true_eq, decide_eq_false_iff_not] at h
  lia
theorem goals_app (V W : List Row) : goals (V ++ W) = goals V ++ goals W := by unfold goals; rw [List.map_append, List.filter_append]
theorem goals_has {V : List Row} {x : Row} (h : x ∈ V) (h0 : 0 ≤ x.dst) : x.dst ∈ goals V := by
  unfold goals
  exact List.mem_filter.mpr ⟨List.mem_map_of_mem h, by simpa using h0⟩
theorem once_apart {V W : List Row} {x y : Row} (h : OnceI (goals (V ++ W)) x.dst = true) (hx : x ∈ V) (hy : y ∈ W) : ¬ y.dst = x.dst := fun e => by
  have h0 := OnceI.pos h
  have a := List.count_pos_iff.mpr (goals_has hx h0)
  have b := List.count_pos_iff.mpr (goals_has hy (e ▸ h0))
  rw [e] at b
  unfold OnceI at h
  rw [goals_app, List.count_append] at h
  simp only [Bool.or_eq_true, Bool.and_eq_true, Bool.not_eq_true', decide_eq_true_eq, decide_eq_false_iff_not, List.mem_append] at h
  rcases h with h | h
  · exact h.2 (.inl (goals_has hx h0))
  · lia
structure Set0 where
  rs : List Row
  eargs : List (Str × Int)
def Set0.P (z : Set0) (c : Int) : Bool := OnceI (goals z.rs) c
def Set0.F (z : Set0) : Int → Option Int := holdersOf z.P z.rs
def Set0.lost (z : Set0) (c : Int) : Bool := lostOf z.P z.F z.rs z.eargs c
theorem Set0.row {z : Set0} {r : Row} {s : Int} (h : r ∈ z.rs) (e : lostAt z.P z.F s r = true) : z.lost s = true := List.any_eq_true.mpr ⟨r, List.mem_append_left _ h, e⟩
theorem Set0.said {z : Set0} {r : Row} {s e : Int} (h : r ∈ z.rs) (hs : (("r", e) : Str × Int) ∈ saidOf z.F r) (hf : z.F e = some s) : z.lost s = true := by
  refine z.row h ?_
  unfold lostAt
  rw [Bool.or_eq_true]
  exact .inr (List.any_eq_true.mpr ⟨_, hs, by unfold argHit; simp [hf]⟩)
def Hold (z : Set0) (V : List Row) (c s : Int) : Prop := z.lost s = true ∨ (z.P c = true ∧ holdersOf z.P V c = some s)
theorem Hold.keep {z : Set0} {V W : List Row} {c s : Int} (e : z.rs = V ++ W) (h : Hold z V c s) : z.lost s = true ∨ z.F c = some s := by
  rcases h with h | ⟨h1, h2⟩
  · exact .inl h
  · refine .inr ?_
    obtain ⟨_, x, hx, rfl, _⟩ := holders_in h2
    unfold Set0.F
    rw [e, holders_rest (fun y hy => once_apart (by unfold Set0.P at h1; rw [e] at h1; exact h1) hx hy)]
    exact h2
structure InvB (z : Set0) (V : List Row) (p : PS) : Prop where
  rg : ∀ c r s, p.R c = some r → r.gr = .slot s → Hold z V c s
  ov : ∀ s ∈ p.ov, z.lost s = true
theorem InvB.reg {z : Set0} {V W : List Row} {p p1 : PS} {r : Row} {c : Int} {r0 : Reg} (I : InvB z V p) (e : z.rs = (V ++ [r]) ++ W) (hR : p1.R = p.R) (ho : ∀ s ∈ p1.ov, z.lost s = true) (hd : r.dst = c) (hn : ∀ s, r0.gr = .slot s → Hold z (V ++ [r]) c s) : InvB z (V ++ [r]) (p1.set c r0) where
  rg := fun c' r' s h hg => by
    change (if c' = c then some r0 else p1.R c') = some r' at h
    split at h
    · rename_i q; cases h; rw [q]; exact hn s hg
    · rename_i q
      rw [hR] at h
      rcases I.rg c' r' s h hg with h | ⟨h1, h2⟩
      · exact .inl h
      · exact .inr ⟨h1, by rw [holdersOf_snoc, hstep_else (by rw [hd]; exact q)]; exact h2⟩
  ov := ho
theorem InvB.keep0 {z : Set0} {V W : List Row} {p p1 : PS} {r : Row} (I : InvB z V p) (hR : p1.R = p.R) (ho : ∀ s ∈ p1.ov, z.lost s = true) (hd : r.dst < 0) : InvB z (V ++ [r]) p1 where
  rg := fun c' r' s h hg => by
    rw [hR] at h
    rcases I.rg c' r' s h hg with h | ⟨h1, h2⟩
    · exact .inl h
    · have := OnceI.pos h1
      exact .inr ⟨h1, by rw [holdersOf_snoc, hstep_else (by lia)]; exact h2⟩
  ov := ho
theorem Set0.noF {z : Set0} {V W : List Row} {r : Row} (e : z.rs = (V ++ [r]) ++ W) (h : ¬(r.op = "slot" ∨ r.op = "copy" ∨ r.op = "add")) : z.F r.dst = none := by
  cases q : z.F r.dst with
  | none => rfl
  | some s =>
    obtain ⟨hp, x, hx, hd, ho⟩ := holders_in q
    exfalso
    rw [e] at hx
    unfold Set0.P at hp
    rcases List.mem_append.mp hx with hx | hx
    · rcases List.mem_append.mp hx with hx | hx
      · rw [e, List.append_assoc] at hp
        exact once_apart (x := x) (y := r) (by rw [hd]; exact hp) hx (List.mem_append_left _ (.head _)) hd.symm
      · cases List.mem_singleton.mp hx; exact h ho
    · rw [e] at hp
      exact once_apart (x := r) (y := x) hp (List.mem_append_right _ (.head _)) hx hd
theorem hand_lost {z : Set0} {V W : List Row} {p : PS} {cs : List Int} (I : InvB z V p) (h : ∀ e ∈ cs, ∀ s, (∃ r, p.R e = some r ∧ r.gr = .slot s) → z.lost s = true) : ∀ s ∈ (p.hand cs).ov, z.lost s = true := fun s hs => by
  rcases List.mem_append.mp hs with hs | hs
  · exact I.ov s hs
  · obtain ⟨e, he, hs⟩ := List.mem_flatMap.mp hs
    unfold PS.slotOf at hs
    split at hs
    · rename_i n i o q
      cases List.mem_singleton.mp hs
      exact h e he s ⟨_, q, rfl⟩
    · exact nomatch hs
theorem InvB.step {z : Set0} {nsz : Nat} {V W : List Row} {p p' : PS} {r : Row} (e : z.rs = (V ++ [r]) ++ W) (I : InvB z V p) (st : Stp nsz p r p') (hs : r.dst = -1 ∨ 0 ≤ r.dst) : InvB z (V ++ [r]) p' := by
  have hr : r ∈ z.rs := by rw [e]; exact List.mem_append_left _ (List.mem_append_right _ (.head _))
  have e' : z.rs = V ++ (r :: W) := by rw [e]; simp
  have kp : ∀ {c s : Int}, Hold z V c s → z.lost s = true ∨ z.F c = some s := fun h => h.keep e'
  have FP : ∀ {c s : Int}, z.F c = some s → z.P c = true := fun h => (holders_in h).1
  cases st with
  | @slot at_ c p1 h1 h2 hg =>
    obtain ⟨e1, e2, e3, e4, e5, e6⟩ := hg.same
    refine I.reg e e1 (by rw [e4]; exact I.ov) rfl fun s hgr => ?_
    cases hgr
    cases q : z.P c with
    | false => exact .inl (z.row hr (by unfold lostAt; rw [slotHit_yes rfl q]; simp))
    | true =>
      refine .inr ⟨q, ?_⟩
      rw [holdersOf_snoc]
      unfold hstep
      rw [if_pos ⟨q, rfl⟩]
      unfold hset
      rw [if_pos rfl]
  | @name nm b more c p1 h1 h2 hg =>
    obtain ⟨e1, e2, e3, e4, e5, e6⟩ := hg.same
    exact I.reg e e1 (by rw [e4]; exact I.ov) rfl fun s hgr => by cases hgr
  | @copy e0 c r0 p1 h1 h2 hg =>
    obtain ⟨e1, e2, e3, e4, e5, e6⟩ := hg.same
    refine I.reg e e1 (by rw [e4]; exact I.ov) rfl fun s hgr => ?_
    have hh := I.rg e0 r0 s h1 hgr
    cases q : z.P c with
    | false =>
      rcases kp hh with hl | hf
      · exact .inl hl
      · have fn : z.F c = none := by
          cases y : z.F c with
          | none => rfl
          | some v => rw [FP y] at q; cases q
        refine .inl (z.said hr (e := e0) ?_ hf)
        rw [saidOf_all (show ¬(Str.ofString "copy" = Str.ofString "load" ∨ Str.ofString "copy" = Str.ofString "move") by decide) (by show (z.F c).isSome = false; rw [fn]; rfl) (show ¬ Str.ofString "copy" = Str.ofString "store" by decide)]
        exact .head _
    | true =>
      rcases hh with hl | ⟨_, hf⟩
      · exact .inl hl
      · refine .inr ⟨q, ?_⟩
        rw [holdersOf_snoc]
        unfold hstep
        rw [if_neg (fun y => absurd (show Str.ofString "copy" = Str.ofString "slot" from y.2) (by decide)), if_pos ⟨q, .inl rfl⟩, show holdersOf z.P V (arg0 ⟨"copy", c, [("r", e0)], 0⟩) = some s from hf]
        show hset (holdersOf z.P V) c s c = some s
        unfold hset
        rw [if_pos rfl]
  | @add e0 c more r0 p1 h1 h2 h3 hg =>
    obtain ⟨e1, e2, e3, e4, e5, e6⟩ := hg.same
    refine I.reg e e1 (by rw [e4]; exact I.ov) rfl fun s hgr => ?_
    have hh := I.rg e0 r0 s h1 hgr
    cases q : z.P c with
    | false =>
      rcases kp hh with hl | hf
      · exact .inl hl
      · have fn : z.F c = none := by
          cases y : z.F c with
          | none => rfl
          | some v => rw [FP y] at q; cases q
        refine .inl (z.said hr (e := e0) ?_ hf)
        rw [saidOf_all (show ¬(Str.ofString "add" = Str.ofString "load" ∨ Str.ofString "add" = Str.ofString "move") by decide) (by show (z.F c).isSome = false; rw [fn]; rfl) (show ¬ Str.ofString "add" = Str.ofString "store" by decide)]
        exact .head _
    | true =>
      rcases hh with hl | ⟨_, hf⟩
      · exact .inl hl
      · refine .inr ⟨q, ?_⟩
        rw [holdersOf_snoc]
        unfold hstep
        rw [if_neg (fun y => absurd (show Str.ofString "add" = Str.ofString "slot" from y.2) (by decide)), if_pos ⟨q, .inr rfl⟩, show holdersOf z.P V (arg0 ⟨"add", c, [("r", e0), ("k", more)], 0⟩) = some s from hf]
        show hset (holdersOf z.P V) c s c = some s
        unfold hset
        rw [if_pos rfl]
  | @storeK e0 oct r0 wv h1 h2 h3 h4 => exact I.keep0 (W := W) rfl I.ov (show (-1 : Int) < 0 by decide)
  | @storeR e0 f oct r0 rf wv h1 h2 h3 h4 h5 =>
    refine I.keep0 (W := W) rfl (hand_lost (W := W) I fun x hx s ⟨r1, hr1, hg1⟩ => ?_) (show (-1 : Int) < 0 by decide)
    cases List.mem_singleton.mp hx
    rcases kp (I.rg f r1 s hr1 hg1) with hl | hf
    · exact hl
    · refine z.said hr (e := f) ?_ hf
      have fn := Set0.noF (z := z) e (show ¬(Str.ofString "store" = Str.ofString "slot" ∨ Str.ofString "store" = Str.ofString "copy" ∨ Str.ofString "store" = Str.ofString "add") by decide)
      rw [saidOf_st (show ¬(Str.ofString "store" = Str.ofString "load" ∨ Str.ofString "store" = Str.ofString "move") by decide) (by rw [fn]; rfl) rfl]
      exact .head _
  | @load e0 c oct n r0 p1 h1 h2 h3 h4 hg =>
    obtain ⟨e1, e2, e3, e4, e5, e6⟩ := hg.same
    exact I.reg e e1 (by rw [e4]; exact I.ov) rfl fun s hgr => by cases hgr
  | @move e0 f oct r0 rf h1 h2 h3 h4 h5 => exact I.keep0 (W := W) rfl I.ov (show (-1 : Int) < 0 by decide)
  | @other op cs c p' h1 h2 h3 h4 =>
    have opn : ¬(op = "slot" ∨ op = "copy" ∨ op = "add") := by rcases h1 with rfl | rfl | rfl <;> decide
    have opl : ¬(op = "load" ∨ op = "move") := by rcases h1 with rfl | rfl | rfl <;> decide
    have ops : ¬ op = "store" := by rcases h1 with rfl | rfl | rfl <;> decide
    have fn : z.F c = none := Set0.noF (z := z) e opn
    have hl : ∀ s ∈ (p.hand cs).ov, z.lost s = true := hand_lost (W := W) I fun x hx s ⟨r1, hr1, hg1⟩ => by
      rcases kp (I.rg x r1 s hr1 hg1) with hl | hf
      · exact hl
      · refine z.said hr (e := x) ?_ hf
        rw [saidOf_all opl (by show (z.F c).isSome = false; rw [fn]; rfl) ops]
        exact List.mem_map.mpr ⟨x, hx, rfl⟩
    rcases h4 with ⟨hc, rfl⟩ | ⟨p1, hg, h5⟩
    · exact I.keep0 (W := W) rfl hl (show c < 0 by lia)
    · obtain ⟨e1, e2, e3, e4, e5, e6⟩ := hg.same
      rcases h5 with ⟨hc, rfl⟩ | ⟨hc, rfl⟩
      · exact InvB.reg (p1 := { p1 with many := p1.many + 1 }) I e e1 (by show ∀ s ∈ p1.ov, _; rw [e4]; exact hl) rfl fun s hgr => by cases hgr
      · exact I.keep0 (W := W) e1 (by rw [e4]; exact hl) hc
structure RowAll (nsz : Nat) (r : Row) : Prop where
  sh : RowSh nsz r
  s2 : RowS2 r
  mv : r.op = "move" → r.args.length = 2
theorem sne {a b : String} (h : Str.ofString a = Str.ofString b) (n : ¬ Str.ofString a = Str.ofString b) {P : Prop} : P := absurd h n
theorem Stp.row {nsz k : Nat} {bv : Int → Int} {p p' : PS} {r : Row} (I : InvA nsz k bv p) (st : Stp nsz p r p') : RowAll nsz r := by
  cases st with
  | @slot at_ c p1 h1 h2 hg => exact ⟨⟨Nat.zero_le _, fun h => sne h (by decide), fun h => sne h (by decide), fun _ => ⟨h1, h2, rfl⟩, fun h => sne h (by decide), by have := hg.pos I rfl rfl; show -1 ≤ c; lia⟩, ⟨fun h => sne h (by decide), fun h => sne h (by decide)⟩, fun h => sne h (by decide)⟩
  | @name nm b more c p1 h1 h2 hg => exact ⟨⟨Nat.zero_le _, fun h => sne h (by decide), fun h => sne h (by decide), fun h => sne h (by decide), fun h => sne h (by decide), by have := hg.pos I rfl rfl; show -1 ≤ c; lia⟩, ⟨fun h => sne h (by decide), fun h => sne h (by decide)⟩, fun h => sne h (by decide)⟩
  | @copy e c r0 p1 h1 h2 hg => exact ⟨⟨by show 1 ≤ 2; decide, fun _ => ⟨e, rfl⟩, fun h => sne h (by decide), fun h => sne h (by decide), fun h => sne h (by decide), by have := hg.pos I rfl rfl; show -1 ≤ c; lia⟩, ⟨fun h => sne h (by decide), fun h => sne h (by decide)⟩, fun h => sne h (by decide)⟩
  | @add e c more r0 p1 h1 h2 h3 hg => exact ⟨⟨by show 2 ≤ 2; decide, fun h => sne h (by decide), fun _ => ⟨e, more, rfl⟩, fun h => sne h (by decide), fun h => sne h (by decide), by have := hg.pos I rfl rfl; show -1 ≤ c; lia⟩, ⟨fun h => sne h (by decide), fun h => sne h (by decide)⟩, fun h => sne h (by decide)⟩
  | @storeK e oct r0 wv h1 h2 h3 h4 => exact ⟨⟨by show 2 ≤ 2; decide, fun h => sne h (by decide), fun h => sne h (by decide), fun h => sne h (by decide), fun _ => rfl, by show (-1 : Int) ≤ -1; decide⟩, ⟨fun h => sne h (by decide), fun _ => rfl⟩, fun h => sne h (by decide)⟩
  | @storeR e f oct r0 rf wv h1 h2 h3 h4 h5 => exact ⟨⟨by show 2 ≤ 2; decide, fun h => sne h (by decide), fun h => sne h (by decide), fun h => sne h (by decide), fun _ => rfl, by show (-1 : Int) ≤ -1; decide⟩, ⟨fun h => sne h (by decide), fun _ => rfl⟩, fun h => sne h (by decide)⟩
  | @load e c oct n r0 p1 h1 h2 h3 h4 hg => exact ⟨⟨by show 1 ≤ 2; decide, fun h => sne h (by decide), fun h => sne h (by decide), fun h => sne h (by decide), fun h => sne h (by decide), by have := Goal.pos I (by rfl) (by rfl) hg; show -1 ≤ c; lia⟩, ⟨fun _ => rfl, fun h => sne h (by decide)⟩, fun h => sne h (by decide)⟩
  | @move e f oct r0 rf h1 h2 h3 h4 h5 => exact ⟨⟨by show 2 ≤ 2; decide, fun h => sne h (by decide), fun h => sne h (by decide), fun h => sne h (by decide), fun h => sne h (by decide), by show (-1 : Int) ≤ -1; decide⟩, ⟨fun h => sne h (by decide), fun h => sne h (by decide)⟩, fun _ => rfl⟩
  | @other op cs c p' h1 h2 h3 h4 =>
    have hc : -1 ≤ c := by
      rcases h4 with ⟨rfl, _⟩ | ⟨p1, hg, _⟩
      · decide
      · have := Goal.pos I (by rfl) (by rfl) hg; lia
    have ne : ∀ {x : String}, ¬(Str.ofString x = Str.ofString "call" ∨ Str.ofString x = Str.ofString "sub" ∨ Str.ofString x = Str.ofString "eq") → ¬ op = Str.ofString x := fun hx e => hx (by rw [← e]; exact h1)
    exact ⟨⟨by show (cs.map _).length ≤ 2; rw [List.length_map]; exact h2, fun h => absurd h (ne (by decide)), fun h => absurd h (ne (by decide)), fun h => absurd h (ne (by decide)), fun h => absurd h (ne (by decide)), hc⟩,
      ⟨fun h => absurd h (ne (by decide)), fun h => absurd h (ne (by decide))⟩, fun h => absurd h (ne (by decide))⟩
theorem Tr.rows {nsz : Nat} {rs : List Row} {p : PS} (hz : nsz ≤ 3) (t : Tr nsz startPS rs p) (hl : rs.length ≤ 100) : ∀ r ∈ rs, RowAll nsz r := by
  induction t with
  | nil => exact fun r h => nomatch h
  | snoc t st ih =>
    rw [List.length_append] at hl
    obtain ⟨bv, I⟩ := t.invA hz (by lia)
    intro r hr
    rcases List.mem_append.mp hr with hr | hr
    · exact ih (by lia) r hr
    · cases List.mem_singleton.mp hr; exact st.row I
theorem Tr.invB {z : Set0} {nsz : Nat} {V : List Row} {p : PS} (hz : nsz ≤ 3) (t : Tr nsz startPS V p) : ∀ (W : List Row), z.rs = V ++ W → V.length ≤ 100 → InvB z V p := by
  induction t with
  | nil =>
    intro W e hl
    refine ⟨fun c r s h hg => ?_, fun s hs => nomatch hs⟩
    unfold startPS at h
    dsimp only at h
    split at h
    · cases h; cases hg
    · split at h
      · cases h; cases hg
      · cases h
  | @snoc rs p r p' t st ih =>
    intro W e hl
    rw [List.length_append] at hl
    obtain ⟨bv, I⟩ := t.invA hz (by lia)
    have := (st.row I).sh.dst
    exact InvB.step e (ih (r :: W) (by rw [e]; simp) (by lia)) st (by lia)
def eargsOf (cs : List Int) : List (Str × Int) := cs.map fun c => ("r", c)
theorem plain {nsz : Nat} {sz : List Int} {rs : List Row} {p : PS} {cs : List Int} (t : Tr nsz startPS rs p) (hl : rs.length ≤ 12) (hn : nsz ≤ 3) (hs : sz.length = nsz) (hz : ∀ z ∈ sz, z ≤ 12) :
    (∀ r ∈ rs, RowAll nsz r) ∧ holdersOf (OnceI (goals rs)) rs (-1) = none ∧
    (∀ i, dueOf (OnceI (goals rs)) (holdersOf (OnceI (goals rs)) rs) rs (eargsOf cs) nsz i = true → i ∉ (p.hand cs).ov) ∧
    ∀ a ∈ p.sv, SlotIn sz a ∧ ∀ b ∈ p.sv, lawMeets sz (dueOf (OnceI (goals rs)) (holdersOf (OnceI (goals rs)) rs) rs (eargsOf cs) nsz) a b = true := by
  have hF : holdersOf (OnceI (goals rs)) rs (-1) = none := by
    cases q : holdersOf (OnceI (goals rs)) rs (-1) with
    | none => rfl
    | some v => have := OnceI.pos (holders_in q).1; lia
  obtain ⟨bv, I⟩ := t.invA hn (by lia)
  have B : InvB ⟨rs, eargsOf cs⟩ rs p := t.invB hn [] (by simp) (by lia)
  have hov : ∀ s ∈ (p.hand cs).ov, (⟨rs, eargsOf cs⟩ : Set0).lost s = true := hand_lost (W := []) B fun e he s ⟨r, hr, hg⟩ => by
    rcases (B.rg e r s hr hg).keep (W := []) (by simp) with h | h
    · exact h
    · refine List.any_eq_true.mpr ⟨endRow (eargsOf cs), List.mem_append_right _ (.head _), ?_⟩
      unfold lostAt
      rw [Bool.or_eq_true]
      refine .inr (List.any_eq_true.mpr ⟨("r", e), ?_, by unfold argHit; simp [h]⟩)
      have fn : (⟨rs, eargsOf cs⟩ : Set0).F (endRow (eargsOf cs)).dst = none := hF
      rw [saidOf_all (show ¬(Str.ofString "give" = Str.ofString "load" ∨ Str.ofString "give" = Str.ofString "move") by decide) (by rw [fn]; rfl) (show ¬ Str.ofString "give" = Str.ofString "store" by decide)]
      exact List.mem_map.mpr ⟨e, he, rfl⟩
  have hdue : ∀ i, dueOf (OnceI (goals rs)) (holdersOf (OnceI (goals rs)) rs) rs (eargsOf cs) nsz i = true → i ∉ (p.hand cs).ov := fun i hi hm => by
    have h := hov i hm
    unfold dueOf at hi
    rw [Bool.and_eq_true, Bool.not_eq_true'] at hi
    exact absurd (h.symm.trans hi.2) (by decide)
  refine ⟨t.rows hn (by lia), hF, hdue, fun a ha => ⟨fun i hi => ?_, fun b hb => lawMeets_ok (nsz := nsz) (ov := p.ov) (many := p.many) (k := rs.length) hl hn hz (I.sv a ha) (I.sv b hb) fun i hi hm => hdue i hi (ov_hand i hm)⟩⟩
  have g := (I.sv a ha).2.2.2.2
  rw [hi] at g
  exact ⟨g.1, by rw [hs]; exact g.2.1⟩
theorem room_top : Room callerA 20 := ⟨by decide +kernel, by decide +kernel, rfl⟩
section
variable {w : World} {A : Around} {E : Value → Shared → Prop} {s : Shared} {h h' : Heap} {t : Nat} {K : Ent} {L : Addr} {m m' : Loc} {g : Frz} {Γ Γ' ΓD Λ : List (Addr × Cell)} {env : Env}
theorem call_top {name qual : Str} {params : Arguments} {body : List Stmt} {scope : Scope} {dV kV doc pm cdv ct oc : Value} {an od : Option Addr} {osl : Array (Option Value)} {f : Addr} {args : List Value} {n : Nat} {binds : List (Str × Value)}
    {Q : Value → Shared → Prop} (m₀ : Loc) (vs0 : List (Str × Option Value)) (X : (hd.heap_39 w.params).In h) (lim : h.NoLimit) (room : Room A (n + 1))
    (ho : (hd.heap_39 w.params).lookup f = some ⟨oc, od, .func (fnOf name qual params body scope dV kV doc pm an cdv ct), osl⟩) (hcd : codeIn (hd.heap_39 w.params) cdv qual = true)
    (hbind : bindArgs (fnOf name qual params body scope dV kV doc pm an cdv ct) ⟨args, []⟩ = pure binds)
    (hkind : (binds.all fun y => scope.names.lookup y.1 == some .local || scope.names.lookup y.1 == some .cell) = true) (hnd : ((cellsFrom 0 scope.names []).map (·.1)).Nodup)
    (hm : ∀ L, LkF (bindL (envOfC qual scope L f cdv).kindOf binds fun _ => none) m₀)
    (hv : ∀ L, (cellsFrom (L + 1) scope.names []).map (fun x => (x.1, bindC (envOfC qual scope L f cdv).kindOf binds (fun _ => none) x.1)) = vs0)
    (q : ∀ L' h₁ tk cl Λ A', CA vs0 cl Λ → Room A' n → St w ⟨h, h, [], fun _ => none⟩ L' m₀ (fun _ => none) ([] ++ Λ) h₁ →
      wpAny (model PG w) A' (execs body (envX qual scope L' f cdv cl)) (Rt Q) (fun _ _ => False) (sh s h₁ tk))
    (hco : scope.isCoroutine = false) (hgen : scope.isGenerator = false) (hk : scope.kind = .function) : wpAny (model PG w) A (call (.ref f) args) Q E (sh s h t) := by
  refine wpAny_call (codeAny_call_function room.dd (X _ _ ho) rfl hco hgen rfl (codeRec_of X hcd) ((BindsTo.of_eq hbind) _ _ _ _ ?_))
  refine wpAny_newFunctionEnv_cells (s := sh s h t) hk (kindsX hkind _) fun env' he s' x => ?_
  subst he
  refine ⟨lim.keeps x.toInCall.keep, codeAny_func ?_⟩
  obtain ⟨h₁, tk, rfl, hkeep⟩ := x.done
  have hns : h₁.Ns h.objs.size (bindL (envOfC qual scope h.objs.size f cdv).kindOf binds fun _ => none) := x.toInCall.ns
  have hk₁ : ∀ b o, h.get? b = some o → h₁.get? b = some o := hkeep
  have S1 : St w ⟨h, h, [], fun _ => none⟩ h.objs.size m₀ (fun _ => none) [] h₁ :=
    ⟨⟨_, hns, (hm h.objs.size).look⟩, hk₁, (fun b o e => by cases e), (fun p hp => by cases hp), (fun p hp => by cases hp), List.nodup_nil, (fun b o _ e => hk₁ b o e), ⟨Nat.le_refl _, Nat.le_refl _⟩, Nat.le_of_lt hns.lt, (fun b o e => by cases e), (fun b o e => by cases e), (fun b o e => by cases e)⟩
  have memlk : ∀ n c, (n, c) ∈ cellsFrom (h.objs.size + 1) scope.names [] → (cellsFrom (h.objs.size + 1) scope.names []).lookup n = some c :=
    fun n c hmm => lookup_of_mem_nodup (cellsFrom_names scope.names 0 (h.objs.size + 1) [] [] rfl ▸ hnd) hmm
  have above : ∀ n c, (n, c) ∈ cellsFrom (h.objs.size + 1) scope.names [] → h.objs.size < c := x.above
  obtain ⟨Λ, y, S2, _⟩ := St.addCells (cm := bindC (envOfC qual scope h.objs.size f cdv).kindOf binds fun _ => none) (cs := cellsFrom (h.objs.size + 1) scope.names []) S1 (fun n c hmm => x.cell n c (memlk n c hmm)) x.apart (fun n c hmm => by
    have z := above n c hmm
    exact ⟨Nat.le_of_lt z, Nat.le_of_lt z, Nat.ne_of_gt z, (fun q => by cases q), rfl⟩)
  rw [hv] at y
  exact wpAny_mono (q h.objs.size h₁ tk _ Λ _ y (room.deeper _) S2) (fun fl s' hl => hl) fun _ _ y => y.elim
theorem sl_b {value up : Expr} {p pos : Pos} {Q : Value → Shared → Prop}
    (q : wpAny (model PG w) A (eval value env) (fun o s₁ => wpAny (model PG w) A (eval up env) (fun vu s₃ => SlF w Q o .none vu s₃) E s₁) E s) : wpAny (model PG w) A (eval (.Subscript value (.Slice none (some up) none p) pos) env) Q E s := by
  refine sl_any (wpAny_mono q (fun o s₁ h₁ => wpAny_Slice (wpAny_evalPart_none (wpAny_mono h₁ (fun vu s₂ h₂ => wpAny_evalPart_none ?_) fun _ _ e => e))) fun _ _ e => e)
  obtain ⟨l, items, lo', hi, rfl, hl, hsz, pl, pu, hQ⟩ := h₂
  refine ⟨(hl.push _).typeIs, wpAny_getItem_list_slice (hl.push _) (Heap.IsSliceOf.new ..) pl pu .none (by simp) ?_ hsz⟩
  rw [Heap.size_push]
  exact hQ
theorem sl_finB {l : Addr} {vs : List Value} {b : Int} {tb : Tok} {Q : Value → Shared → Prop} (S : St w K L m g (ΓD ++ Λ) h) (c : At w h.get? l (.ls vs)) (hz : vs.length ≤ 1000) (h0 : 0 ≤ b)
    (q : ∀ x g' h', g.le g' → At w g' x (.lx (vs.take b.toNat)) → St w K L m g' (ΓD ++ Λ) h' → Q (.ref x) (sh s h' t)) : SlF w Q (.ref l) .none (.int b tb) (sh s h t) := by
  refine ⟨l, vs.toArray, none, some b, rfl, c.list, by simp [sizeLine_eq]; lia, .none, .int .., ?_⟩
  have e : slicePick vs.toArray none (some b) none = (vs.take b.toNat).toArray := by
    have := slicePick_upto' vs.toArray b.toNat
    rw [Int.toNat_of_nonneg h0] at this
    simpa using this
  rw [e]
  obtain ⟨g', l', c', S'⟩ := S.two (o1 := { cls := .type "slice", data := .fields #[.none, .int b tb, .none] }) (o2 := { cls := .type "list", data := .seq (vs.take b.toNat).toArray }) (c := .lx (vs.take b.toNat)) ⟨0, rfl⟩ rfl rfl
  exact q _ _ _ l' c' S'
theorem upd_dS {d o : Addr} {kvs more : List (Str × Value)} {Q : Value → Shared → Prop} (S : St w K L m g Γ h) (u : Upd d (.dS kvs) (.dS (kvs ++ more)) Γ Γ') (c : At w h.get? o (.dS more)) (hne : d ≠ o) (hs : (o == sysModules) = false) (hz : kvs.length + more.length ≤ 100) (nd : ((kvs ++ more).map (·.1)).Nodup)
    (q : ∀ h', St w K L m g Γ' h' → Q .none (sh s h' t)) : wpAny (model PG w) A (call (.builtin "dict.update") [.ref d, .ref o]) Q E (sh s h t) := by
  have hD := (S.rd u.old).dictS
  exact call_meetsIn (s := sh s h t) PySem.F.slot_dict_update hD.typeIs PySem.F.entry_dict_update (PySem.F.args_dict_update_2 _ _) (meets_dict_update (strKind PG w) d o hne hs) ⟨kvs, more, hD, c.dictS, by rw [sizeLine_eq]; lia, fun h' hd' _ hs' => q h' (S.upd u hs' (At.ofDictS (by rw [merged_nodup more kvs nd] at hd'; exact hd')))⟩
theorem ls_neE {a b : Addr} {n : Nat} {Q : Value → Shared → Prop} (c : At w h.get? a (.ls [])) (d : At w h.get? b (.ls [])) (r : Room A n) (q : Q (.bool false) (sh s h t)) : wpAny (model PG w) A (compareOp .NotEq (.ref a) (.ref b)) Q E (sh s h t) :=
  ls_neI c d .nil .nil r (by rw [show (!decide (([] : List Int) = [])) = false from by decide]; exact q)
theorem cutS {st : Stmt} {R : Shared → Prop} {s₁ : Shared} {Q : Flow → Shared → Prop} (h1 : ∀ P : Flow → Shared → Prop, (∀ s', R s' → P .next s') → wpAny (model PG w) A (exec st env) P (fun _ _ => False) s₁) (h2 : ∀ s', R s' → Q .next s') : wpAny (model PG w) A (exec st env) Q E s₁ :=
  wpAny_mono (h1 (fun f s' => f = .next ∧ R s') fun s' r => ⟨rfl, r⟩) (fun f s' ⟨e, r⟩ => by rw [e]; exact h2 s' r) fun _ _ e => e.elim
theorem St.freezeD {Λ : List (Addr × Cell)} {h : Heap} : ∀ {ΓD : List (Addr × Cell)} {g : Frz}, St w K L m g (ΓD ++ Λ) h → K.D = [] → ∃ g', g.le g' ∧ (∀ p ∈ ΓD, At w g' p.1 p.2) ∧ St w K L m g' ([] ++ Λ) h
  | [], g, S, _ => ⟨g, Frz.le.refl, fun _ h => (by simp at h), S⟩
  | (a, c) :: ΓD, g, S, hD => by
    have hf : K.h₀.objs.size ≤ a := by
      rcases (S.off (a, c) (.head _)).2.2 with z | z
      · rw [hD] at z; exact nomatch z
      · exact z
    obtain ⟨g1, l1, c1, S1⟩ := St.freeze (Γ := ΓD ++ Λ) S hf
    obtain ⟨g2, l2, c2, S2⟩ := St.freezeD S1 hD
    exact ⟨g2, l1.trans l2, fun p hp => by
      rcases List.mem_cons.mp hp with rfl | hp
      · exact c1.mono l2
      · exact c2 p hp, S2⟩
end
theorem Well.mono {w : World} {g g' : Frz} {c : Cell} (h : Well w g c) (l : g.le g') : Well w g' c := let ⟨ac, b, c, d, e, f, h1, h2, h3⟩ := h; ⟨ac, b, c, d, e, f, h1, h2.mono l, h3⟩
theorem perm8 {α : Type} (x a b c d e f g : α) : [x, e, d, c, b, a, f, g].Perm [x, a, b, c, d, e, f, g] := List.Perm.cons _ ((List.reverse_perm [a, b, c, d, e]).append_right [f, g])
theorem Stp.someR {nsz : Nat} {p p' : PS} {r : Row} {c : Int} (st : Stp nsz p r p') (h : (p.R c).isSome = true) : (p'.R c).isSome = true := by
  have put : ∀ {p1 : PS} {d : Int} {r0 : Reg}, p1.R = p.R → ((p1.set d r0).R c).isSome = true := fun {p1 d r0} e => by
    show ((if c = d then some r0 else p1.R c) : Option Reg).isSome = true
    split
    · rfl
    · rw [e]; exact h
  cases st with
  | slot _ _ hg => exact put hg.same.1
  | name _ _ hg => exact put hg.same.1
  | copy _ _ hg => exact put hg.same.1
  | add _ _ _ hg => exact put hg.same.1
  | storeK _ _ _ _ => exact h
  | storeR _ _ _ _ _ => exact h
  | load _ _ _ _ hg => exact put hg.same.1
  | move _ _ _ _ _ => exact h
  | other _ _ _ h4 =>
    rcases h4 with ⟨_, rfl⟩ | ⟨p1, hg, ⟨_, rfl⟩ | ⟨_, rfl⟩⟩
    · exact h
    · exact put (p1 := { p1 with many := p1.many + 1 }) hg.same.1
    · rw [hg.same.1]; exact h
theorem hand_nil (p : PS) : p.hand [] = p := by unfold PS.hand; simp
theorem HOk.start {w : World} {g : Frz} {a : HA} {sz : List Int} {wc : Cell} {szv : List Value} {v0 v1 g0 g1 : Addr} {t1 t2 t3 t4 t5 t6 t7 t8 : Tok} (hw : Well w g wc) (hs : At w g a.asz (.ls szv)) (hi : IntsAre szv sz) (hl : sz.length ≤ 3 ∧ 0 < sz.length)
    (h0 : At w g v0 (.tp [.int 65536 t1, .ref g0, .int 0 t2])) (h0' : At w g g0 (.tp [.str "v" t3, .int 0 t4])) (h1 : At w g v1 (.tp [.int 5 t5, .ref g1, .int 0 t6])) (h1' : At w g g1 (.tp [.str "v" t7, .int 1 t8])) :
    HOk w g a sz wc [(0, .ref v0), (1, .ref v1)] [] [] [] 2 startPS where
  well := hw
  rk := fun k => by
    unfold valueAt startPS
    dsimp only
    by_cases e : k = 0
    · subst e; rfl
    · by_cases e1 : k = 1
      · subst e1; rfl
      · have x : ¬ (0 : Int) = k := fun z => e z.symm
        have y : ¬ (1 : Int) = k := fun z => e1 z.symm
        simp [e, e1, x, y]
  rv := fun k v r hv hr => by
    unfold startPS at hr
    dsimp only at hr
    unfold valueAt at hv
    split at hr
    · rename_i e; subst e
      cases hr
      cases hv
      exact ⟨v0, t1, t2, .ref g0, rfl, h0, g0, t3, t4, rfl, h0'⟩
    · split at hr
      · rename_i e; subst e
        cases hr
        cases hv
        exact ⟨v1, t5, t6, .ref g1, rfl, h1, g1, t7, t8, rfl, h1'⟩
      · cases hr
  wd := fun kv h => nomatch h
  sn := fun v h => nomatch h
  ou := fun kv h => nomatch h
  szs := ⟨szv, hs, hi⟩
  szl := hl
  b1 := Nat.le_refl _
  b2 := Nat.zero_le _
  b3 := Nat.zero_le _
  b4 := Nat.zero_le _
theorem law_ {w : World} {A : Around} {E : Value → Shared → Prop} {s : Shared} {hp : Heap} {tk : Nat} {n : Nat} {Q : Value → Shared → Prop} {sc : Addr} {svs : List Value} {ns : List Int} (bs : Bs w hp) (room : Room A (n + 9)) (hsc : At w hp.get? sc (.ls svs)) (hI : IntsAre svs ns) (hlen : ns.length ≤ 63)
    (q : ∀ h' tk, (∀ b o, hp.get? b = some o → h'.get? b = some o) → Q (.bool true) (sh s h' tk)) : wpAny (model PG w) A (call (.ref 286) [.ref sc]) Q E (sh s hp tk) := by
  refine call_top [("script", .ref sc)] [("house", none), ("well", none)] bs.X bs.lim room (by rfl) (by kernel_rfl) (by rfl) (by kernel_rfl) (by decide) (fun _ => by walk_at "lkf") (fun _ => by rfl) ?_ rfl rfl rfl
  intro L' h₁ tk' cl' Λ' A' hCA room' S'
  obtain _ | @⟨_, _, ch, _, _, _, hCA⟩ := hCA
  obtain _ | @⟨_, _, cw, _, _, _, hCA⟩ := hCA
  cases hCA
  walk_at "ex"
  ((with_reducible refine' wpAny_Assign_Name ?_ ?kOVb); (case kOVb => first | exact rfl | kernel_rfl))
  with_reducible refine' ev_list ?_
  walk_at "ac"
  ((with_reducible refine' comp_ex ?_ ?kCb ?kCc ?kCd ?kCe); (case kCb => intro _; rfl); (case kCc | kCd => exact rfl); (case kCe => decide))
  with_reducible refine' sl_b ?_
  walk_at "nm"
  with_reducible refine' k_int ?_
  refine sl_finB S' (by walk_at "at") (by have := (intsAre_nd hI).1; lia) (by decide) ?_
  intro xs gsl h' hls hslat S'
  refine iter_ls S' (S'.fz hslat).lx ?_; intro it' h' S'
  ((with_reducible refine' new_ls ?kOWa ?_ ?kOWc); (case kOWa => assumption); (case kOWc => walk_at "sz")); intro clst h' S'
  refine comp_TF (T := fun i vs R => vs.length ≤ i → (∀ v ∈ vs, ∃ i t, v = Value.int i t ∧ 0 ≤ i ∧ i < 2147483647) → R gsl) (src_ls (by exact Room.hh (by assumption)) it' xs (svs.take (60 : Int).toNat)) S' ?hn (fun i vs R H x0 x1 => H _ fun R9 k9 => k9 x0 x1) ?j0 ?ok ?keys (fun _ => rfl) ?step ?done (by decide) rfl
  case hn =>
    rw [List.length_take]; have := (intsAre_nd hI).1; lia
  case j0 =>
    exact fun R9 k9 => k9 (Nat.le_refl _) (fun v h => by simp at h)
  case ok =>
    rintro K2 C i vs _ _ h₁ hgl S; exact (S.fz hslat).lx
  case keys =>
    intro i vs; intros; first | assumption | (apply Nat.le_of_eq; assumption) | (subst_vars; simp; done) | (rename_i h; rw [h, List.length_map, List.length_take]; exact Nat.min_le_left _ _)
  case step =>
    rintro K2 C' i' v' vs' PE PF hK2 hi' hx' XE XF hln hvs h' t' S'
    have bs : Bs w K2.B := by rw [hK2]; exact bs
    obtain ⟨ic, tc, rfl, _⟩ := intsAre_mem hI v' (List.mem_of_mem_take (List.mem_of_getElem? hx'))
    with_reducible refine' assign_Name ?_
    walk_at "st"; intro h' t' S'
    with_reducible refine' if0 ?_
    with_reducible refine' ite_t ?_
    with_reducible refine' wpAny_BinOp ?_
    ((with_reducible refine' call_ty_node ?kJa ?kJb (Nint _) Bint ?kJe ?_ ?kJg ?kJh ?kJi ?kJj ?kJk ?kJl ?kJm); (case kJa | kJb => assumption); (case kJe => decide); (case kJg | kJh | kJi | kJl | kJm => exact rfl); (case kJj | kJk => kernel_rfl))
    walk_at "evl"
    with_reducible refine' call_int_int ?_
    with_reducible refine' k_int ?_
    ((with_reducible refine' i_mod ?kMa ?_); (case kMa => lia))
    refine XE _ (by simp; lia) (fun v hv => ?_) _ _ _ S'
    rcases List.mem_append.mp hv with hv | hv
    · exact hvs v hv
    · cases List.mem_singleton.mp hv; exact ⟨_, _, rfl, Int.emod_nonneg _ (by decide), Int.emod_lt_of_pos _ (by decide)⟩
  case done =>
    rintro vs' hcl hcv h' t' hgl' S'
    rw [List.length_take] at hcl
    obtain ⟨g1, hl1, hcat, S'⟩ := S'.freezeL (S'.fresh0 rfl (List.Mem.head _))
    walk_at "ac"
    with_reducible refine' k_int ?_
    walk_at "ac"
    with_reducible refine' wpAny_BinOp ?_
    with_reducible refine' k_int ?_
    ((with_reducible refine' call_bi_node ?kQa ?kQb (Nlen _) Blen ?kQe ?_ ?kQg ?kQh ?kQi ?kQj ?kQk ?kQl ?kQm); (case kQa | kQb => assumption); (case kQe => decide); (case kQg | kQh | kQi | kQl | kQm => exact rfl); (case kQj | kQk => kernel_rfl))
    walk_at "evl"
    refine len_ls (by walk_at "at") (by have := (intsAre_nd hI).1; lia) ?_
    with_reducible refine' i_add ?_
    with_reducible refine' args_nil ?_
    ((with_reducible refine' new_ls ?kOXa ?_ ?kOXc); (case kOXa => assumption); (case kOXc => walk_at "sz")); intro aw h' S'
    walk_at "st"; intro h' t' S'
    obtain ⟨wc, hw, S'⟩ : ∃ wc, Well w g1 wc ∧ St w _ L' _ g1 ([(aw, wc)] ++ [(ch, Cell.cl none), (cw, Cell.cl (some (.ref aw)))]) _ := ⟨_, ⟨clst, 0, _, _, _, _, rfl, hcat.lx, hcv, by lia, by decide, by have := (intsAre_nd hI).1; lia, by have := (intsAre_nd hI).1; lia⟩, St.relax S' .here At.lx⟩
    walk_at "nx"
    walk_at "ex"
    ((with_reducible refine' comp_exA ?_ ?kTb ?kTc ?kTd ?kTe ?kTf); (case kTb => first | exact rfl | kernel_rfl); (case kTc => intro _; rfl); (case kTd | kTe => exact rfl); (case kTf => decide))
    ((with_reducible refine' call_ty_node ?kUa ?kUb (Nrange _) Brange ?kUe ?_ ?kUg ?kUh ?kUi ?kUj ?kUk ?kUl ?kUm); (case kUa | kUb => assumption); (case kUe => decide); (case kUg | kUh | kUi | kUl | kUm => exact rfl); (case kUj | kUk => kernel_rfl))
    walk_at "ac"
    with_reducible refine' wpAny_BinOp ?_
    with_reducible refine' k_int ?_
    ((with_reducible refine' call_def_node ?kXa ?kXb (G_law_draw _) (P_law_draw _) ?_ ?kXf ?kXg ?kXh ?kXi ?kXj ?kXk); (case kXa | kXb => assumption); (case kXf | kXg | kXj | kXk => exact rfl); (case kXh | kXi => kernel_rfl))
    walk_at "evl"
    (refine ⟨St.base (by assumption), ?_⟩)
    refine draw_ S' bs (room'.l (k := 0 + 1)) hw (by decide) ?_
    intro h' wc r0 tr0 tk' S' hw hr00 hr01
    with_reducible refine' i_add ?_
    with_reducible refine' args_nil ?_
    ((with_reducible refine' rng1 ?kBBa ?_); (case kBBa => assumption)); intro ra h' t' S'
    refine iter_rg (n := (1 + r0).toNat) S' (by walk_at "at") (by rw [range_n (by lia)]) (by rcases (show r0 = 0 ∨ r0 = 1 ∨ r0 = 2 by lia) with h | h | h <;> rw [h] <;> decide) ?_; intro it' h' S'
    ((with_reducible refine' new_ls ?kOYa ?_ ?kOYc); (case kOYa => assumption); (case kOYc => walk_at "sz")); intro asz h' S'
    refine' comp_TDA (T := fun i vs R => ∀ wc, ∀ zs, Well w g1 wc → vs.length = i → IntsAre vs zs → (∀ z ∈ zs, z = 4 ∨ z = 8 ∨ z = 12) → R g1 ([(aw, wc)])) (src_rg (by exact Room.hh (by assumption)) it' 0 1 (1 + r0).toNat) S' ?hn (fun i vs R H x0 x1 x2 x3 x4 x5 => H _ _ fun R9 k9 => k9 x0 x1 x2 x3 x4 x5) ?j0 ?ok ?keys (fun _ => rfl) ?step ?hm ?done (by decide) rfl rfl (by kernel_rfl) rfl
    case hm => walk_at "fset"
    case hn =>
      lia
    case j0 =>
      exact fun R9 k9 => k9 wc [] hw rfl .nil (fun z h => by simp at h)
    case ok => intro K2 C i vs; intros; intro _ _ _; trivial
    case keys =>
      rintro i vs wc zs _ h _ _; exact ⟨rfl, Nat.le_of_eq h⟩
    case step =>
      rintro K2 C' i' v' vs' PE PF hK2 hi' hx' XE XF wc zs hw hvl hvi hvz h' t' S'
      have bs : Bs w K2.B := by rw [hK2]; exact bs
      obtain ⟨t9, rfl⟩ := hx'
      with_reducible refine' assign_Name ?_
      walk_at "st"; intro h' t' S'
      with_reducible refine' if0 ?_
      with_reducible refine' ite_t ?_
      ((with_reducible refine' call_def_node ?kOZa ?kOZb (G_law_pick _) (P_law_pick _) ?_ ?kOZf ?kOZg ?kOZh ?kOZi ?kOZj ?kOZk); (case kOZa | kOZb => assumption); (case kOZf | kOZg | kOZj | kOZk => exact rfl); (case kOZh | kOZi => kernel_rfl))
      walk_at "ac"
      walk_at "nm"
      walk_at "ac"
      with_reducible refine' ev_list ?_
      walk_at "evl"
      ((with_reducible refine' new_ls ?kPAa ?_ ?kPAc); (case kPAa => assumption); (case kPAc => walk_at "sz")); intro ml h' S'
      with_reducible refine' args_nil ?_
      (refine ⟨St.base (by assumption), ?_⟩)
      refine pick_ (Γ := _) S' bs (room'.l (k := 0 + 2)) hw (.inr (.inl (List.Mem.head _))) (by simp) (by simp) ?_
      intro h' wc mv tk' S' hw hmv
      obtain ⟨z9, mt, rfl, hz9⟩ := intsAre_mem (ns := [4, 8, 12]) (.cons _ _ (.cons _ _ (.cons _ _ .nil))) mv hmv
      replace S' := S'.drop
      exact XE _ wc (zs ++ [z9]) hw (by simp [hvl]) (IntsAre.snoc hvi) (fun z hz => by
        rcases List.mem_append.mp hz with hz | hz
        · exact hvz z hz
        · cases List.mem_singleton.mp hz; simpa using hz9) _ _ _ S'
    case done =>
      rintro vs' wc sz hw hvl hszi hszz h' t' hgl' S'
      have hszl := (intsAre_nd hszi).1
      have hsz3 : sz.length ≤ 3 ∧ 0 < sz.length := by lia
      obtain ⟨g2, hl2, hszat, S'⟩ := S'.freezeL (S'.fresh0 rfl (List.Mem.head _))
      replace hw := hw.mono hl2
      replace S' := S'.drop
      walk_at "nx"
      walk_at "ex"
      ((with_reducible refine' wpAny_Assign_Name ?_ ?kPBb); (case kPBb => first | exact rfl | kernel_rfl))
      ((with_reducible refine' dict_S ?kBIa ?_ ?kBIc ?kBId ?kBIe ?kBIf); (case kBIa => assumption); (case kBIc | kBId => exact rfl); (case kBIe | kBIf => decide)); intro ah h' S'
      with_reducible refine' pairTrees_cons_walk ?_
      with_reducible refine' k_str ?_
      ((with_reducible refine' dict_I ?kBLa ?_ ?kBLc ?kBLd ?kBLe ?kBLf); (case kBLa => assumption); (case kBLc | kBLd => exact rfl); (case kBLe | kBLf => decide)); intro ar h' S'
      with_reducible refine' pairTrees_cons_walk ?_
      with_reducible refine' k_int ?_
      with_reducible refine' ev_tuple ?_
      walk_at "ac"
      with_reducible refine' k_int ?_
      walk_at "ac"
      with_reducible refine' ev_tuple ?_
      walk_at "evl"
      ((with_reducible refine' new_tpF ?kBRa ?_ ?kBRc); (case kBRa => assumption); (case kBRc => walk_at "sz")); intro gt0 gA h' hl_gA h_gt0 S'
      walk_at "evl"
      ((with_reducible refine' new_tpF ?kBSa ?_ ?kBSc); (case kBSa => assumption); (case kBSc => walk_at "sz")); intro v0 gB h' hl_gB h_v0 S'
      with_reducible refine' pairTrees_cons_walk ?_
      with_reducible refine' k_int ?_
      with_reducible refine' ev_tuple ?_
      walk_at "ac"
      with_reducible refine' k_int ?_
      walk_at "ac"
      with_reducible refine' ev_tuple ?_
      walk_at "evl"
      ((with_reducible refine' new_tpF ?kBYa ?_ ?kBYc); (case kBYa => assumption); (case kBYc => walk_at "sz")); intro gt1 gC h' hl_gC h_gt1 S'
      walk_at "evl"
      ((with_reducible refine' new_tpF ?kBZa ?_ ?kBZc); (case kBZa => assumption); (case kBZc => walk_at "sz")); intro v1 gD h' hl_gD h_v1 S'
      with_reducible refine' pairTrees_nil_walk ?_
      ((with_reducible refine' dspI ?kCBa ?kCBb ?kCBc ?kCBd ?_); (case kCBa => assumption); (case kCBb => walk_at "car"); (case kCBc => walk_at "upd"); (case kCBd => exact of_decide_eq_true (by kernel_rfl))); intro h' t' S'
      with_reducible refine' pairTrees_cons_walk ?_
      with_reducible refine' k_str ?_
      with_reducible refine' k_int ?_
      with_reducible refine' pairTrees_cons_walk ?_
      with_reducible refine' k_str ?_
      with_reducible refine' k_int ?_
      with_reducible refine' pairTrees_cons_walk ?_
      with_reducible refine' k_str ?_
      ((with_reducible refine' dict_0 ?kCKa ?_); (case kCKa => assumption)); intro awd h' S'
      with_reducible refine' pairTrees_nil_walk ?_
      ((with_reducible refine' dspS ?kCMa ?kCMb ?kCMc ?kCMd ?_); (case kCMa => assumption); (case kCMb => walk_at "car"); (case kCMc => walk_at "upd"); (case kCMd => exact of_decide_eq_true (by kernel_rfl))); intro h' t' S'
      walk_at "st"; intro h' t' S'
      walk_at "nx"
      walk_at "ex"
      ((with_reducible refine' wpAny_Expr_any ?_ ?kCNb ?kCNc); (case kCNb | kCNc => exact rfl))
      ((with_reducible refine' meth_node PySem.F.plainAttrs_dict PySem.F.slot_dict_update PySem.F.type_dict_update ?_ ?kCOe ?kCOf ?kCOg ?kCOh ?kCOi); (case kCOe | kCOf | kCOg | kCOh | kCOi => exact rfl))
      walk_at "nm"
      (refine ⟨_, rfl, ?_, ?_⟩; (first | exact obj_lx (by walk_at "at") | exact obj_dI (by walk_at "at") | exact obj_dS (by walk_at "at") | exact obj_st (by walk_at "at")))
      walk_at "ac"
      ((with_reducible refine' dict_S ?kCQa ?_ ?kCQc ?kCQd ?kCQe ?kCQf); (case kCQa => assumption); (case kCQc | kCQd => exact rfl); (case kCQe | kCQf => decide)); intro od h' S'
      with_reducible refine' pairTrees_cons_walk ?_
      with_reducible refine' k_str ?_
      walk_at "nm"
      with_reducible refine' pairTrees_cons_walk ?_
      with_reducible refine' k_str ?_
      with_reducible refine' ev_list ?_
      with_reducible refine' args_nil ?_
      ((with_reducible refine' new_ls ?kPCa ?_ ?kPCc); (case kPCa => assumption); (case kPCc => walk_at "sz")); intro ase h' S'
      with_reducible refine' pairTrees_cons_walk ?_
      with_reducible refine' k_str ?_
      ((with_reducible refine' dict_0 ?kCZa ?_); (case kCZa => assumption)); intro ao h' S'
      with_reducible refine' pairTrees_cons_walk ?_
      with_reducible refine' k_str ?_
      with_reducible refine' ev_list ?_
      with_reducible refine' args_nil ?_
      ((with_reducible refine' new_ls ?kPDa ?_ ?kPDc); (case kPDa => assumption); (case kPDc => walk_at "sz")); intro asp h' S'
      with_reducible refine' pairTrees_nil_walk ?_
      ((with_reducible refine' dspS ?kDFa ?kDFb ?kDFc ?kDFd ?_); (case kDFa => assumption); (case kDFb => walk_at "car"); (case kDFc => walk_at "upd"); (case kDFd => exact of_decide_eq_true (by kernel_rfl))); intro h' t' S'
      with_reducible refine' args_nil ?_
      refine upd_dS S' (by walk_at "upd") (o := od) (by walk_at "at") (by intro e; have nd := S'.nd; subst e; simp at nd) (S'.notSys bs (by walk_at "mem")) (Nat.le_of_ble_eq_true rfl) (of_decide_eq_true (by kernel_rfl)) ?_
      intro h' S'
      simp only [List.cons_append, List.nil_append] at S'
      with_reducible refine absG fun G9 k9 => ?_
      obtain ⟨a, e1, e2, e3, e4, e5, e6, e7⟩ : ∃ a : HA, aw = a.aw ∧ ah = a.ah ∧ ar = a.ar ∧ awd = a.awd ∧ asz = a.asz ∧ ase = a.ase ∧ ao = a.ao := ⟨⟨aw, ah, ar, awd, asz, ase, ao⟩, rfl, rfl, rfl, rfl, rfl, rfl, rfl⟩
      with_reducible refine k9 ?_
      subst e1 e2 e3 e4 e5 e6 e7
      replace S' := St.perm (Γ' := hs a wc [(0, .ref v0), (1, .ref v1)] 1 _ 2 _ [] [] [] asp ++ [(ch, Cell.cl (some (.ref a.ah))), (cw, Cell.cl (some (.ref a.aw)))]) (St.sub S' (.cons₂ _ (.cons _ (.cons₂ _ (.cons₂ _ (.cons _ (List.Sublist.refl _))))))) (perm8 _ _ _ _ _ _ _ _)
      have H : HOk w gD a sz wc [(0, .ref v0), (1, .ref v1)] [] [] [] 2 startPS := HOk.start (hw.mono (hl_gA.trans (hl_gB.trans (hl_gC.trans hl_gD)))) (hszat.mono (hl_gA.trans (hl_gB.trans (hl_gC.trans hl_gD)))).lx hszi hsz3 (h_v0.mono (hl_gC.trans hl_gD)) (h_gt0.mono (hl_gB.trans (hl_gC.trans hl_gD))) h_v1 (h_gt1.mono hl_gD)
      replace hszat := hszat.mono (hl_gA.trans (hl_gB.trans (hl_gC.trans hl_gD)))
      walk_at "nx"
      walk_at "ex"
      (first | ((with_reducible refine' Assign_Tuple ?_ ?kDHb ?kDHc); (case kDHb | kDHc => exact rfl)) | ((with_reducible refine' Assign_Tuple_swapped ?_ ?kDHb ?kDHc); (case kDHb | kDHc => exact rfl)))
      with_reducible refine' ev_tuple ?_
      walk_at "ac"
      with_reducible refine' wpAny_BinOp ?_
      with_reducible refine' k_int ?_
      ((with_reducible refine' call_def_node ?kDLa ?kDLb (G_law_draw _) (P_law_draw _) ?_ ?kDLf ?kDLg ?kDLh ?kDLi ?kDLj ?kDLk); (case kDLa | kDLb => assumption); (case kDLf | kDLg | kDLj | kDLk => exact rfl); (case kDLh | kDLi => kernel_rfl))
      walk_at "evl"
      (refine ⟨St.base (by assumption), ?_⟩)
      refine drawH (a := a) S' bs (room'.l (k := 0 + 1)) H.well (by decide) ?_
      intro h' wc r1 tr1 tk' S' hw' hr10 hr11
      replace H := H.withWell hw'
      with_reducible refine' i_add ?_
      walk_at "ac"
      with_reducible refine' wpAny_BinOp ?_
      with_reducible refine' k_int ?_
      ((with_reducible refine' call_def_node ?kDQa ?kDQb (G_law_draw _) (P_law_draw _) ?_ ?kDQf ?kDQg ?kDQh ?kDQi ?kDQj ?kDQk); (case kDQa | kDQb => assumption); (case kDQf | kDQg | kDQj | kDQk => exact rfl); (case kDQh | kDQi => kernel_rfl))
      walk_at "evl"
      (refine ⟨St.base (by assumption), ?_⟩)
      refine drawH (a := a) S' bs (room'.l (k := 0 + 1)) H.well (by decide) ?_
      intro h' wc r2 tr2 tk' S' hw' hr20 hr21
      replace H := H.withWell hw'
      with_reducible refine' i_add ?_
      with_reducible refine' args_nil ?_
      ((with_reducible refine' new_tp ?kPEa ?_ ?kPEc); (case kPEa => assumption); (case kPEc => walk_at "sz")); intro a' h' S'
      walk_at "unp"; intro h' S'
      (refine assignInOrder_cons ?_)
      (first | ((with_reducible refine' assign_Name ?_)) | ((with_reducible refine' bindName_ ?_)))
      walk_at "st"; intro h' t' S'
      (refine assignInOrder_cons ?_)
      (first | ((with_reducible refine' assign_Name ?_)) | ((with_reducible refine' bindName_ ?_)))
      walk_at "st"; intro h' t' S'
      (refine assignInOrder_nil ?_)
      obtain ⟨wn, hwn⟩ : ∃ wn : Nat, 1 + r1 = (wn : Int) := ⟨(1 + r1).toNat, by lia⟩
      obtain ⟨mn, hmn⟩ : ∃ mn : Nat, 3 + r2 = (mn : Int) := ⟨(3 + r2).toNat, by lia⟩
      rw [hwn, hmn] at S'
      have hwz : 1 ≤ wn ∧ wn ≤ 3 := by lia
      have hmz : 3 ≤ mn ∧ mn ≤ 11 := by lia
      have hR0 : (startPS.R 0).isSome = true := rfl
      walk_at "nx"
      walk_at "ex"
      ((with_reducible refine' comp_exA ?_ ?kDXb ?kDXc ?kDXd ?kDXe ?kDXf); (case kDXb => first | exact rfl | kernel_rfl); (case kDXc => intro _; rfl); (case kDXd | kDXe => exact rfl); (case kDXf => decide))
      ((with_reducible refine' call_ty_node ?kDYa ?kDYb (Nrange _) Brange ?kDYe ?_ ?kDYg ?kDYh ?kDYi ?kDYj ?kDYk ?kDYl ?kDYm); (case kDYa | kDYb => assumption); (case kDYe => decide); (case kDYg | kDYh | kDYi | kDYl | kDYm => exact rfl); (case kDYj | kDYk => kernel_rfl))
      walk_at "evl"
      ((with_reducible refine' rng1 ?kDZa ?_); (case kDZa => assumption)); intro ra h' t' S'
      refine iter_rg (n := mn) S' (by walk_at "at") (by rw [range_n (by lia)]; simp) (small_one (by decide) (by decide) (by lia) (by lia)) ?_; intro it' h' S'
      ((with_reducible refine' new_ls ?kPHa ?_ ?kPHc); (case kPHa => assumption); (case kPHc => walk_at "sz")); intro rowl h' S'
      refine' comp_TDA (T := fun i vs R => ∀ g₁, ∀ wc, ∀ regs, ∀ words, ∀ seen, ∀ out, ∀ tm, ∀ tn, ∀ asp, ∀ p, ∀ rs, gD.le g₁ → HOk w g₁ a sz wc regs words seen out (2 + 4 * i) p → Tr sz.length startPS rs p → RowsOk w g₁ vs rs → vs.length = i → (p.R 0).isSome = true → R g₁ (hs a wc regs p.many tm p.next tn words seen out asp)) (src_rg (by exact Room.hh (by assumption)) it' 0 1 mn) S' ?hn (fun i vs R H x0 x1 x2 x3 x4 x5 x6 x7 x8 x9 x10 x11 x12 x13 x14 x15 xg => H _ _ fun R9 k9 => k9 x0 x1 x2 x3 x4 x5 x6 x7 x8 x9 x10 x11 x12 x13 x14 x15 xg) ?j0 ?ok ?keys (fun _ => rfl) ?step ?hm ?done (by decide) rfl rfl (by kernel_rfl) rfl
      case hm => walk_at "fset"
      case hn =>
        lia
      case j0 =>
        exact fun R9 k9 => k9 _ _ _ _ _ _ _ _ _ startPS [] Frz.le.refl H .nil .nil rfl hR0
      case ok => intro K2 C i vs; intros; intro _ _ _; trivial
      case keys =>
        rintro i vs g₁ _ _ _ _ _ _ _ _ _ _ _ _ _ _ h _; exact ⟨rfl, Nat.le_of_eq h⟩
      case step =>
        rintro K2 C' i' v' vs' PE PF hK2 hi' hx' XE XF g' wc regs words seen out tm tn asp p rs hle H htr hrs hvl hR0 h' t' S'
        have bs : Bs w K2.B := by rw [hK2]; exact bs
        obtain ⟨t9, rfl⟩ := hx'
        with_reducible refine' assign_Name ?_
        walk_at "st"; intro h' t' S'
        with_reducible refine' if0 ?_
        with_reducible refine' ite_t ?_
        ((with_reducible refine' call_def_node ?kEDa ?kEDb (G_law_done _) (P_law_done _) ?_ ?kEDf ?kEDg ?kEDh ?kEDi ?kEDj ?kEDk); (case kEDa | kEDb => assumption); (case kEDf | kEDg | kEDj | kEDk => exact rfl); (case kEDh | kEDi => kernel_rfl))
        walk_at "evl"
        (refine ⟨St.base (by assumption), ?_⟩)
        refine done_ S' bs H (by lia) ⟨0, hR0⟩ (room'.l (k := 0 + 7)) ?_
        intro g2 h' wc' regs' tm' tn' words' seen' out' asp' vr row p' tk' hl2 hst hrow S' HH
        exact XE _ _ wc' regs' words' seen' out' tm' tn' asp' p' (rs ++ [row]) (hle.trans hl2) (HH.up (by lia)) (htr.snoc hst) ((hrs.mono hl2).snoc hrow) (by simp [hvl]) (hst.someR hR0) _ _ _ S'
      case done =>
        rintro vs' g' wc regs words seen out tm tn asp p rs hle H htr hrs hvl hR0 h' t' hgl' S'
        have hrsl := hrs.len
        obtain ⟨gE, hlE, hrowl, S'⟩ := S'.freezeL (S'.fresh0 rfl (List.Mem.head _))
        replace H := H.mono hlE
        replace hrs := hrs.mono hlE
        replace hszat := hszat.mono (hle.trans hlE)
        replace S' := S'.drop
        walk_at "nx"
        walk_at "ex"
        ((with_reducible refine' wpAny_Assign_Name ?_ ?kPIb); (case kPIb => first | exact rfl | kernel_rfl))
        with_reducible refine' ev_list ?_
        with_reducible refine' args_nil ?_
        ((with_reducible refine' new_ls ?kPJa ?_ ?kPJc); (case kPJa => assumption); (case kPJc => walk_at "sz")); intro el0 h' S'
        walk_at "st"; intro h' t' S'
        obtain ⟨tw9, S'⟩ : ∃ tw9, St w _ L' [("ending", .ref el0), ("rows", .ref rowl), ("ways", .int (wn : Int) tw9), ("sizes", .ref a.asz)] gE (hs a wc regs p.many tm p.next tn words seen out asp ++ (el0, Cell.lx []) :: [(ch, Cell.cl (some (.ref a.ah))), (cw, Cell.cl (some (.ref a.aw)))]) _ := ⟨_, S'.weak (by walk_at "lsub")⟩
        have hb1 := H.b1
        have hb3 := H.b3
        walk_at "nx"
        walk_at "ex"
        refine cutS (R := fun s' => ∃ g2 h' tk wc out evs el cs, s' = sh s h' tk ∧ gE.le g2 ∧ St w ⟨hp, hp, [], fun _ => none⟩ L' [("ending", .ref el), ("rows", .ref rowl), ("ways", .int (wn : Int) tw9), ("sizes", .ref a.asz)] g2 (hs a wc regs p.many tm p.next tn words seen out asp ++ [(ch, Cell.cl (some (.ref a.ah))), (cw, Cell.cl (some (.ref a.aw)))]) h' ∧ HOk w g2 a sz wc regs words seen out 60 (p.hand cs) ∧ At w g2 el (.lx evs) ∧ ArgsOk w g2 evs (eargsOf cs) ∧ cs.length ≤ 1 ∧ ∀ c ∈ cs, (p.R c).isSome = true) ?cutA ?cutB
        case cutA =>
          intro P9 hR9
          with_reducible refine' wpAny_If ?_
          ((with_reducible refine' wpAny_isTrue_Compare1 ?_ ?kPKb); (case kPKb => with_unfolding_all rfl))
          ((with_reducible refine' call_def_node ?kEIa ?kEIb (G_law_draw _) (P_law_draw _) ?_ ?kEIf ?kEIg ?kEIh ?kEIi ?kEIj ?kEIk); (case kEIa | kEIb => assumption); (case kEIf | kEIg | kEIj | kEIk => exact rfl); (case kEIh | kEIi => kernel_rfl))
          walk_at "evl"
          (refine ⟨St.base (by assumption), ?_⟩)
          refine drawH (a := a) S' bs (room'.l (k := 0 + 1)) H.well (by decide) ?_
          intro h' wc r3 tr3 tk' S' hw' hr30 hr31
          replace H := H.withWell hw'
          with_reducible refine' k_int ?_
          (first | ((with_reducible refine' PySem.P.gt_int ?_)))
          with_reducible refine' wpAny_truthy_bool ?_
          refine ite_b (fun hb => ?_) (fun hb => ?_)
          ·
            replace hb := of_decide_eq_true hb
            walk_at "ex"
            ((with_reducible refine' wpAny_Assign_Name ?_ ?kPMb); (case kPMb => first | exact rfl | kernel_rfl))
            with_reducible refine' ev_list ?_
            walk_at "ac"
            with_reducible refine' ev_tuple ?_
            walk_at "ac"
            with_reducible refine' k_str ?_
            walk_at "ac"
            ((with_reducible refine' call_def_node ?kPNa ?kPNb (G_law_pick _) (P_law_pick _) ?_ ?kPNf ?kPNg ?kPNh ?kPNi ?kPNj ?kPNk); (case kPNa | kPNb => assumption); (case kPNf | kPNg | kPNj | kPNk => exact rfl); (case kPNh | kPNi => kernel_rfl))
            walk_at "ac"
            walk_at "nm"
            walk_at "ac"
            ((with_reducible refine' call_bi_node ?kEPa ?kEPb (Nsorted _) Bsorted ?kEPe ?_ ?kEPg ?kEPh ?kEPi ?kEPj ?kEPk ?kEPl ?kEPm); (case kEPa | kEPb => assumption); (case kEPe => decide); (case kEPg | kEPh | kEPi | kEPl | kEPm => exact rfl); (case kEPj | kEPk => kernel_rfl))
            walk_at "evl"
            ((with_reducible refine' sorted_dI ?kEQa ?kEQb ?kEQc ?kEQd ?kEQe ?_); (case kEQa => assumption); (case kEQb => walk_at "at"); (case kEQc => walk_at "ns"); (case kEQd => exact Room.hh (by assumption)); (case kEQe => lia)); intro asrt h' t' vs' S' hl' hv' hs'
            with_reducible refine' args_nil ?_
            (refine ⟨St.base (by assumption), ?_⟩)
            have hvz : 0 < vs'.length := by
              rw [hl']
              have hk0 := H.rk 0
              rw [hR0] at hk0
              cases regs with
              | nil => exact absurd hk0 (by simp [valueAt])
              | cons x r => simp
            refine pickH (a := a) S' bs (room'.l (k := 0 + 2)) H.well (.inr (.inl (List.Mem.head _))) hvz (by lia) ?_
            intro h' wc v9 tk' S' hw' hv9
            replace H := H.withWell hw'
            obtain ⟨k9, tk9, rfl, hk9⟩ := hv' _ hv9
            rw [H.rk] at hk9
            with_reducible refine' args_nil ?_
            ((with_reducible refine' new_tpF ?kEUa ?_ ?kEUc); (case kEUa => assumption); (case kEUc => walk_at "sz")); intro et gF h' hlF het S'
            replace H := H.mono hlF
            with_reducible refine' args_nil ?_
            ((with_reducible refine' new_ls ?kPOa ?_ ?kPOc); (case kPOa => assumption); (case kPOc => walk_at "sz")); intro el h' S'
            walk_at "st"; intro h' t' S'
            walk_at "nx"
            walk_at "ex"
            ((with_reducible refine' wpAny_Expr_any ?_ ?kEWb ?kEWc); (case kEWb | kEWc => exact rfl))
            ((with_reducible refine' call_def_node ?kEXa ?kEXb (G_law_handed _) (P_law_handed _) ?_ ?kEXf ?kEXg ?kEXh ?kEXi ?kEXj ?kEXk); (case kEXa | kEXb => assumption); (case kEXf | kEXg | kEXj | kEXk => exact rfl); (case kEXh | kEXi => kernel_rfl))
            walk_at "ac"
            walk_at "nm"
            walk_at "ac"
            with_reducible refine' ev_list ?_
            walk_at "evl"
            ((with_reducible refine' new_ls ?kPPa ?_ ?kPPc); (case kPPa => assumption); (case kPPc => walk_at "sz")); intro hl9 h' S'
            with_reducible refine' args_nil ?_
            (refine ⟨St.base (by assumption), ?_⟩)
            refine handed_ (a := a) S' bs H (by lia) (room'.l (k := 0 + 1)) (.inr (.inl (List.Mem.head _))) (cs := [k9]) (.cons _ _ .nil) (fun c hc => by cases List.mem_singleton.mp hc; exact hk9) (by simp) ?_
            intro h' out' tk' S' H
            walk_at "nx"
            walk_at "exn"
            replace S' := S'.drop
            obtain ⟨gG, hlG, hel, S'⟩ := S'.freezeL (S'.fresh0 rfl (List.Mem.head _))
            replace S' := S'.drop.drop
            exact hR9 _ ⟨gG, _, _, wc, out', [.ref et], el, [k9], rfl, hlF.trans hlG, S', (H.mono hlG).up (by simp; lia), hel, .cons ⟨et, _, _, rfl, het.mono hlG⟩ .nil, Nat.le_refl _, fun c hc => by cases List.mem_singleton.mp hc; exact hk9⟩
          ·
            replace hb := of_decide_eq_false hb
            walk_at "exn"
            obtain ⟨gF, hlF, hel, S'⟩ := S'.freezeL (S'.fresh0 rfl (List.Mem.head _))
            exact hR9 _ ⟨gF, _, _, wc, out, [], el0, [], rfl, hlF, S', by rw [hand_nil]; exact (H.mono hlF).up (by lia), hel, .nil, Nat.zero_le _, fun c hc => by cases hc⟩
        case cutB =>
          intro s9 hR9
          with_reducible refine absG fun G9 k9 => ?_
          obtain ⟨gH, h', tk', wc, out, evs, el, cs, rfl, hlH, S', H, hel, hea, hcs, hcR⟩ := hR9
          with_reducible refine k9 ?_
          replace hrs := hrs.mono hlH
          replace hrowl := hrowl.mono hlH
          replace hszat := hszat.mono hlH
          walk_at "nx"
          walk_at "ex"
          ((with_reducible refine' wpAny_Assign_Name ?_ ?kPQb); (case kPQb => first | exact rfl | kernel_rfl))
          ((with_reducible refine' call_def_node ?kFBa ?kFBb (G_law_function _) (P_law_function _) ?_ ?kFBf ?kFBg ?kFBh ?kFBi ?kFBj ?kFBk); (case kFBa | kFBb => assumption); (case kFBf | kFBg | kFBj | kFBk => exact rfl); (case kFBh | kFBi => kernel_rfl))
          walk_at "evl"
          (refine ⟨St.base (by assumption), ?_⟩)
          refine function_ (a := a) (p := p.hand cs) (Γ := _) S' bs H (room'.l (k := 0 + 5)) hrowl hel hea hwz (by lia) ?_
          intro gI h' vf tk' hlI hfo S'
          replace S' : St w _ L' _ gI (hs a wc regs p.many tm p.next tn words seen out asp ++ [(ch, Cell.cl (some (.ref a.ah))), (cw, Cell.cl (some (.ref a.aw)))]) _ := S'
          walk_at "st"; intro h' t' S'
          have hFV : FV w gI vf sz rs (eargsOf cs) wn := hfo.view (hrs.mono hlI) hsz3.1 hwz
          with_reducible refine absG fun G9 k9 => ?_
          obtain ⟨gJ, hlJ, hfz, S'⟩ := S'.freezeD rfl
          have hah := hfz (a.ah, _) (by walk_at "memc")
          have hase := hfz (a.ase, _) (by walk_at "memc")
          have hao := hfz (a.ao, _) (by walk_at "memc")
          have hlIJ := hlI.trans hlJ
          replace hFV := hFV.mono hlJ
          replace hrowl := hrowl.mono hlIJ
          replace hrs := hrs.mono hlIJ
          replace hel := hel.mono hlIJ
          replace hea := hea.mono hlIJ
          replace hszat := hszat.mono hlIJ
          replace H := H.mono hlIJ
          have hsn : ∀ v ∈ seen, ∃ r ∈ p.sv, AccOk w gJ v r := H.sn
          have hou := H.ou
          have hb3 := H.b3
          have hrl12 : rs.length ≤ 12 := by lia
          obtain ⟨hrow, hF1, hdue, hsvall⟩ := plain (cs := cs) htr hrl12 hsz3.1 rfl (fun z hz => by rcases hszz z hz with e | e | e <;> lia)
          with_reducible refine k9 ?_
          walk_at "nx"
          walk_at "ex"
          ((with_reducible refine' wpAny_Assign_Name ?_ ?kPRb); (case kPRb => first | exact rfl | kernel_rfl))
          ((with_reducible refine' call_def_node ?kFDa ?kFDb (G_law_singles _) (P_law_singles _) ?_ ?kFDf ?kFDg ?kFDh ?kFDi ?kFDj ?kFDk); (case kFDa | kFDb => assumption); (case kFDf | kFDg | kFDj | kFDk => exact rfl); (case kFDh | kFDi => kernel_rfl))
          walk_at "evl"
          (refine ⟨St.base (by assumption), ?_⟩)
          refine singles_ (Γ := _) S' bs (room'.l (k := 0 + 1)) hrowl hrs (by lia) ?_
          intro gK h' od okv tk' hlK hod hok hokz S'
          replace hFV := hFV.mono hlK
          replace hrowl := hrowl.mono hlK
          replace hrs := hrs.mono hlK
          replace hel := hel.mono hlK
          replace hea := hea.mono hlK
          replace hah := hah.mono hlK
          replace hase := hase.mono hlK
          replace hao := hao.mono hlK
          replace hszat := hszat.mono hlK
          replace hsn : ∀ v ∈ seen, ∃ r ∈ p.sv, AccOk w gK v r := fun v hv => let ⟨r, hr, ha⟩ := hsn v hv; ⟨r, hr, ha.mono hlK⟩
          walk_at "st"; intro h' t' S'
          walk_at "nx"
          walk_at "ex"
          ((with_reducible refine' wpAny_Assign_Name ?_ ?kPSb); (case kPSb => first | exact rfl | kernel_rfl))
          ((with_reducible refine' call_def_node ?kFFa ?kFFb (G_law_holders _) (P_law_holders _) ?_ ?kFFf ?kFFg ?kFFh ?kFFi ?kFFj ?kFFk); (case kFFa | kFFb => assumption); (case kFFf | kFFg | kFFj | kFFk => exact rfl); (case kFFh | kFFi => kernel_rfl))
          walk_at "evl"
          (refine ⟨St.base (by assumption), ?_⟩)
          refine holders_ (Γ := _) S' bs (room'.l (k := 0 + 1)) hrowl hrs (by lia) hod hok (fun r hr hc => by
            rcases hc with hc | hc
            · obtain ⟨e, h⟩ := (hrow r hr).sh.cp hc; rw [h]; exact List.cons_ne_nil _ _
            · obtain ⟨e, k, h⟩ := (hrow r hr).sh.ad hc; rw [h]; exact List.cons_ne_nil _ _) ?_
          intro gL h' hdd hkv tk' hlL hhd hhk hhz S'
          replace hFV := hFV.mono hlL
          replace hrowl := hrowl.mono hlL
          replace hrs := hrs.mono hlL
          replace hel := hel.mono hlL
          replace hea := hea.mono hlL
          replace hah := hah.mono hlL
          replace hase := hase.mono hlL
          replace hao := hao.mono hlL
          replace hszat := hszat.mono hlL
          replace hod := hod.mono hlL
          replace hsn : ∀ v ∈ seen, ∃ r ∈ p.sv, AccOk w gL v r := fun v hv => let ⟨r, hr, ha⟩ := hsn v hv; ⟨r, hr, ha.mono hlL⟩
          walk_at "st"; intro h' t' S'
          walk_at "nx"
          walk_at "ex"
          ((with_reducible refine' wpAny_Assign_Name ?_ ?kPTb); (case kPTb => first | exact rfl | kernel_rfl))
          ((with_reducible refine' call_def_node ?kFHa ?kFHb (G_law_private _) (P_law_private _) ?_ ?kFHf ?kFHg ?kFHh ?kFHi ?kFHj ?kFHk); (case kFHa | kFHb => assumption); (case kFHf | kFHg | kFHj | kFHk => exact rfl); (case kFHh | kFHi => kernel_rfl))
          walk_at "ac"
          walk_at "nm"
          walk_at "ac"
          walk_at "nm"
          walk_at "ac"
          walk_at "nm"
          walk_at "ac"
          walk_at "nm"
          walk_at "ac"
          ((with_reducible refine' call_bi_node ?kFIa ?kFIb (Nlen _) Blen ?kFIe ?_ ?kFIg ?kFIh ?kFIi ?kFIj ?kFIk ?kFIl ?kFIm); (case kFIa | kFIb => assumption); (case kFIe => decide); (case kFIg | kFIh | kFIi | kFIl | kFIm => exact rfl); (case kFIj | kFIk => kernel_rfl))
          walk_at "evl"
          refine len_ls (S'.fz hszat).lx (by lia) ?_
          with_reducible refine' args_nil ?_
          (refine ⟨St.base (by assumption), ?_⟩)
          refine private_ (Γ := _) S' bs (room'.l (k := 0 + 4)) hrowl hrs (by lia) hel hea hod hok hhd hhk (fun r hr => (hrow r hr).sh) (by simp [eargsOf]; lia) (by lia) ?_
          intro gM h' dd dkv tk' hlM hdu hdk hdz S'
          rw [hszl] at hdk
          replace hFV := hFV.mono hlM
          replace hrowl := hrowl.mono hlM
          replace hrs := hrs.mono hlM
          replace hel := hel.mono hlM
          replace hea := hea.mono hlM
          replace hah := hah.mono hlM
          replace hase := hase.mono hlM
          replace hao := hao.mono hlM
          replace hszat := hszat.mono hlM
          replace hod := hod.mono hlM
          replace hhd := hhd.mono hlM
          replace hsn : ∀ v ∈ seen, ∃ r ∈ p.sv, AccOk w gM v r := fun v hv => let ⟨r, hr, ha⟩ := hsn v hv; ⟨r, hr, ha.mono hlM⟩
          walk_at "st"; intro h' t' S'
          walk_at "nx"
          walk_at "ex"
          with_reducible refine' wpAny_If ?_
          with_reducible refine' isTrue_or ?_
          ((with_reducible refine' wpAny_isTrue_Compare1 ?_ ?kPUb); (case kPUb => with_unfolding_all rfl))
          ((with_reducible refine' call_def_node ?kFNa ?kFNb (Gset_once _) (Pset_once _) ?_ ?kFNf ?kFNg ?kFNh ?kFNi ?kFNj ?kFNk); (case kFNa | kFNb => assumption); (case kFNf | kFNg | kFNj | kFNk => exact rfl); (case kFNh | kFNi => kernel_rfl))
          walk_at "evl"
          (refine ⟨St.base (by assumption), ?_⟩)
          refine once_ (Γ := _) S' bs (room'.l (k := 0 + 1)) hFV hrl12 ?_
          intro gN h' od2 okv2 tk' hlN hod2 hok2 hoz2 S'
          replace hFV := hFV.mono hlN
          replace hrowl := hrowl.mono hlN
          replace hrs := hrs.mono hlN
          replace hel := hel.mono hlN
          replace hea := hea.mono hlN
          replace hah := hah.mono hlN
          replace hase := hase.mono hlN
          replace hao := hao.mono hlN
          replace hszat := hszat.mono hlN
          replace hod := hod.mono hlN
          replace hhd := hhd.mono hlN
          replace hdu := hdu.mono hlN
          replace hsn : ∀ v ∈ seen, ∃ r ∈ p.sv, AccOk w gN v r := fun v hv => let ⟨r, hr, ha⟩ := hsn v hv; ⟨r, hr, ha.mono hlN⟩
          walk_at "nm"
          refine set_ne (S'.fz hod2) (S'.fz hod) (S'.notSysG bs hod2) (S'.notSysG bs hod) room' hok2 hok ?_
          with_reducible refine' wpAny_truthy_bool ?_
          with_reducible refine' ite_f ?_
          with_reducible refine' isTrue_or ?_
          ((with_reducible refine' wpAny_isTrue_Compare1 ?_ ?kPWb); (case kPWb => with_unfolding_all rfl))
          ((with_reducible refine' call_def_node ?kFRa ?kFRb (Gholders_of_slots _) (Pholders_of_slots _) ?_ ?kFRf ?kFRg ?kFRh ?kFRi ?kFRj ?kFRk); (case kFRa | kFRb => assumption); (case kFRf | kFRg | kFRj | kFRk => exact rfl); (case kFRh | kFRi => kernel_rfl))
          walk_at "evl"
          (refine ⟨St.base (by assumption), ?_⟩)
          refine hold_ (Γ := _) S' bs (room'.l (k := 0 + 4)) hFV hrl12 hod hok (fun r hr => (hrow r hr).sh) ?_
          intro gO h' hd2 hkv2 tk' hlO hhd2 hhk2 hhz2 S'
          replace hFV := hFV.mono hlO
          replace hrowl := hrowl.mono hlO
          replace hrs := hrs.mono hlO
          replace hel := hel.mono hlO
          replace hea := hea.mono hlO
          replace hah := hah.mono hlO
          replace hase := hase.mono hlO
          replace hao := hao.mono hlO
          replace hszat := hszat.mono hlO
          replace hod := hod.mono hlO
          replace hhd := hhd.mono hlO
          replace hdu := hdu.mono hlO
          replace hsn : ∀ v ∈ seen, ∃ r ∈ p.sv, AccOk w gO v r := fun v hv => let ⟨r, hr, ha⟩ := hsn v hv; ⟨r, hr, ha.mono hlO⟩
          walk_at "nm"
          refine map_ne (S'.fz hhd2) (S'.fz hhd) (S'.notSysG bs hhd2) (S'.notSysG bs hhd) room' hhk2 hhk ?_
          with_reducible refine' wpAny_truthy_bool ?_
          with_reducible refine' ite_f ?_
          with_reducible refine' isTrue_or_nil ?_
          with_reducible refine' ite_f ?_
          walk_at "exn"
          walk_at "nx"
          walk_at "ex"
          ((with_reducible refine' wpAny_Assign_Name ?_ ?kPYb); (case kPYb => first | exact rfl | kernel_rfl))
          ((with_reducible refine' call_def_node ?kFWa ?kFWb (Gprivate_slots _) (Pprivate_slots _) ?_ ?kFWf ?kFWg ?kFWh ?kFWi ?kFWj ?kFWk); (case kFWa | kFWb => assumption); (case kFWf | kFWg | kFWj | kFWk => exact rfl); (case kFWh | kFWi => kernel_rfl))
          walk_at "evl"
          (refine ⟨St.base (by assumption), ?_⟩)
          refine priv_ (Γ := _) S' bs (room'.l (k := 0 + 5)) hFV hrl12 hod hok (fun r hr => (hrow r hr).sh) (fun r hr => (hrow r hr).s2) (fun r hr => (hrow r hr).mv) hF1 hsz3.2 ?_
          intro gP h' pd pkv tk' hlP hpd hpk hpz S'
          replace hFV := hFV.mono hlP
          replace hrowl := hrowl.mono hlP
          replace hrs := hrs.mono hlP
          replace hel := hel.mono hlP
          replace hea := hea.mono hlP
          replace hah := hah.mono hlP
          replace hase := hase.mono hlP
          replace hao := hao.mono hlP
          replace hszat := hszat.mono hlP
          replace hod := hod.mono hlP
          replace hdu := hdu.mono hlP
          replace hsn : ∀ v ∈ seen, ∃ r ∈ p.sv, AccOk w gP v r := fun v hv => let ⟨r, hr, ha⟩ := hsn v hv; ⟨r, hr, ha.mono hlP⟩
          with_reducible refine absG fun G9 k9 => ?_
          obtain ⟨ep, hpe⟩ := hpd.dIe
          have hpnd : (pkv.map (·.1)).Nodup := (S'.fz hpd).dInd
          obtain ⟨x, d, pl, sl, bl, nm, t1, t2, t3, bvs, rfl, hx1, hx2, hpl, hsl, hbl, hbn, hwz', hbk⟩ := hFV
          with_reducible refine k9 ?_
          walk_at "st"; intro h' t' S'
          walk_at "nx"
          walk_at "ex"
          with_reducible refine' wpAny_If ?_
          with_reducible refine' isTrue_or ?_
          ((with_reducible refine' wpAny_isTrue_Compare1 ?_ ?kPZb); (case kPZb => with_unfolding_all rfl))
          walk_at "nm"
          walk_at "nm"
          refine set_ne (S'.fz hpd) (S'.fz hdu) (S'.notSysG bs hpd) (S'.notSysG bs hdu) room' hpk hdk ?_
          with_reducible refine' wpAny_truthy_bool ?_
          with_reducible refine' ite_f ?_
          with_reducible refine' isTrue_or ?_
          ((with_reducible refine' wpAny_isTrue_Compare1 ?_ ?kQBb); (case kQBb => with_unfolding_all rfl))
          ((with_reducible refine' comp_ex ?_ ?kGCb ?kGCc ?kGCd ?kGCe); (case kGCb => intro _; rfl); (case kGCc | kGCd => exact rfl); (case kGCe => decide))
          walk_at "nm"
          refine iter_dI S' (S'.fz hpe) (S'.notSysG bs hpd) ?_; intro it' h' hne' S'
          ((with_reducible refine' new_ls ?kQCa ?_ ?kQCc); (case kQCa => assumption); (case kQCc => walk_at "sz")); intro cl9 h' S'
          refine comp_TF (T := fun i vs R => vs = [] → R gP) (src_ky (by exact Room.hh (by assumption)) it' pd hne' pkv ep) S' ?hn (fun i vs R H x0 => H _ fun R9 k9 => k9 x0) ?j0 ?ok ?keys (fun _ => rfl) ?step ?done (by decide) rfl
          case hn =>
            lia
          case j0 =>
            exact fun R9 k9 => k9 rfl
          case ok =>
            rintro K2 C i vs _ h₁ hgl S; exact S.fz hpe
          case keys =>
            intro i vs; intros; first | assumption | (apply Nat.le_of_eq; assumption) | (subst_vars; simp; done) | (rename_i h; rw [h, List.length_map, List.length_take]; exact Nat.min_le_left _ _)
          case step =>
            rintro K2 C' i' v' vs' PE PF hK2 hi' hx' XE XF rfl h' t' S'
            have bs : Bs w K2.B := by rw [hK2]; exact bs
            with_reducible refine absG fun G9 k9 => ?_
            obtain ⟨k0, x0, t0, hk0, rfl⟩ := hx'
            with_reducible refine k9 ?_
            with_reducible refine' assign_Name ?_
            walk_at "st"; intro h' t' S'
            with_reducible refine' if1 ?_
            ((with_reducible refine' wpAny_isTrue_Compare1 ?_ ?kQDb); (case kQDb => with_unfolding_all rfl))
            walk_at "nm"
            walk_at "ev"
            ((with_reducible refine' in_dI ?kGFa ?kGFb ?_); (case kGFa => walk_at "at"); (case kGFb => walk_at "ns"))
            with_reducible refine' wpAny_truthy_bool ?_
            refine ite_b (fun hb => ?_) (fun hb => ?_)
            ·
              skip
              have h1 : dueOf (OnceI (goals rs)) (holdersOf (OnceI (goals rs)) rs) rs (eargsOf cs) sz.length k0 = true := by rw [← hpk.1, valueAt_of_get hpnd hk0]; rfl
              obtain ⟨kv, hkv, e⟩ := (mem_valueAt _ _).mp hb
              exact (hdue k0 h1 (e ▸ hou kv hkv)).elim
            ·
              skip
              skip
              exact XF rfl _ _ _ S'
          case done =>
            rintro vs' rfl h' t' hgl' S'
            with_reducible refine' ev_list ?_
            with_reducible refine' args_nil ?_
            ((with_reducible refine' new_ls ?kQFa ?_ ?kQFc); (case kQFa => assumption); (case kQFc => walk_at "sz")); intro e9 h' S'
            refine ls_neE (by walk_at "at") (by walk_at "at") room' ?_
            with_reducible refine' wpAny_truthy_bool ?_
            with_reducible refine' ite_f ?_
            with_reducible refine' isTrue_or_nil ?_
            with_reducible refine' ite_f ?_
            walk_at "exn"
            walk_at "nx"
            walk_at "ex"
            ((with_reducible refine' for_ex ?_ ?kGLb); (case kGLb => intro _; rfl))
            ((with_reducible refine' call_ty_node ?kGMa ?kGMb (Nrange _) Brange ?kGMe ?_ ?kGMg ?kGMh ?kGMi ?kGMj ?kGMk ?kGMl ?kGMm); (case kGMa | kGMb => assumption); (case kGMe => decide); (case kGMg | kGMh | kGMi | kGMl | kGMm => exact rfl); (case kGMj | kGMk => kernel_rfl))
            walk_at "ac"
            ((with_reducible refine' call_bi_node ?kGNa ?kGNb (Nlen _) Blen ?kGNe ?_ ?kGNg ?kGNh ?kGNi ?kGNj ?kGNk ?kGNl ?kGNm); (case kGNa | kGNb => assumption); (case kGNe => decide); (case kGNg | kGNh | kGNi | kGNl | kGNm => exact rfl); (case kGNj | kGNk => kernel_rfl))
            walk_at "evl"
            refine len_ls (S'.fz hase).lx (by lia) ?_
            with_reducible refine' args_nil ?_
            ((with_reducible refine' rng1 ?kGPa ?_); (case kGPa => assumption)); intro ra h' t' S'
            refine iter_rg (n := seen.length) S' (by walk_at "at") (by rw [range_n (by lia)]; simp) (small_one (by decide) (by decide) (by lia) (by lia)) ?_; intro it' h' S'
            refine for_fix (J := fun i g₁ ΓD₁ => gP = g₁ ∧ ΓD₁ = []) (src_rg (by exact Room.hh (by assumption)) it' 0 1 seen.length) S' ?j0 ?ok ?hg ?step ?done
            case j0 =>
              exact ⟨rfl, rfl⟩
            case ok => intros; trivial
            case hg => first | exact .inl ⟨_, _, rfl⟩ | exact .inr ⟨_, _, _, rfl, by walk_at "hgt"⟩
            case step =>
              intro i9 v' g' ΓD' h' t' P' hi' hx' hj' X' S'
              obtain ⟨rfl, rfl⟩ := hj'
              obtain ⟨t9, rfl⟩ := hx'
              with_reducible refine' assign_Name ?_
              walk_at "st"; intro h' t' S'
              walk_at "ex"
              ((with_reducible refine' for_ex ?_ ?kGRb); (case kGRb => intro _; rfl))
              ((with_reducible refine' call_ty_node ?kGSa ?kGSb (Nrange _) Brange ?kGSe ?_ ?kGSg ?kGSh ?kGSi ?kGSj ?kGSk ?kGSl ?kGSm); (case kGSa | kGSb => assumption); (case kGSe => decide); (case kGSg | kGSh | kGSi | kGSl | kGSm => exact rfl); (case kGSj | kGSk => kernel_rfl))
              walk_at "evl"
              ((with_reducible refine' rng1 ?kGTa ?_); (case kGTa => assumption)); intro rb h' t' S'
              refine iter_rg (n := i9) S' (by walk_at "at") (by rw [range_n (by lia)]; lia) (small_one (by decide) (by decide) (by lia) (by lia)) ?_; intro it2 h' S'
              refine for_fix (J := fun i g₁ ΓD₁ => gP = g₁ ∧ ΓD₁ = []) (src_rg (by exact Room.hh (by assumption)) it2 0 1 i9) S' ?j0B ?okB ?hgB ?stepB ?doneB
              case j0B =>
                exact ⟨rfl, rfl⟩
              case okB => intros; trivial
              case hgB => first | exact .inl ⟨_, _, rfl⟩ | exact .inr ⟨_, _, _, rfl, by walk_at "hgt"⟩
              case stepB =>
                intro j v' g' ΓD' h' t' P' hi' hx' hj' X' S'
                obtain ⟨rfl, rfl⟩ := hj'
                obtain ⟨t8, rfl⟩ := hx'
                with_reducible refine' assign_Name ?_
                walk_at "st"; intro h' t' S'
                walk_at "ex"
                with_reducible refine' wpAny_If ?_
                with_reducible refine' isTrue_not ?_
                ((with_reducible refine' isTrue_plain ?_ ?kGXb); (case kGXb => exact rfl))
                ((with_reducible refine' call_def_node ?kGYa ?kGYb (G_law_meets _) (P_law_meets _) ?_ ?kGYf ?kGYg ?kGYh ?kGYi ?kGYj ?kGYk); (case kGYa | kGYb => assumption); (case kGYf | kGYg | kGYj | kGYk => exact rfl); (case kGYh | kGYi => kernel_rfl))
                walk_at "ac"
                with_reducible refine' Subscript_ ?_
                walk_at "ev"
                walk_at "nm"
                with_reducible refine absG fun G9 k9 => ?_
                obtain ⟨v_b, hv_b⟩ : ∃ v, seen[j]? = some v := ⟨_, List.getElem?_eq_getElem (by lia)⟩
                obtain ⟨r_b, hr_b, f_b, b_b, u1_b, u2_b, u3_b, gv_b, rfl, hf_b, hb_b, ga_b, w1_b, w2_b, rfl, hg_b⟩ := hsn v_b (List.mem_of_getElem? hv_b)
                with_reducible refine k9 ?_
                refine sub_ls (S'.fz hase).lx (by lia) (by rw [show ((0 : Int) + (j : Int) * 1).toNat = j by lia]; exact hv_b) ?_ (by lia)
                walk_at "ac"
                with_reducible refine' Subscript_ ?_
                walk_at "ev"
                walk_at "nm"
                with_reducible refine absG fun G9 k9 => ?_
                obtain ⟨v_c, hv_c⟩ : ∃ v, seen[i9]? = some v := ⟨_, List.getElem?_eq_getElem (by lia)⟩
                obtain ⟨r_c, hr_c, f_c, b_c, u1_c, u2_c, u3_c, gv_c, rfl, hf_c, hb_c, ga_c, w1_c, w2_c, rfl, hg_c⟩ := hsn v_c (List.mem_of_getElem? hv_c)
                with_reducible refine k9 ?_
                refine sub_ls (S'.fz hase).lx (by lia) (by rw [show ((0 : Int) + (i9 : Int) * 1).toNat = i9 by lia]; exact hv_c) ?_ (by lia)
                walk_at "ac"
                walk_at "nm"
                walk_at "ac"
                with_reducible refine' PyProof.Rows.Attribute_name ?_
                walk_at "nm"
                walk_at "geta"
                walk_at "evl"
                (refine ⟨St.base (by assumption), ?_⟩)
                refine meets_ (Γ := _) S' bs (room'.l (k := 0 + 3)) hf_b hf_c ⟨_, ga_b, _, _, _, _, rfl, hb_b, hg_b⟩ ⟨_, ga_c, _, _, _, _, rfl, hb_c, hg_c⟩ hah hszat.lx hszi hsl hsz3.1 (hsvall r_b hr_b).1 (hsvall r_c hr_c).1 hpd hpk ?_
                intro h' tk' S'
                rw [(hsvall r_b hr_b).2 r_c hr_c]
                with_reducible refine' wpAny_truthy_bool ?_
                refine ite_b (fun hb => (by exact absurd hb (by decide))) (fun hb => ?_)
                walk_at "exn"
                walk_at "nx"
                walk_at "exn"
                exact X'.next (St.weak S' (by walk_at "lsub")) ⟨rfl, rfl, rfl, rfl⟩
              case doneB =>
                intro g' ΓD' h' t' hj' S'
                obtain ⟨rfl, rfl⟩ := hj'
                replace S' := S'.drop
                walk_at "nx"
                walk_at "exn"
                exact X'.next (St.weak S' (by walk_at "lsub")) ⟨rfl, rfl, rfl, rfl⟩
            case done =>
              intro g' ΓD' h' t' hj' S'
              obtain ⟨rfl, rfl⟩ := hj'
              walk_at "nx"
              walk_at "ex"
              with_reducible refine' wpAny_Return_some ?_
              with_reducible refine' wpAny_Constant_bool ?_
              walk_at "cret"
              with_reducible refine' rt_ret ?_
              exact q _ _ S'.base
theorem Glaw (w : World) : nsIn (hd.heap_39 w.params) mainGlobals (Str.ofString "law") = some (some (.ref 286)) := by kernel_rfl
end Mine
open Mine in
theorem PySem.Challenge.cw_nm0008_01_holds : PySem.Challenge.rw_nm0008_01.Holds :=
  Mine.hd (by
  intro w s₀ s₁ mg mb G Y fa o pm cd doc dV kV ho hd' hcd hD hmg hg args vals as hpre hlay hrd hwl hlo
  have KX := kIn_of Y
  refine Ground.open G ?_
  intro T B D TE TW
  wrow_args hpre hlay hrd hwl hlo
  rename_i ns h1 h2 h3 h4 h5 as1 as2 l vs as3 hL hra hw1 hr0 hI hr6 hc1 hc2
  obtain rfl : fa = 286 := by
    have e := mg_of KX T.g (Glaw w)
    have e2 : mg (Str.ofString "law") = some (.ref fa) := hmg
    rw [e2] at e
    cases e
    rfl
  have bs : Bs w s₁.heap := ⟨KX, T.nolimit, ⟨mg, mb, T.g, T.b, fun x v e => mg_of KX T.g e, fun x e => mg_none_of KX T.g e, fun x v e hn => by rw [T.builtins x hn]; exact e⟩, Nat.lt_of_lt_of_le (by decide) (Nat.le_of_lt (Heap.lt_size ho))⟩
  refine wpAny_mono (law_ (tk := s₁.toks) (s := s₁) (hp := s₁.heap) (sc := l) (svs := vs) (ns := ns) (n := 5) (A := callerA) (E := fun _ _ => False) bs (room_top.less (by decide)) hL hI (by lia) (Q := fun v s' => v = .bool true ∧ ∃ h' tk, s' = sh s₁ h' tk ∧ ∀ b o, s₁.heap.get? b = some o → h'.get? b = some o) (fun h' tk hk => ⟨rfl, h', tk, rfl, hk⟩)) ?_ fun _ _ e => e.elim
  rintro v s' ⟨rfl, h', tk, rfl, hk⟩
  refine GoodW.toG ⟨.inl ⟨.bool true, .bool true, [], rfl, fun cls => ?_, ?_, ?_, fun _ => ⟨List.nodup_nil, fun a ha => by cases ha⟩⟩, hk, rfl, hg⟩
  · first | rfl | kernel_rfl | (cases cls <;> rfl)
  · exact .bool _
  · first | rfl | kernel_rfl)
