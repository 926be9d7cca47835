import PyProof.Rows.All
import Wide.All
import OpenK.AllK
import Wide.FinOn
import HandS.ForMost
import HandS.ForExc
import HandS.HeadHook1
import HandS.CallSlots
import HandS.TupAny
import HandS.TupLe
import HandS.Deep
import HandS.IsInst
import HandS.Defaults
import HandS.Strs
import HandS.SetFor
import HandS.MakeKwOnly
import HandS.Head0
import HandS.Head1
import HandS.Head2
import HandS.HeadEnd
import HandS.HeadHook2
import HandS.HeadHook3
import HandS.HeadHook4
import PySem.Challenge.RW_coldlanes_k28_whole_index
set_option Elab.async false
set_option linter.all false
set_option maxRecDepth 100000
set_option maxHeartbeats 4000000
namespace CL
open PySem PySem.Spec L2
/-- data without addresses; han: a thing that may change, by its number in the store; fro: the script -/
inductive Da where
  | non | bl (b : Bool) | int (i : Int) | str (s : Str) | tup (xs : List Da) | lst (xs : List Da) | fro (xs : List Da) | han (n : Nat)
inductive Cell where
  | lst (xs : List Da) | ins (c : Str) (fs : List (Str × Da)) | dK (kvs : List (Key × Da)) | dead
abbrev Store := List Cell
/-- a world: where the things stand, what they hold, the heap; pv: lists that are being made -/
structure Wd where
  io : List Addr
  st : Store
  H : Hp
  pv : List Addr
def LiveS (w : Wd) (a : Addr) : Prop := ∃ (n : Nat) (c : Cell), w.io[n]? = some a ∧ w.st[n]? = some c ∧ c ≠ .dead
def Live (w : Wd) (a : Addr) : Prop := a ∈ w.pv ∨ LiveS w a
/-- a list of the written part -/
def KLst (K : PySem.W.Frag) (a : Addr) (xs : List V) : Prop := ∃ (o : Obj) (its : Array Value) (n : Nat), K.lookup a = some o ∧ o.cls = .type "list" ∧ o.dict = none ∧ o.data = .seq its n ∧ its.size ≤ sizeLine ∧ Vals xs its.toList
def FrL (K : PySem.W.Frag) (H : Hp) (a : Addr) (xs : List V) : Prop := (∃ o, H a = some (.frz o (.lst xs))) ∨ KLst K a xs
theorem FrL.sq {K : PySem.W.Frag} {H : Hp} {a : Addr} {xs : List V} (h : FrL K H a xs) : SqL K H a xs := by
  rcases h with h | h
  · exact .inl (.inr h)
  · exact .inr h
mutual
inductive Rep (K : PySem.W.Frag) (w : Wd) : V → Da → Prop
  | non : Rep K w .non .non
  | bl (b : Bool) : Rep K w (.bl b) (.bl b)
  | int (i : Int) : Rep K w (.int i) (.int i)
  | str (s : Str) : Rep K w (.str s) (.str s)
  | tup {a : Addr} {vs : List V} {ds : List Da} : SqT K w.H a vs → RepL K w vs ds → Rep K w (.ref a) (.tup ds)
  | lst {a : Addr} {vs : List V} {ds : List Da} : w.H a = some (.lst vs) → ¬ Live w a → RepL K w vs ds → Rep K w (.ref a) (.lst ds)
  | fro {a : Addr} {vs : List V} {ds : List Da} : FrL K w.H a vs → RepL K w vs ds → Rep K w (.ref a) (.fro ds)
  | han {a : Addr} {n : Nat} : w.io[n]? = some a → Rep K w (.ref a) (.han n)
inductive RepL (K : PySem.W.Frag) (w : Wd) : List V → List Da → Prop
  | nil : RepL K w [] []
  | cons {v : V} {vs : List V} {d : Da} {ds : List Da} : Rep K w v d → RepL K w vs ds → RepL K w (v :: vs) (d :: ds)
end
inductive RepF (K : PySem.W.Frag) (w : Wd) : List (Str × V) → List (Str × Da) → Prop
  | nil : RepF K w [] []
  | cons {f : Str} {v : V} {vs : List (Str × V)} {d : Da} {ds : List (Str × Da)} : Rep K w v d → RepF K w vs ds → RepF K w ((f, v) :: vs) ((f, d) :: ds)
inductive RepK (K : PySem.W.Frag) (w : Wd) : List (Key × V) → List (Key × Da) → Prop
  | nil : RepK K w [] []
  | cons {f : Key} {v : V} {vs : List (Key × V)} {d : Da} {ds : List (Key × Da)} : Rep K w v d → RepK K w vs ds → RepK K w ((f, v) :: vs) ((f, d) :: ds)
def CellOk (K : PySem.W.Frag) (ga : Str → Addr) (w : Wd) (a : Addr) : Cell → Prop
  | .lst ds => ∃ vs, w.H a = some (.lst vs) ∧ RepL K w vs ds
  | .ins c fs => ∃ dx vfs, w.H a = some (.ins (ga c) dx vfs) ∧ RepF K w vfs fs
  | .dK kvs => ∃ vs, w.H a = some (.dK vs) ∧ RepK K w vs kvs
  | .dead => True
structure Emb (K : PySem.W.Frag) (ga : Str → Addr) (w : Wd) : Prop where
  len : w.io.length = w.st.length
  nd : w.io.Nodup
  dom : ∀ a ∈ w.io, ∃ o, w.H a = some o
  cell : ∀ (n : Nat) (a : Addr) (c : Cell), w.io[n]? = some a → w.st[n]? = some c → CellOk K ga w a c
  pvo : ∀ a ∈ w.pv, a ∉ w.io ∧ ∃ vs, w.H a = some (.lst vs)
structure Ext (w w' : Wd) : Prop where
  io : ∃ t, w'.io = w.io ++ t
  keep : ∀ a o, w.H a = some o → ¬ Live w a → w'.H a = some o ∧ ¬ Live w' a
  pvk : ∀ a ∈ w.pv, a ∈ w'.pv ∧ w'.H a = w.H a
theorem Ext.refl (w : Wd) : Ext w w := ⟨⟨[], by simp⟩, fun _ _ h n => ⟨h, n⟩, fun _ h => ⟨h, rfl⟩⟩
theorem Ext.trans {a b c : Wd} (x : Ext a b) (y : Ext b c) : Ext a c := by
  obtain ⟨t, ht⟩ := x.io
  obtain ⟨u, hu⟩ := y.io
  refine ⟨⟨t ++ u, by rw [hu, ht, List.append_assoc]⟩, fun p o h n => ?_, fun p hp => ?_⟩
  · obtain ⟨h1, n1⟩ := x.keep p o h n
    exact y.keep p o h1 n1
  · obtain ⟨h1, e1⟩ := x.pvk p hp
    obtain ⟨h2, e2⟩ := y.pvk p h1
    exact ⟨h2, e2.trans e1⟩
theorem Ext.at {w w' : Wd} (x : Ext w w') {n : Nat} {a : Addr} (h : w.io[n]? = some a) : w'.io[n]? = some a := by
  obtain ⟨t, ht⟩ := x.io
  rw [ht, List.getElem?_append_left (List.getElem?_eq_some_iff.mp h).1]
  exact h
/-- what is alive is of a kind that changes -/
theorem Emb.live {K : PySem.W.Frag} {ga : Str → Addr} {w : Wd} (m : Emb K ga w) {a : Addr} (h : Live w a) :
    (∃ vs, w.H a = some (.lst vs)) ∨ (∃ C dx fs, w.H a = some (.ins C dx fs)) ∨ ∃ kvs, w.H a = some (.dK kvs) := by
  rcases h with h | ⟨n, c, h1, h2, h3⟩
  · exact .inl (m.pvo a h).2
  have q := m.cell n a c h1 h2
  cases c with
  | lst ds => obtain ⟨vs, e, _⟩ := q; exact .inl ⟨vs, e⟩
  | ins c fs => obtain ⟨dx, vfs, e, _⟩ := q; exact .inr (.inl ⟨_, dx, vfs, e⟩)
  | dK kvs => obtain ⟨vs, e, _⟩ := q; exact .inr (.inr ⟨vs, e⟩)
  | dead => exact absurd rfl h3
theorem Emb.noTup {K : PySem.W.Frag} {ga : Str → Addr} {w : Wd} (m : Emb K ga w) {a : Addr} {vs : List V} (h : w.H a = some (.tup vs)) : ¬ Live w a := fun l => by
  rcases m.live l with ⟨_, e⟩ | ⟨_, _, _, e⟩ | ⟨_, e⟩ <;> rw [h] at e <;> cases e
theorem Emb.noFrz {K : PySem.W.Frag} {ga : Str → Addr} {w : Wd} (m : Emb K ga w) {a : Addr} {o : Obj} {u : HO} (h : w.H a = some (.frz o u)) : ¬ Live w a := fun l => by
  rcases m.live l with ⟨_, e⟩ | ⟨_, _, _, e⟩ | ⟨_, e⟩ <;> rw [h] at e <;> cases e
section
variable {K : PySem.W.Frag} {ga : Str → Addr} {w w' : Wd}
theorem sqT_mono (m : Emb K ga w) (x : Ext w w') {a : Addr} {vs : List V} (h : SqT K w.H a vs) : SqT K w'.H a vs := by
  rcases h with (h | ⟨o, h⟩) | h
  · exact .inl (.inl (x.keep a _ h (m.noTup h)).1)
  · exact .inl (.inr ⟨o, (x.keep a _ h (m.noFrz h)).1⟩)
  · exact .inr h
mutual
theorem Rep.mono (m : Emb K ga w) (x : Ext w w') : ∀ {v : V} {d : Da}, Rep K w v d → Rep K w' v d
  | _, _, .non => .non
  | _, _, .bl b => .bl b
  | _, _, .int i => .int i
  | _, _, .str s => .str s
  | _, _, .tup h r => .tup (sqT_mono m x h) (RepL.mono m x r)
  | _, _, .lst h n r => .lst (x.keep _ _ h n).1 (x.keep _ _ h n).2 (RepL.mono m x r)
  | _, _, .fro h r => .fro (by
      rcases h with ⟨o, h⟩ | h
      · exact .inl ⟨o, (x.keep _ _ h (m.noFrz h)).1⟩
      · exact .inr h) (RepL.mono m x r)
  | _, _, .han h => .han (x.at h)
theorem RepL.mono (m : Emb K ga w) (x : Ext w w') : ∀ {vs : List V} {ds : List Da}, RepL K w vs ds → RepL K w' vs ds
  | _, _, .nil => .nil
  | _, _, .cons h r => .cons (Rep.mono m x h) (RepL.mono m x r)
end
theorem RepF.mono (m : Emb K ga w) (x : Ext w w') : ∀ {vs : List (Str × V)} {ds : List (Str × Da)}, RepF K w vs ds → RepF K w' vs ds
  | _, _, .nil => .nil
  | _, _, .cons h r => .cons (h.mono m x) (r.mono m x)
theorem RepK.mono (m : Emb K ga w) (x : Ext w w') : ∀ {vs : List (Key × V)} {ds : List (Key × Da)}, RepK K w vs ds → RepK K w' vs ds
  | _, _, .nil => .nil
  | _, _, .cons h r => .cons (h.mono m x) (r.mono m x)
theorem RepL.length {vs : List V} {ds : List Da} (r : RepL K w vs ds) : vs.length = ds.length := by
  induction vs generalizing ds with
  | nil => cases r; rfl
  | cons v vs ih => cases r with | cons h t => simp [ih t]
theorem RepL.get : ∀ {vs : List V} {ds : List Da} {i : Nat} {d : Da}, RepL K w vs ds → ds[i]? = some d → ∃ v, vs[i]? = some v ∧ Rep K w v d
  | _, _, i, d, .nil, e => by simp at e
  | _, _, 0, d, .cons h _, e => by simp at e; subst e; exact ⟨_, rfl, h⟩
  | _, _, i + 1, d, .cons _ t, e => by
    obtain ⟨v, h1, h2⟩ := RepL.get (i := i) (d := d) t (by simpa using e)
    exact ⟨v, by simpa using h1, h2⟩
theorem RepL.append : ∀ {vs us : List V} {ds es : List Da}, RepL K w vs ds → RepL K w us es → RepL K w (vs ++ us) (ds ++ es)
  | _, _, _, _, .nil, r => r
  | _, _, _, _, .cons h t, r => .cons h (t.append r)
theorem RepL.set {x : V} {d : Da} (h : Rep K w x d) : ∀ {vs : List V} {ds : List Da} (i : Nat), RepL K w vs ds → RepL K w (vs.set i x) (ds.set i d)
  | _, _, _, .nil => .nil
  | _, _, 0, .cons _ t => .cons h t
  | _, _, i + 1, .cons q t => .cons q (RepL.set h i t)
theorem RepL.take : ∀ {vs : List V} {ds : List Da} (n : Nat), RepL K w vs ds → RepL K w (vs.take n) (ds.take n)
  | _, _, 0, _ => .nil
  | _, _, _ + 1, .nil => .nil
  | _, _, n + 1, .cons r t => .cons r (RepL.take n t)
theorem RepL.drop : ∀ {vs : List V} {ds : List Da} (n : Nat), RepL K w vs ds → RepL K w (vs.drop n) (ds.drop n)
  | _, _, 0, r => r
  | _, _, _ + 1, .nil => .nil
  | _, _, n + 1, .cons _ t => RepL.drop n t
theorem RepL.dropLast : ∀ {vs : List V} {ds : List Da}, RepL K w vs ds → RepL K w vs.dropLast ds.dropLast := fun {vs ds} r => by
  rw [List.dropLast_eq_take, List.dropLast_eq_take, r.length]
  exact r.take _
theorem RepL.rep {v : V} {d : Da} (h : Rep K w v d) : ∀ n, RepL K w (List.replicate n v) (List.replicate n d)
  | 0 => .nil
  | n + 1 => .cons h (RepL.rep h n)
theorem RepF.lookup : ∀ {vs : List (Str × V)} {ds : List (Str × Da)} {f : Str} {d : Da}, RepF K w vs ds → ds.lookup f = some d → ∃ v, vs.lookup f = some v ∧ Rep K w v d
  | _, _, f, d, .nil, e => by simp at e
  | _, _, f, d, .cons (f := g) h t, e => by
    by_cases q : (f == g) = true
    · simp only [List.lookup, q] at e ⊢
      cases e
      exact ⟨_, rfl, h⟩
    · have q' : (f == g) = false := by simpa using q
      simp only [List.lookup, q'] at e ⊢
      exact RepF.lookup t e
theorem RepF.lookup_none : ∀ {vs : List (Str × V)} {ds : List (Str × Da)} {f : Str}, RepF K w vs ds → ds.lookup f = none → vs.lookup f = none
  | _, _, f, .nil, e => rfl
  | _, _, f, .cons (f := g) h t, e => by
    by_cases q : (f == g) = true
    · simp only [List.lookup, q] at e
      cases e
    · have q' : (f == g) = false := by simpa using q
      simp only [List.lookup, q'] at e ⊢
      exact RepF.lookup_none t e
theorem RepF.length : ∀ {vs : List (Str × V)} {ds : List (Str × Da)}, RepF K w vs ds → vs.length = ds.length
  | _, _, .nil => rfl
  | _, _, .cons _ t => by simp [t.length]
def putD (f : Str) (v : Da) : List (Str × Da) → List (Str × Da)
  | [] => [(f, v)]
  | (g, x) :: r => if g = f then (g, v) :: r else (g, x) :: putD f v r
theorem RepF.put {f : Str} {x : V} {d : Da} (h : Rep K w x d) : ∀ {vs : List (Str × V)} {ds : List (Str × Da)}, RepF K w vs ds → RepF K w (putF f x vs) (putD f d ds)
  | _, _, .nil => .cons h .nil
  | _, _, .cons (f := g) q t => by
    unfold putF putD
    by_cases e : g = f
    · rw [if_pos e, if_pos e]
      exact .cons h t
    · rw [if_neg e, if_neg e]
      exact .cons q (RepF.put h t)
theorem CellOk.mono (m : Emb K ga w) (x : Ext w w') {a : Addr} {c : Cell} (hH : c ≠ .dead → w'.H a = w.H a) (h : CellOk K ga w a c) : CellOk K ga w' a c := by
  cases c with
  | lst ds => obtain ⟨vs, e, r⟩ := h; exact ⟨vs, (hH (by intro z; cases z)).trans e, r.mono m x⟩
  | ins c fs => obtain ⟨dx, vs, e, r⟩ := h; exact ⟨dx, vs, (hH (by intro z; cases z)).trans e, r.mono m x⟩
  | dK ds => obtain ⟨vs, e, r⟩ := h; exact ⟨vs, (hH (by intro z; cases z)).trans e, r.mono m x⟩
  | dead => trivial
theorem io_inj (nd : w.io.Nodup) {i j : Nat} {a : Addr} (h1 : w.io[i]? = some a) (h2 : w.io[j]? = some a) : i = j := nd_ix nd h1 h2
/-- a new thing that never changes -/
def Wd.new (w : Wd) (p : Addr) (o : HO) : Wd := ⟨w.io, w.st, upd w.H p o, w.pv⟩
theorem Wd.new_live {p : Addr} {o : HO} {a : Addr} : Live (w.new p o) a ↔ Live w a := Iff.rfl
theorem Emb.fresh (m : Emb K ga w) {p : Addr} (hp : w.H p = none) : p ∉ w.io := fun h => by
  obtain ⟨o, e⟩ := m.dom p h
  rw [hp] at e; cases e
theorem Emb.freshP (m : Emb K ga w) {p : Addr} (hp : w.H p = none) : p ∉ w.pv := fun h => by
  obtain ⟨_, vs, e⟩ := m.pvo p h
  rw [hp] at e; cases e
theorem Emb.notLive (m : Emb K ga w) {p : Addr} (hp : w.H p = none) : ¬ Live w p := fun h => by
  rcases h with h | ⟨n, c, h1, _, _⟩
  · exact m.freshP hp h
  · exact m.fresh hp (List.mem_of_getElem? h1)
theorem Ext.new (m : Emb K ga w) {p : Addr} {o : HO} (hp : w.H p = none) : Ext w (w.new p o) := by
  refine ⟨⟨[], by simp [Wd.new]⟩, fun a u h n => ⟨?_, n⟩, fun a ha => ⟨ha, ?_⟩⟩
  · show upd w.H p o a = some u
    rw [upd_ne (ne_of_none h hp)]
    exact h
  · show upd w.H p o a = w.H a
    rw [upd_ne (show a ≠ p from fun z => m.freshP hp (z ▸ ha))]
theorem Emb.new (m : Emb K ga w) {p : Addr} {o : HO} (hp : w.H p = none) : Emb K ga (w.new p o) := by
  refine ⟨m.len, m.nd, fun a ha => ?_, fun n a c h1 h2 => ?_, fun a ha => ?_⟩
  · obtain ⟨u, e⟩ := m.dom a ha
    refine ⟨u, ?_⟩
    show upd w.H p o a = some u
    rw [upd_ne (ne_of_none e hp)]
    exact e
  · refine (m.cell n a c h1 h2).mono m (Ext.new m hp) fun _ => ?_
    have ne : a ≠ p := fun z => m.fresh hp (z ▸ List.mem_of_getElem? h1)
    show upd w.H p o a = w.H a
    rw [upd_ne ne]
  · obtain ⟨h1, vs, h2⟩ := m.pvo a ha
    refine ⟨h1, vs, ?_⟩
    show upd w.H p o a = some (.lst vs)
    rw [upd_ne (ne_of_none h2 hp)]
    exact h2
theorem Rep.newTup (m : Emb K ga w) {p : Addr} {vs : List V} {ds : List Da} (hp : w.H p = none) (r : RepL K w vs ds) : Rep K (w.new p (.tup vs)) (.ref p) (.tup ds) :=
  .tup (.inl (.inl upd_same)) (r.mono m (Ext.new m hp))
theorem Rep.newLst (m : Emb K ga w) {p : Addr} {vs : List V} {ds : List Da} (hp : w.H p = none) (r : RepL K w vs ds) : Rep K (w.new p (.lst vs)) (.ref p) (.lst ds) :=
  .lst upd_same (fun l => m.notLive hp l) (r.mono m (Ext.new m hp))
/-- a new thing that may change -/
def Wd.push (w : Wd) (p : Addr) (o : HO) (c : Cell) : Wd := ⟨w.io ++ [p], w.st ++ [c], upd w.H p o, w.pv⟩
theorem push_at (m : Emb K ga w) {p : Addr} {o : HO} {c : Cell} : (w.push p o c).io[w.st.length]? = some p := by
  show (w.io ++ [p])[w.st.length]? = some p
  rw [← m.len]
  simp
theorem Ext.push (m : Emb K ga w) {p : Addr} {o : HO} {c : Cell} (hp : w.H p = none) : Ext w (w.push p o c) := by
  refine ⟨⟨[p], rfl⟩, fun a u h n => ⟨?_, fun l => ?_⟩, fun a ha => ⟨ha, ?_⟩⟩
  · show upd w.H p o a = some u
    rw [upd_ne (ne_of_none h hp)]
    exact h
  · rcases l with l | l
    · exact n (.inl l)
    obtain ⟨i, k, h1, h2, h3⟩ := l
    have h1' : (w.io ++ [p])[i]? = some a := h1
    have h2' : (w.st ++ [c])[i]? = some k := h2
    have ne : a ≠ p := ne_of_none h hp
    by_cases hi : i < w.io.length
    · rw [List.getElem?_append_left hi] at h1'
      rw [List.getElem?_append_left (m.len ▸ hi)] at h2'
      exact n (.inr ⟨i, k, h1', h2', h3⟩)
    · rw [List.getElem?_append_right (by omega)] at h1'
      have : i - w.io.length = 0 := by
        have := (List.getElem?_eq_some_iff.mp h1').1
        simp at this
        omega
      rw [this] at h1'
      simp at h1'
      exact ne h1'.symm
  · show upd w.H p o a = w.H a
    rw [upd_ne (show a ≠ p from fun z => m.freshP hp (z ▸ ha))]
theorem Emb.push (m : Emb K ga w) {p : Addr} {o : HO} {c : Cell} (hp : w.H p = none) (hc : CellOk K ga (w.push p o c) p c) : Emb K ga (w.push p o c) := by
  refine ⟨?_, ?_, fun a ha => ?_, fun n a k h1 h2 => ?_, fun a ha => ?_⟩
  · show (w.io ++ [p]).length = (w.st ++ [c]).length
    simp [m.len]
  · show (w.io ++ [p]).Nodup
    rw [List.nodup_append]
    refine ⟨m.nd, by simp, fun a ha b hb => ?_⟩
    have e : b = p := by simpa using hb
    rw [e]
    exact fun z => m.fresh hp (z ▸ ha)
  · have ha' : a ∈ w.io ++ [p] := ha
    rcases List.mem_append.mp ha' with ha | ha
    · obtain ⟨u, e⟩ := m.dom a ha
      refine ⟨u, ?_⟩
      show upd w.H p o a = some u
      rw [upd_ne (ne_of_none e hp)]
      exact e
    · have e : a = p := by simpa using ha
      rw [e]
      exact ⟨o, upd_same⟩
  · have h1' : (w.io ++ [p])[n]? = some a := h1
    have h2' : (w.st ++ [c])[n]? = some k := h2
    by_cases hi : n < w.io.length
    · rw [List.getElem?_append_left hi] at h1'
      rw [List.getElem?_append_left (m.len ▸ hi)] at h2'
      refine (m.cell n a k h1' h2').mono m (Ext.push m hp) fun _ => ?_
      have ne : a ≠ p := fun z => m.fresh hp (z ▸ List.mem_of_getElem? h1')
      show upd w.H p o a = w.H a
      rw [upd_ne ne]
    · rw [List.getElem?_append_right (by omega)] at h1'
      rw [List.getElem?_append_right (by rw [← m.len]; omega)] at h2'
      have z : n - w.io.length = 0 := by
        have := (List.getElem?_eq_some_iff.mp h1').1
        simp at this
        omega
      rw [← m.len, z] at h2'
      rw [z] at h1'
      simp at h1' h2'
      subst h1' h2'
      exact hc
  · obtain ⟨h1, vs, h2⟩ := m.pvo a ha
    have ne : a ≠ p := fun z => m.freshP hp (z ▸ ha)
    refine ⟨fun z => ?_, vs, ?_⟩
    · have z' : a ∈ w.io ++ [p] := z
      rcases List.mem_append.mp z' with z | z
      · exact h1 z
      · exact ne (by simpa using z)
    · show upd w.H p o a = some (.lst vs)
      rw [upd_ne ne]
      exact h2
/-- a thing changes -/
def Wd.put (w : Wd) (n : Nat) (a : Addr) (o : HO) (c : Cell) : Wd := ⟨w.io, w.st.set n c, upd w.H a o, w.pv⟩
theorem put_live {n : Nat} {a b : Addr} {o : HO} {c : Cell} (h : Live (w.put n a o c) b) (hb : b ≠ a ∨ c = .dead) (ha : w.io[n]? = some a) : Live w b := by
  rcases h with h | ⟨i, k, h1, h2, h3⟩
  · exact .inl h
  have h1' : w.io[i]? = some b := h1
  have h2' : (w.st.set n c)[i]? = some k := h2
  by_cases e : i = n
  · subst e
    rw [ha] at h1'
    cases h1'
    rcases hb with hb | hb
    · exact absurd rfl hb
    · rw [List.getElem?_set] at h2'
      simp only [if_true] at h2'
      split at h2'
      · cases h2'
        exact absurd hb h3
      · cases h2'
  · rw [List.getElem?_set_ne (Ne.symm e)] at h2'
    exact .inr ⟨i, k, h1', h2', h3⟩
theorem Ext.put (m : Emb K ga w) {n : Nat} {a : Addr} {o : HO} {c c0 : Cell} (ha : w.io[n]? = some a) (hc0 : w.st[n]? = some c0) (hl : c0 ≠ .dead) : Ext w (w.put n a o c) := by
  refine ⟨⟨[], by simp [Wd.put]⟩, fun b u h nl => ?_, fun b hb => ⟨hb, ?_⟩⟩
  · have ne : b ≠ a := fun z => nl (z ▸ .inr ⟨n, c0, ha, hc0, hl⟩)
    refine ⟨?_, fun l => nl (put_live l (.inl ne) ha)⟩
    show upd w.H a o b = some u
    rw [upd_ne ne]
    exact h
  · show upd w.H a o b = w.H b
    rw [upd_ne (show b ≠ a from fun z => (m.pvo b hb).1 (z ▸ List.mem_of_getElem? ha))]
theorem Emb.put (m : Emb K ga w) {n : Nat} {a : Addr} {o : HO} {c c0 : Cell} (ha : w.io[n]? = some a) (hc0 : w.st[n]? = some c0) (hl : c0 ≠ .dead) (hc : CellOk K ga (w.put n a o c) a c) : Emb K ga (w.put n a o c) := by
  refine ⟨?_, m.nd, fun b hb => ?_, fun i b k h1 h2 => ?_, fun b hb => ?_⟩
  · show w.io.length = (w.st.set n c).length
    rw [List.length_set]; exact m.len
  · by_cases e : b = a
    · rw [e]; exact ⟨o, upd_same⟩
    · obtain ⟨u, q⟩ := m.dom b hb
      refine ⟨u, ?_⟩
      show upd w.H a o b = some u
      rw [upd_ne e]; exact q
  · have h1' : w.io[i]? = some b := h1
    have h2' : (w.st.set n c)[i]? = some k := h2
    by_cases e : i = n
    · subst e
      rw [ha] at h1'; cases h1'
      have hlt : i < w.st.length := (List.getElem?_eq_some_iff.mp hc0).1
      rw [List.getElem?_set_self hlt] at h2'
      cases h2'
      exact hc
    · rw [List.getElem?_set_ne (Ne.symm e)] at h2'
      refine (m.cell i b k h1' h2').mono m (Ext.put m ha hc0 hl) fun _ => ?_
      have ne : b ≠ a := fun z => e (io_inj m.nd h1' (z ▸ ha))
      show upd w.H a o b = w.H b
      rw [upd_ne ne]
  · obtain ⟨h1, vs, h2⟩ := m.pvo b hb
    refine ⟨h1, vs, ?_⟩
    show upd w.H a o b = some (.lst vs)
    rw [upd_ne (show b ≠ a from fun z => h1 (z ▸ List.mem_of_getElem? ha))]
    exact h2
/-- a thing stops changing -/
def Wd.kill (w : Wd) (n : Nat) : Wd := ⟨w.io, w.st.set n .dead, w.H, w.pv⟩
theorem kill_live {n : Nat} {b : Addr} (h : Live (w.kill n) b) : b ∈ w.pv ∨ Live w b ∧ ∃ i, i ≠ n ∧ w.io[i]? = some b := by
  rcases h with h | ⟨i, k, h1, h2, h3⟩
  · exact .inl h
  have h1' : w.io[i]? = some b := h1
  have h2' : (w.st.set n .dead)[i]? = some k := h2
  by_cases e : i = n
  · subst e
    rw [List.getElem?_set] at h2'
    simp only [if_true] at h2'
    split at h2'
    · cases h2'
      exact absurd rfl h3
    · cases h2'
  · rw [List.getElem?_set_ne (Ne.symm e)] at h2'
    exact .inr ⟨.inr ⟨i, k, h1', h2', h3⟩, i, e, h1'⟩
theorem kill_live' {n : Nat} {b : Addr} (h : Live (w.kill n) b) : Live w b := by
  rcases kill_live h with h | h
  · exact .inl h
  · exact h.1
theorem Ext.kill {n : Nat} : Ext w (w.kill n) := ⟨⟨[], by simp [Wd.kill]⟩, fun _ _ h nl => ⟨h, fun l => nl (kill_live' l)⟩, fun _ h => ⟨h, rfl⟩⟩
theorem Emb.kill (m : Emb K ga w) {n : Nat} : Emb K ga (w.kill n) := by
  refine ⟨?_, m.nd, m.dom, fun i b k h1 h2 => ?_, m.pvo⟩
  · show w.io.length = (w.st.set n .dead).length
    rw [List.length_set]; exact m.len
  · have h1' : w.io[i]? = some b := h1
    have h2' : (w.st.set n .dead)[i]? = some k := h2
    by_cases e : i = n
    · subst e
      rw [List.getElem?_set] at h2'
      simp only [if_true] at h2'
      split at h2'
      · cases h2'; trivial
      · cases h2'
    · rw [List.getElem?_set_ne (Ne.symm e)] at h2'
      exact (m.cell i b k h1' h2').mono m Ext.kill fun _ => rfl
theorem Rep.killed (m : Emb K ga w) {n : Nat} {a : Addr} {vs : List V} {ds : List Da} (ha : w.io[n]? = some a) (hH : w.H a = some (.lst vs)) (r : RepL K w vs ds) : Rep K (w.kill n) (.ref a) (.lst ds) := by
  refine .lst hH (fun l => ?_) (r.mono m Ext.kill)
  rcases kill_live l with h | ⟨_, i, hi, h⟩
  · exact (m.pvo a h).1 (List.mem_of_getElem? ha)
  · exact hi (io_inj m.nd h ha)
/-! ### a list that is being made: nobody else has it -/
def Wd.hid (w : Wd) (p : Addr) (vs : List V) : Wd := ⟨w.io, w.st, upd w.H p (.lst vs), p :: w.pv⟩
theorem Ext.hid (m : Emb K ga w) {p : Addr} {vs : List V} (hp : w.H p = none) : Ext w (w.hid p vs) := by
  refine ⟨⟨[], by simp [Wd.hid]⟩, fun a u h n => ⟨?_, fun l => ?_⟩, fun a ha => ⟨List.mem_cons_of_mem _ ha, ?_⟩⟩
  · show upd w.H p _ a = some u
    rw [upd_ne (ne_of_none h hp)]
    exact h
  · rcases l with l | l
    · have l' : a ∈ p :: w.pv := l
      rcases List.mem_cons.mp l' with l | l
      · exact ne_of_none h hp l
      · exact n (.inl l)
    · exact n (.inr l)
  · show upd w.H p _ a = w.H a
    rw [upd_ne (show a ≠ p from fun z => m.freshP hp (z ▸ ha))]
theorem Emb.hid (m : Emb K ga w) {p : Addr} {vs : List V} (hp : w.H p = none) : Emb K ga (w.hid p vs) := by
  refine ⟨m.len, m.nd, fun a ha => ?_, fun n a c h1 h2 => ?_, fun a ha => ?_⟩
  · obtain ⟨u, e⟩ := m.dom a ha
    refine ⟨u, ?_⟩
    show upd w.H p _ a = some u
    rw [upd_ne (ne_of_none e hp)]
    exact e
  · refine (m.cell n a c h1 h2).mono m (Ext.hid m hp) fun _ => ?_
    show upd w.H p _ a = w.H a
    rw [upd_ne (show a ≠ p from fun z => m.fresh hp (z ▸ List.mem_of_getElem? h1))]
  · have ha' : a ∈ p :: w.pv := ha
    rcases List.mem_cons.mp ha' with e | ha
    · rw [e]
      exact ⟨m.fresh hp, vs, upd_same⟩
    · obtain ⟨h1, us, h2⟩ := m.pvo a ha
      refine ⟨h1, us, ?_⟩
      show upd w.H p _ a = some (.lst us)
      rw [upd_ne (ne_of_none h2 hp)]
      exact h2
/-- it grows -/
def Wd.grow (w : Wd) (p : Addr) (vs : List V) : Wd := ⟨w.io, w.st, upd w.H p (.lst vs), w.pv⟩
theorem grow_live {p : Addr} {vs : List V} {a : Addr} : Live (w.grow p vs) a ↔ Live w a := Iff.rfl
/-- all but p -/
structure ExtP (p : Addr) (w w' : Wd) : Prop where
  io : ∃ t, w'.io = w.io ++ t
  keep : ∀ a o, w.H a = some o → ¬ Live w a → w'.H a = some o ∧ ¬ Live w' a
  pvk : ∀ a ∈ w.pv, a ∈ w'.pv ∧ (a ≠ p → w'.H a = w.H a)
theorem ExtP.grow (m : Emb K ga w) {p : Addr} {vs : List V} (hp : p ∈ w.pv) : ExtP p w (w.grow p vs) := by
  refine ⟨⟨[], by simp [Wd.grow]⟩, fun a u h n => ⟨?_, n⟩, fun a ha => ⟨ha, fun ne => ?_⟩⟩
  · show upd w.H p _ a = some u
    rw [upd_ne (show a ≠ p from fun z => n (.inl (z ▸ hp)))]
    exact h
  · show upd w.H p _ a = w.H a
    rw [upd_ne ne]
mutual
theorem Rep.monoP {p : Addr} (m : Emb K ga w) (x : ExtP p w w') : ∀ {v : V} {d : Da}, Rep K w v d → Rep K w' v d
  | _, _, .non => .non
  | _, _, .bl b => .bl b
  | _, _, .int i => .int i
  | _, _, .str s => .str s
  | _, _, .tup h r => .tup (by
      rcases h with (h | ⟨o, h⟩) | h
      · exact .inl (.inl (x.keep _ _ h (m.noTup h)).1)
      · exact .inl (.inr ⟨o, (x.keep _ _ h (m.noFrz h)).1⟩)
      · exact .inr h) (RepL.monoP m x r)
  | _, _, .lst h n r => .lst (x.keep _ _ h n).1 (x.keep _ _ h n).2 (RepL.monoP m x r)
  | _, _, .fro h r => .fro (by
      rcases h with ⟨o, h⟩ | h
      · exact .inl ⟨o, (x.keep _ _ h (m.noFrz h)).1⟩
      · exact .inr h) (RepL.monoP m x r)
  | _, _, .han h => .han (by
      obtain ⟨t, ht⟩ := x.io
      rw [ht, List.getElem?_append_left (List.getElem?_eq_some_iff.mp h).1]
      exact h)
theorem RepL.monoP {p : Addr} (m : Emb K ga w) (x : ExtP p w w') : ∀ {vs : List V} {ds : List Da}, RepL K w vs ds → RepL K w' vs ds
  | _, _, .nil => .nil
  | _, _, .cons h r => .cons (Rep.monoP m x h) (RepL.monoP m x r)
end
theorem RepF.monoP {p : Addr} (m : Emb K ga w) (x : ExtP p w w') : ∀ {vs : List (Str × V)} {ds : List (Str × Da)}, RepF K w vs ds → RepF K w' vs ds
  | _, _, .nil => .nil
  | _, _, .cons h r => .cons (h.monoP m x) (r.monoP m x)
theorem RepK.monoP {p : Addr} (m : Emb K ga w) (x : ExtP p w w') : ∀ {vs : List (Key × V)} {ds : List (Key × Da)}, RepK K w vs ds → RepK K w' vs ds
  | _, _, .nil => .nil
  | _, _, .cons h r => .cons (h.monoP m x) (r.monoP m x)
theorem Emb.grow (m : Emb K ga w) {p : Addr} {vs : List V} (hp : p ∈ w.pv) : Emb K ga (w.grow p vs) := by
  have x : ExtP p w (w.grow p vs) := ExtP.grow m hp
  have ne : ∀ a ∈ w.io, a ≠ p := fun a ha z => (m.pvo p hp).1 (z ▸ ha)
  refine ⟨m.len, m.nd, fun a ha => ?_, fun n a c h1 h2 => ?_, fun a ha => ⟨(m.pvo a ha).1, ?_⟩⟩
  · obtain ⟨u, e⟩ := m.dom a ha
    refine ⟨u, ?_⟩
    show upd w.H p _ a = some u
    rw [upd_ne (ne a ha)]
    exact e
  · have q := m.cell n a c h1 h2
    have hH : (w.grow p vs).H a = w.H a := by
      show upd w.H p _ a = w.H a
      rw [upd_ne (ne a (List.mem_of_getElem? h1))]
    cases c with
    | lst ds => obtain ⟨us, e, r⟩ := q; exact ⟨us, hH.trans e, r.monoP m x⟩
    | ins c fs => obtain ⟨dx, us, e, r⟩ := q; exact ⟨dx, us, hH.trans e, r.monoP m x⟩
    | dK ds => obtain ⟨us, e, r⟩ := q; exact ⟨us, hH.trans e, r.monoP m x⟩
    | dead => trivial
  · by_cases e : a = p
    · rw [e]; exact ⟨vs, upd_same⟩
    · obtain ⟨us, h2⟩ := (m.pvo a ha).2
      refine ⟨us, ?_⟩
      show upd w.H p _ a = some (.lst us)
      rw [upd_ne e]
      exact h2
theorem Ext.thenGrow {w0 : Wd} (x : Ext w0 w) (m : Emb K ga w) {p : Addr} {vs : List V} (hp : p ∈ w.pv) (h0 : w0.H p = none) (hm0 : p ∉ w0.pv) : Ext w0 (w.grow p vs) := by
  refine ⟨x.io, fun a u h n => ?_, fun a ha => ?_⟩
  · obtain ⟨h1, n1⟩ := x.keep a u h n
    refine ⟨?_, n1⟩
    show upd w.H p _ a = some u
    rw [upd_ne (ne_of_none h h0)]
    exact h1
  · obtain ⟨h1, e1⟩ := x.pvk a ha
    refine ⟨h1, ?_⟩
    show upd w.H p _ a = w0.H a
    rw [upd_ne (show a ≠ p from fun z => hm0 (z ▸ ha))]
    exact e1
/-- it is made -/
def Wd.unh (w : Wd) (l : List Addr) : Wd := ⟨w.io, w.st, w.H, l⟩
theorem Ext.unh {p : Addr} {l : List Addr} (hl : w.pv = p :: l) : ∀ a o, w.H a = some o → ¬ Live w a → (w.unh l).H a = some o ∧ ¬ Live (w.unh l) a := fun a o h n => ⟨h, fun z => by
  rcases z with z | z
  · exact n (.inl (by rw [hl]; exact List.mem_cons_of_mem _ z))
  · exact n (.inr z)⟩
mutual
theorem Rep.unh {p : Addr} {l : List Addr} (hl : w.pv = p :: l) : ∀ {v : V} {d : Da}, Rep K w v d → Rep K (w.unh l) v d
  | _, _, .non => .non
  | _, _, .bl b => .bl b
  | _, _, .int i => .int i
  | _, _, .str s => .str s
  | _, _, .tup h r => .tup h (RepL.unh hl r)
  | _, _, .lst h n r => .lst h (Ext.unh hl _ _ h n).2 (RepL.unh hl r)
  | _, _, .fro h r => .fro h (RepL.unh hl r)
  | _, _, .han h => .han h
theorem RepL.unh {p : Addr} {l : List Addr} (hl : w.pv = p :: l) : ∀ {vs : List V} {ds : List Da}, RepL K w vs ds → RepL K (w.unh l) vs ds
  | _, _, .nil => .nil
  | _, _, .cons h r => .cons (Rep.unh hl h) (RepL.unh hl r)
end
theorem RepF.unh {p : Addr} {l : List Addr} (hl : w.pv = p :: l) : ∀ {vs : List (Str × V)} {ds : List (Str × Da)}, RepF K w vs ds → RepF K (w.unh l) vs ds
  | _, _, .nil => .nil
  | _, _, .cons h r => .cons (h.unh hl) (r.unh hl)
theorem RepK.unh {p : Addr} {l : List Addr} (hl : w.pv = p :: l) : ∀ {vs : List (Key × V)} {ds : List (Key × Da)}, RepK K w vs ds → RepK K (w.unh l) vs ds
  | _, _, .nil => .nil
  | _, _, .cons h r => .cons (h.unh hl) (r.unh hl)
theorem Emb.unh (m : Emb K ga w) {p : Addr} {l : List Addr} (hl : w.pv = p :: l) : Emb K ga (w.unh l) := by
  refine ⟨m.len, m.nd, m.dom, fun n a c h1 h2 => ?_, fun a ha => m.pvo a (by rw [hl]; exact List.mem_cons_of_mem _ ha)⟩
  have q := m.cell n a c h1 h2
  cases c with
  | lst ds => obtain ⟨us, e, r⟩ := q; exact ⟨us, e, r.unh hl⟩
  | ins c fs => obtain ⟨dx, us, e, r⟩ := q; exact ⟨dx, us, e, r.unh hl⟩
  | dK ds => obtain ⟨us, e, r⟩ := q; exact ⟨us, e, r.unh hl⟩
  | dead => trivial
/-- back to where it began -/
theorem Ext.back {w0 : Wd} {p : Addr} (x : Ext w0 w) (hl : w.pv = p :: w0.pv) : Ext w0 (w.unh w0.pv) :=
  ⟨x.io, fun a o h n => Ext.unh hl a o (x.keep a o h n).1 (x.keep a o h n).2, fun a ha => ⟨ha, (x.pvk a ha).2⟩⟩
theorem unh_free (m : Emb K ga w) {p : Addr} {l : List Addr} (hl : w.pv = p :: l) (hn : p ∉ l) : ¬ Live (w.unh l) p := fun z => by
  rcases z with z | ⟨n, c, h1, _, _⟩
  · exact hn z
  · exact (m.pvo p (by rw [hl]; exact List.mem_cons_self)).1 (List.mem_of_getElem? h1)
/-! ### as if it had not been made -/
def del (H : Hp) (p : Addr) : Hp := fun a => if a = p then none else H a
theorem del_same {H : Hp} {p : Addr} : del H p p = none := by unfold del; rw [if_pos rfl]
theorem del_ne {H : Hp} {p a : Addr} (h : a ≠ p) : del H p a = H a := by unfold del; rw [if_neg h]
theorem upd_del {H : Hp} {p : Addr} {o : HO} (h : H p = some o) : upd (del H p) p o = H := by
  funext a
  by_cases e : a = p
  · rw [e, upd_same, h]
  · rw [upd_ne e, del_ne e]
def Wd.del (w : Wd) (p : Addr) (l : List Addr) : Wd := ⟨w.io, w.st, CL.del w.H p, l⟩
theorem del_live {p a : Addr} {l : List Addr} (hl : w.pv = p :: l) (h : Live (w.del p l) a) : Live w a := by
  rcases h with h | h
  · exact .inl (by rw [hl]; exact List.mem_cons_of_mem _ h)
  · exact .inr h
mutual
theorem Rep.del {p : Addr} {l : List Addr} {us : List V} (hl : w.pv = p :: l) (hp : w.H p = some (.lst us)) : ∀ {v : V} {d : Da}, Rep K w v d → Rep K (w.del p l) v d
  | _, _, .non => .non
  | _, _, .bl b => .bl b
  | _, _, .int i => .int i
  | _, _, .str s => .str s
  | _, _, .tup (a := a) h r => .tup (by
      have tr : ∀ o, w.H a = some o → (∀ zs, o ≠ .lst zs) → (w.del p l).H a = some o := fun o ho hz => by
        show CL.del w.H p a = some o
        have ne : a ≠ p := fun z => by
          rw [z, hp] at ho
          exact hz us (Option.some.inj ho).symm
        rw [del_ne ne]
        exact ho
      rcases h with (h | ⟨o, h⟩) | h
      · exact .inl (.inl (tr _ h fun _ z => nomatch z))
      · exact .inl (.inr ⟨o, tr _ h fun _ z => nomatch z⟩)
      · exact .inr h) (RepL.del hl hp r)
  | _, _, .lst (a := a) h n r => .lst (by
      have ne : a ≠ p := fun z => n (.inl (by rw [hl, z]; exact List.mem_cons_self))
      show CL.del w.H p a = _
      rw [del_ne ne]
      exact h) (fun z => n (del_live hl z)) (RepL.del hl hp r)
  | _, _, .fro (a := a) h r => .fro (by
      rcases h with ⟨o, h⟩ | h
      · have ne : a ≠ p := fun z => by
          rw [z, hp] at h
          cases h
        refine .inl ⟨o, ?_⟩
        show CL.del w.H p a = _
        rw [del_ne ne]
        exact h
      · exact .inr h) (RepL.del hl hp r)
  | _, _, .han h => .han h
theorem RepL.del {p : Addr} {l : List Addr} {us : List V} (hl : w.pv = p :: l) (hp : w.H p = some (.lst us)) : ∀ {vs : List V} {ds : List Da}, RepL K w vs ds → RepL K (w.del p l) vs ds
  | _, _, .nil => .nil
  | _, _, .cons h r => .cons (Rep.del hl hp h) (RepL.del hl hp r)
end
theorem RepF.del {p : Addr} {l : List Addr} {us : List V} (hl : w.pv = p :: l) (hp : w.H p = some (.lst us)) : ∀ {vs : List (Str × V)} {ds : List (Str × Da)}, RepF K w vs ds → RepF K (w.del p l) vs ds
  | _, _, .nil => .nil
  | _, _, .cons h r => .cons (h.del hl hp) (r.del hl hp)
theorem RepK.del {p : Addr} {l : List Addr} {us : List V} (hl : w.pv = p :: l) (hp : w.H p = some (.lst us)) : ∀ {vs : List (Key × V)} {ds : List (Key × Da)}, RepK K w vs ds → RepK K (w.del p l) vs ds
  | _, _, .nil => .nil
  | _, _, .cons h r => .cons (h.del hl hp) (r.del hl hp)
theorem Emb.del (m : Emb K ga w) {p : Addr} {l : List Addr} {us : List V} (hl : w.pv = p :: l) (hp : w.H p = some (.lst us)) (hn : p ∉ l) : Emb K ga (w.del p l) := by
  have ne : ∀ a ∈ w.io, a ≠ p := fun a ha z => (m.pvo p (by rw [hl]; exact List.mem_cons_self)).1 (z ▸ ha)
  refine ⟨m.len, m.nd, fun a ha => ?_, fun n a c h1 h2 => ?_, fun a ha => ?_⟩
  · obtain ⟨o, e⟩ := m.dom a ha
    refine ⟨o, ?_⟩
    show CL.del w.H p a = _
    rw [del_ne (ne a ha)]
    exact e
  · have q := m.cell n a c h1 h2
    have hH : (w.del p l).H a = w.H a := del_ne (ne a (List.mem_of_getElem? h1))
    cases c with
    | lst ds => obtain ⟨vs, e, r⟩ := q; exact ⟨vs, hH.trans e, r.del hl hp⟩
    | ins c fs => obtain ⟨dx, vs, e, r⟩ := q; exact ⟨dx, vs, hH.trans e, r.del hl hp⟩
    | dK ds => obtain ⟨vs, e, r⟩ := q; exact ⟨vs, hH.trans e, r.del hl hp⟩
    | dead => trivial
  · obtain ⟨h1, vs, h2⟩ := m.pvo a (by rw [hl]; exact List.mem_cons_of_mem _ ha)
    refine ⟨h1, vs, ?_⟩
    show CL.del w.H p a = _
    rw [del_ne (show a ≠ p from fun z => hn (z ▸ ha))]
    exact h2
theorem Ext.del {w0 : Wd} {p : Addr} (x : Ext w0 w) (hl : w.pv = p :: w0.pv) (h0 : w0.H p = none) (hn : p ∉ w0.pv) : Ext w0 (w.del p w0.pv) := by
  refine ⟨x.io, fun a o h n => ?_, fun a ha => ⟨ha, ?_⟩⟩
  · obtain ⟨h1, n1⟩ := x.keep a o h n
    refine ⟨?_, fun z => n1 (del_live hl z)⟩
    show CL.del w.H p a = _
    rw [del_ne (ne_of_none h h0)]
    exact h1
  · show CL.del w.H p a = _
    rw [del_ne (show a ≠ p from fun z => hn (z ▸ ha))]
    exact (x.pvk a ha).2
end
/-! ### less: nothing of the lists that are being made -/
structure ExtW (w w' : Wd) : Prop where
  io : ∃ t, w'.io = w.io ++ t
  keep : ∀ a o, w.H a = some o → ¬ Live w a → w'.H a = some o ∧ ¬ Live w' a
theorem Ext.w {w w' : Wd} (x : Ext w w') : ExtW w w' := ⟨x.io, x.keep⟩
theorem ExtP.w {p : Addr} {w w' : Wd} (x : ExtP p w w') : ExtW w w' := ⟨x.io, x.keep⟩
theorem ExtW.refl (w : Wd) : ExtW w w := (Ext.refl w).w
theorem ExtW.trans {a b c : Wd} (x : ExtW a b) (y : ExtW b c) : ExtW a c := by
  obtain ⟨t, ht⟩ := x.io
  obtain ⟨u, hu⟩ := y.io
  refine ⟨⟨t ++ u, by rw [hu, ht, List.append_assoc]⟩, fun p o h n => ?_⟩
  obtain ⟨h1, n1⟩ := x.keep p o h n
  exact y.keep p o h1 n1
theorem ExtW.at {w w' : Wd} (x : ExtW w w') {n : Nat} {a : Addr} (h : w.io[n]? = some a) : w'.io[n]? = some a := by
  obtain ⟨t, ht⟩ := x.io
  rw [ht, List.getElem?_append_left (List.getElem?_eq_some_iff.mp h).1]
  exact h
section
variable {K : PySem.W.Frag} {ga : Str → Addr} {w w' : Wd}
theorem sqT_monoW (m : Emb K ga w) (x : ExtW w w') {a : Addr} {vs : List V} (h : SqT K w.H a vs) : SqT K w'.H a vs := by
  rcases h with (h | ⟨o, h⟩) | h
  · exact .inl (.inl (x.keep a _ h (m.noTup h)).1)
  · exact .inl (.inr ⟨o, (x.keep a _ h (m.noFrz h)).1⟩)
  · exact .inr h
mutual
theorem Rep.monoW (m : Emb K ga w) (x : ExtW w w') : ∀ {v : V} {d : Da}, Rep K w v d → Rep K w' v d
  | _, _, .non => .non
  | _, _, .bl b => .bl b
  | _, _, .int i => .int i
  | _, _, .str s => .str s
  | _, _, .tup h r => .tup (sqT_monoW m x h) (RepL.monoW m x r)
  | _, _, .lst h n r => .lst (x.keep _ _ h n).1 (x.keep _ _ h n).2 (RepL.monoW m x r)
  | _, _, .fro h r => .fro (by
      rcases h with ⟨o, h⟩ | h
      · exact .inl ⟨o, (x.keep _ _ h (m.noFrz h)).1⟩
      · exact .inr h) (RepL.monoW m x r)
  | _, _, .han h => .han (x.at h)
theorem RepL.monoW (m : Emb K ga w) (x : ExtW w w') : ∀ {vs : List V} {ds : List Da}, RepL K w vs ds → RepL K w' vs ds
  | _, _, .nil => .nil
  | _, _, .cons h r => .cons (Rep.monoW m x h) (RepL.monoW m x r)
end
end
end CL
namespace CL
open PySem PySem.Spec L2
/-! ### results: a value and the store; a refusal (class, what it bears); nothing is said -/
inductive Res (A : Type) where
  | ok (a : A) (st : Store)
  | exc (c : Str) (as : List Da) (st : Store)
  | bad
abbrev Mo (A : Type) := Store → Res A
def bnd {A B : Type} (m : Mo A) (f : A → Mo B) : Mo B := fun st => match m st with
  | .ok a st' => f a st'
  | .exc c as st' => .exc c as st'
  | .bad => .bad
def ret {A : Type} (a : A) : Mo A := fun st => .ok a st
def nop {A : Type} : Mo A := fun _ => .bad
@[simp] theorem bnd_ret {A B : Type} (a : A) (f : A → Mo B) : bnd (ret a) f = f a := rfl
@[simp] theorem bnd_nop {A B : Type} (f : A → Mo B) : bnd (nop : Mo A) f = nop := rfl
theorem bnd_ok {A B : Type} {m : Mo A} {f : A → Mo B} {st st' : Store} {a : A} (h : m st = .ok a st') : bnd m f st = f a st' := by unfold bnd; rw [h]
theorem bnd_assoc {A B C : Type} (m : Mo A) (f : A → Mo B) (g : B → Mo C) : bnd (bnd m f) g = bnd m fun a => bnd (f a) g := by
  funext st
  unfold bnd
  cases m st <;> rfl
abbrev Sl := List (Option Da)
abbrev Em (K : PySem.W.Frag) (w : Wd) : Prop := Emb K (He.ga K) w
/-- what a result must bring -/
def Run (K : PySem.W.Frag) {A : Type} (w : Wd) (r : Res A) (ok : A → Wd → Prop) (ex : Str → List Da → Wd → Prop) : Prop := match r with
  | .ok a st => ∀ io H, Ext w ⟨io, st, H, w.pv⟩ → Em K ⟨io, st, H, w.pv⟩ → ok a ⟨io, st, H, w.pv⟩
  | .exc c as st => ∀ io H, Ext w ⟨io, st, H, w.pv⟩ → Em K ⟨io, st, H, w.pv⟩ → ex c as ⟨io, st, H, w.pv⟩
  | .bad => False
section
variable {K : PySem.W.Frag} {A B : Type} {w w' : Wd} {ok ok' : A → Wd → Prop} {ex ex' : Str → List Da → Wd → Prop}
theorem Run.ext {r : Res A} (h : Run K w r ok ex) (x : Ext w w') (e : w'.pv = w.pv) : Run K w' r ok ex := by
  cases r with
  | ok a st =>
    intro io H x' m
    rw [e] at x' m ⊢
    exact h io H (x.trans x') m
  | exc c as st =>
    intro io H x' m
    rw [e] at x' m ⊢
    exact h io H (x.trans x') m
  | bad => exact h
theorem Run.mono {r : Res A} (h : Run K w r ok ex) (h1 : ∀ a w', Ext w w' → w'.pv = w.pv → Em K w' → ok a w' → ok' a w') (h2 : ∀ c as w', ex c as w' → ex' c as w') : Run K w r ok' ex' := by
  cases r with
  | ok a st => exact fun io H x m => h1 a _ x rfl m (h io H x m)
  | exc c as st => exact fun io H x m => h2 c as _ (h io H x m)
  | bad => exact h
theorem Run.bind {m : Mo A} {f : A → Mo B} {ok : B → Wd → Prop} (h : Run K w (bnd m f w.st) ok ex) : Run K w (m w.st) (fun a w' => Run K w' (f a w'.st) ok ex) ex := by
  unfold bnd at h
  cases q : m w.st with
  | ok a st =>
    rw [q] at h
    exact fun io H x e => Run.ext (w' := ⟨io, st, H, w.pv⟩) h x rfl
  | exc c as st =>
    rw [q] at h
    exact h
  | bad =>
    rw [q] at h
    exact h
theorem Run.here {a : A} (m : Em K w) (h : Run K w (.ok a w.st) ok ex) : ok a w := h w.io w.H (Ext.refl w) m
theorem Run.at {a : A} {st : Store} (h : Run K w (.ok a st) ok ex) (x : Ext w w') (m : Em K w') (e1 : w'.st = st) (e2 : w'.pv = w.pv) : ok a w' := by
  obtain ⟨io, st', H, pv⟩ := w'
  cases e1
  cases e2
  exact h io H x m
end
/-! ### slots -/
structure En (K : PySem.W.Frag) (w : Wd) (ro : Sl) (σ : St) : Prop where
  emb : Em K w
  len : σ.length = ro.length
  slot : ∀ (i : Nat) (d : Da), ro[i]? = some (some d) → ∃ v, σ[i]? = some (some v) ∧ Rep K w v d
section
variable {K : PySem.W.Frag} {w w' : Wd} {ro : Sl} {σ : St}
theorem En.mono (e : En K w ro σ) (x : Ext w w') (m : Em K w') : En K w' ro σ :=
  ⟨m, e.len, fun i d h => let ⟨v, h1, h2⟩ := e.slot i d h; ⟨v, h1, h2.mono e.emb x⟩⟩
theorem En.set (e : En K w ro σ) {i : Nat} {v : V} {d : Da} (r : Rep K w v d) : En K w (ro.set i (some d)) (σ.set i (some v)) := by
  refine ⟨e.emb, by simp [e.len], fun j x h => ?_⟩
  by_cases hj : j = i
  · subst hj
    rw [List.getElem?_set] at h
    simp only [if_true] at h
    split at h
    · rename_i hlt
      cases h
      refine ⟨v, ?_, r⟩
      rw [List.getElem?_set_self (by rw [e.len]; exact hlt)]
    · cases h
  · rw [List.getElem?_set_ne (Ne.symm hj)] at h
    obtain ⟨u, h1, h2⟩ := e.slot j x h
    exact ⟨u, by rw [List.getElem?_set_ne (Ne.symm hj)]; exact h1, h2⟩
end
/-! ### an error as it lies behind a call -/
def ExcD (K : PySem.W.Frag) (w : Wd) (as : List Da) (dd : Option Addr) : Prop := match as with
  | [] => dd = none
  | d :: _ => ∃ a v, dd = some a ∧ w.H a = some (.xd [(("place" : Str), v)]) ∧ Rep K w v d
def XP (K : PySem.W.Frag) (E : XK) (c : Str) (as : List Da) (w : Wd) : Prop := ∀ dd, ExcD K w as dd → E (.ref (He.ga K c)) dd w.H
/-! ### readings and mirrors -/
abbrev OkV (K : PySem.W.Frag) (Q : VK) (d : Da) (w : Wd) : Prop := ∀ v, Rep K w v d → Q v w.H
def SE (K : PySem.W.Frag) (E : St → XK) (te : TE) (m : Sl → Mo Da) : Prop := ∀ (w : Wd) (ro : Sl) (σ : St) (Q : VK), En K w ro σ →
  Run K w (m ro w.st) (OkV K Q) (XP K (E σ)) → te σ w.H Q
def ST (K : PySem.W.Frag) (E : St → XK) (tt : TT) (m : Sl → Mo Bool) : Prop := ∀ (w : Wd) (ro : Sl) (σ : St) (Q : Bool → Hp → Prop), En K w ro σ →
  Run K w (m ro w.st) (fun b w' => Q b w'.H) (XP K (E σ)) → tt σ w.H Q
def SA (K : PySem.W.Frag) (E : St → XK) (ta : TA) (m : Sl → Mo (List Da)) : Prop := ∀ (w : Wd) (ro : Sl) (σ : St) (Q : List V → Hp → Prop), En K w ro σ →
  Run K w (m ro w.st) (fun ds w' => ∀ vs, RepL K w' vs ds → Q vs w'.H) (XP K (E σ)) → ta σ w.H Q
/-- a list that is new -/
def OkL (K : PySem.W.Frag) (Q : VK) (ds : List Da) (w : Wd) : Prop := ∀ p vs, w.H p = none → RepL K w vs ds → Q (.ref p) (upd w.H p (.lst vs))
def SL (K : PySem.W.Frag) (E : St → XK) (te : TE) (m : Sl → Mo (List Da)) : Prop := ∀ (w : Wd) (ro : Sl) (σ : St) (Q : VK), En K w ro σ →
  Run K w (m ro w.st) (OkL K Q) (XP K (E σ)) → te σ w.H Q
theorem okL_fresh {K : PySem.W.Frag} {w : Wd} {Q : VK} {ex : Str → List Da → Wd → Prop} {p : Addr} {vs : List V} {ds : List Da} {st : Store} (m : Em K w) (h : Run K w (.ok ds st) (OkL K Q) ex) (es : st = w.st) (hp : w.H p = none) (r : RepL K w vs ds) : Q (.ref p) (upd w.H p (.lst vs)) := by
  subst es
  exact h.here m p vs hp r
inductive Fl where
  | nx (ro : Sl) | rt (d : Da) | bk (ro : Sl) | ct (ro : Sl)
def OkF (K : PySem.W.Frag) (D : Ends) (f : Fl) (w : Wd) : Prop := match f with
  | .nx ro => ∀ σ, En K w ro σ → D.nx σ w.H
  | .rt d => ∀ v, Rep K w v d → D.rt v w.H
  | .bk ro => ∀ σ, En K w ro σ → D.bk σ w.H
  | .ct ro => ∀ σ, En K w ro σ → D.ct σ w.H
def SS (K : PySem.W.Frag) (E : St → XK) (ts : TS) (m : Sl → Mo Fl) : Prop := ∀ (w : Wd) (ro : Sl) (σ : St) (D : Ends), En K w ro σ →
  Run K w (m ro w.st) (OkF K D) (fun c as w' => ∀ σ', XP K (E σ') c as w') → ts D σ w.H
/-- a two-place operation by values; a one-place one; a call by values -/
def S2 (K : PySem.W.Frag) (r : R2) (f : Da → Da → Mo Da) : Prop := ∀ (w : Wd) (x y : V) (d e : Da) (Q : VK) (ex : Str → List Da → Wd → Prop), Em K w → Rep K w x d → Rep K w y e →
  Run K w (f d e w.st) (OkV K Q) ex → r x y w.H Q
def S1 (K : PySem.W.Frag) (r : V → Hp → VK → Prop) (f : Da → Mo Da) : Prop := ∀ (w : Wd) (x : V) (d : Da) (Q : VK) (ex : Str → List Da → Wd → Prop), Em K w → Rep K w x d →
  Run K w (f d w.st) (OkV K Q) ex → r x w.H Q
def SC (K : PySem.W.Frag) (r : List V → Hp → VK → Prop) (f : List Da → Mo Da) : Prop := ∀ (w : Wd) (xs : List V) (ds : List Da) (Q : VK) (ex : Str → List Da → Wd → Prop), Em K w → RepL K w xs ds →
  Run K w (f ds w.st) (OkV K Q) ex → r xs w.H Q
def SCL (K : PySem.W.Frag) (r : List V → Hp → VK → Prop) (f : List Da → Mo (List Da)) : Prop := ∀ (w : Wd) (xs : List V) (ds : List Da) (Q : VK) (ex : Str → List Da → Wd → Prop), Em K w → RepL K w xs ds →
  Run K w (f ds w.st) (OkL K Q) ex → r xs w.H Q
/-! ### the mirrors' words -/
def eVar (i : Nat) : Sl → Mo Da := fun ro st => match ro[i]? with
  | some (some d) => .ok d st
  | _ => .bad
def eC (d : Da) : Sl → Mo Da := fun _ st => .ok d st
def e2 (f : Da → Da → Mo Da) (a b : Sl → Mo Da) : Sl → Mo Da := fun ro => bnd (a ro) fun x => bnd (b ro) fun y => f x y
def e1 (f : Da → Mo Da) (a : Sl → Mo Da) : Sl → Mo Da := fun ro => bnd (a ro) f
def toB : Da → Mo Bool
  | .bl b => ret b
  | _ => nop
def tst (a : Sl → Mo Da) : Sl → Mo Bool := fun ro => bnd (a ro) toB
def tAnd_ (a b : Sl → Mo Bool) : Sl → Mo Bool := fun ro => bnd (a ro) fun c => if c = true then b ro else ret false
def tOr_ (a b : Sl → Mo Bool) : Sl → Mo Bool := fun ro => bnd (a ro) fun c => if c = true then ret true else b ro
def tNot_ (a : Sl → Mo Bool) : Sl → Mo Bool := fun ro => bnd (a ro) fun c => ret (!c)
def vAnd (a b : Sl → Mo Da) : Sl → Mo Da := fun ro => bnd (tst a ro) fun c => if c = true then b ro else ret (.bl false)
def vOr (a b : Sl → Mo Da) : Sl → Mo Da := fun ro => bnd (tst a ro) fun c => if c = true then ret (.bl true) else b ro
def vNot (a : Sl → Mo Da) : Sl → Mo Da := fun ro => bnd (tst a ro) fun c => ret (.bl (!c))
def eIf (t : Sl → Mo Bool) (a b : Sl → Mo Da) : Sl → Mo Da := fun ro => bnd (t ro) fun c => if c = true then a ro else b ro
def aNil : Sl → Mo (List Da) := fun _ => ret []
def aCons (a : Sl → Mo Da) (r : Sl → Mo (List Da)) : Sl → Mo (List Da) := fun ro => bnd (a ro) fun x => bnd (r ro) fun xs => ret (x :: xs)
def eTup (a : Sl → Mo (List Da)) : Sl → Mo Da := fun ro => bnd (a ro) fun xs => if xs.length ≤ 1000 then ret (.tup xs) else nop
def lDisp (a : Sl → Mo (List Da)) : Sl → Mo (List Da) := fun ro => bnd (a ro) fun xs => if xs.length ≤ 1000 then ret xs else nop
def eL (a : Sl → Mo (List Da)) : Sl → Mo Da := fun ro => bnd (a ro) fun xs => ret (.lst xs)
def eH (a : Sl → Mo (List Da)) : Sl → Mo Da := fun ro => bnd (a ro) fun xs st => .ok (.han st.length) (st ++ [.lst xs])
def fz : Da → Mo Da
  | .han n => fun st => match st[n]? with
    | some (.lst ds) => .ok (.lst ds) (st.set n .dead)
    | _ => .bad
  | d => ret d
def eF (a : Sl → Mo Da) : Sl → Mo Da := fun ro => bnd (a ro) fz
def eChain (f g : Da → Da → Mo Da) (a b c : Sl → Mo Da) : Sl → Mo Da := fun ro => bnd (a ro) fun x => bnd (b ro) fun y => bnd (bnd (f x y) toB) fun k => if k = true then bnd (c ro) fun z => g y z else ret (.bl false)
def eCall (f : List Da → Mo Da) (a : Sl → Mo (List Da)) : Sl → Mo Da := fun ro => bnd (a ro) f
section
variable {K : PySem.W.Frag} {E : St → XK} {ta tb tc te : TE} {t u : TT} {a b c : Sl → Mo Da} {p q : Sl → Mo Bool} {r : R2} {f g : Da → Da → Mo Da} {tA : TA} {al : Sl → Mo (List Da)}
theorem s_var {i : Nat} : SE K E (tVar i) (eVar i) := fun w ro σ Q e h => by
  unfold eVar at h
  cases q : ro[i]? with
  | none => rw [q] at h; exact h.elim
  | some o =>
    cases o with
    | none => rw [q] at h; exact h.elim
    | some d =>
      rw [q] at h
      obtain ⟨v, h1, h2⟩ := e.slot i d q
      exact ⟨v, h1, h.here e.emb v h2⟩
theorem s_c {v : V} {d : Da} (hr : ∀ w, Em K w → Rep K w v d) : SE K E (tC v) (eC d) := fun w ro σ Q e h => h.here e.emb v (hr w e.emb)
theorem s_op (h2 : S2 K r f) (ha : SE K E ta a) (hb : SE K E tb b) : SE K E (tOp r ta tb) (e2 f a b) := fun w ro σ Q e h =>
  ha w ro σ _ e (h.bind.mono (fun d w1 x1 p1 m1 k v rv => hb w1 ro σ _ (e.mono x1 m1) (k.bind.mono (fun d2 w2 x2 p2 m2 k2 v2 rv2 =>
    h2 w2 v v2 d d2 Q _ m2 (rv.mono m1 x2) rv2 k2) fun _ _ _ z => z)) fun _ _ _ z => z)
theorem s_un {r : V → Hp → VK → Prop} {f : Da → Mo Da} (h1 : S1 K r f) (ha : SE K E ta a) : SE K E (tUn r ta) (e1 f a) := fun w ro σ Q e h =>
  ha w ro σ _ e (h.bind.mono (fun d w1 x1 p1 m1 k v rv => h1 w1 v d Q _ m1 rv k) fun _ _ _ z => z)
theorem toB_run {w : Wd} {d : Da} {ok : Bool → Wd → Prop} {ex : Str → List Da → Wd → Prop} (m : Em K w) (h : Run K w (toB d w.st) ok ex) : ∃ k, d = .bl k ∧ ok k w := by
  cases d with
  | bl k => exact ⟨k, rfl, h.here m⟩
  | non => exact h.elim
  | int i => exact h.elim
  | str s => exact h.elim
  | tup xs => exact h.elim
  | lst xs => exact h.elim
  | fro xs => exact h.elim
  | han n => exact h.elim
theorem rep_bl {w : Wd} {v : V} {k : Bool} (r : Rep K w v (.bl k)) : v = .bl k := by cases r; rfl
theorem rep_int {w : Wd} {v : V} {k : Int} (r : Rep K w v (.int k)) : v = .int k := by cases r; rfl
theorem rep_str {w : Wd} {v : V} {k : Str} (r : Rep K w v (.str k)) : v = .str k := by cases r; rfl
theorem rep_non {w : Wd} {v : V} (r : Rep K w v .non) : v = .non := by cases r; rfl
theorem s_tst (ha : SE K E ta a) : ST K E (tTest ta) (tst a) := fun w ro σ Q e h =>
  ha w ro σ _ e (h.bind.mono (fun d w1 x1 p1 m1 k v rv => by
    obtain ⟨c, rfl, q⟩ := toB_run m1 k
    exact ⟨c, rep_bl rv, q⟩) fun _ _ _ z => z)
theorem s_tB (ha : SE K E ta a) : ST K E (tB ta) (tst a) := s_tst ha
theorem s_and (ha : ST K E t p) (hb : ST K E u q) : ST K E (tAnd t u) (tAnd_ p q) := fun w ro σ Q e h =>
  ha w ro σ _ e (h.bind.mono (fun c w1 x1 p1 m1 k => by
    cases c with
    | true => rw [if_pos rfl] at k ⊢; exact hb w1 ro σ Q (e.mono x1 m1) k
    | false => rw [if_neg Bool.false_ne_true] at k ⊢; exact k.here m1) fun _ _ _ z => z)
theorem s_or (ha : ST K E t p) (hb : ST K E u q) : ST K E (tOr t u) (tOr_ p q) := fun w ro σ Q e h =>
  ha w ro σ _ e (h.bind.mono (fun c w1 x1 p1 m1 k => by
    cases c with
    | true => rw [if_pos rfl] at k ⊢; exact k.here m1
    | false => rw [if_neg Bool.false_ne_true] at k ⊢; exact hb w1 ro σ Q (e.mono x1 m1) k) fun _ _ _ z => z)
theorem s_not (ha : ST K E t p) : ST K E (tNot t) (tNot_ p) := fun w ro σ Q e h =>
  ha w ro σ _ e (h.bind.mono (fun c w1 x1 p1 m1 k => k.here m1) fun _ _ _ z => z)
theorem s_vAnd (ha : SE K E ta a) (hb : SE K E tb b) : SE K E (tAndV ta tb) (vAnd a b) := fun w ro σ Q e h => by
  unfold vAnd tst at h
  rw [bnd_assoc] at h
  refine ha w ro σ _ e (h.bind.mono (fun d w1 x1 p1 m1 k v rv => ?_) fun _ _ _ z => z)
  obtain ⟨c, rfl, k2⟩ := toB_run m1 k.bind
  refine ⟨c, rep_bl rv, ?_⟩
  cases c with
  | true => rw [if_pos rfl] at k2 ⊢; exact hb w1 ro σ Q (e.mono x1 m1) k2
  | false => rw [if_neg Bool.false_ne_true] at k2 ⊢; exact k2.here m1 _ (.bl false)
theorem s_vOr (ha : SE K E ta a) (hb : SE K E tb b) : SE K E (tOrV ta tb) (vOr a b) := fun w ro σ Q e h => by
  unfold vOr tst at h
  rw [bnd_assoc] at h
  refine ha w ro σ _ e (h.bind.mono (fun d w1 x1 p1 m1 k v rv => ?_) fun _ _ _ z => z)
  obtain ⟨c, rfl, k2⟩ := toB_run m1 k.bind
  refine ⟨c, rep_bl rv, ?_⟩
  cases c with
  | true => rw [if_pos rfl] at k2 ⊢; exact k2.here m1 _ (.bl true)
  | false => rw [if_neg Bool.false_ne_true] at k2 ⊢; exact hb w1 ro σ Q (e.mono x1 m1) k2
theorem s_vNot (ha : SE K E ta a) : SE K E (tNotV ta) (vNot a) := fun w ro σ Q e h => by
  unfold vNot tst at h
  rw [bnd_assoc] at h
  refine ha w ro σ _ e (h.bind.mono (fun d w1 x1 p1 m1 k v rv => ?_) fun _ _ _ z => z)
  obtain ⟨c, rfl, k2⟩ := toB_run m1 k.bind
  exact ⟨c, rep_bl rv, k2.here m1 _ (.bl (!c))⟩
theorem s_if (ht : ST K E t p) (ha : SE K E ta a) (hb : SE K E tb b) : SE K E (tIf t ta tb) (eIf p a b) := fun w ro σ Q e h =>
  ht w ro σ _ e (h.bind.mono (fun c w1 x1 p1 m1 k => by
    cases c with
    | true => rw [if_pos rfl] at k ⊢; exact ha w1 ro σ Q (e.mono x1 m1) k
    | false => rw [if_neg Bool.false_ne_true] at k ⊢; exact hb w1 ro σ Q (e.mono x1 m1) k) fun _ _ _ z => z)
theorem s_nil : SA K E tNil aNil := fun w ro σ Q e h => h.here e.emb [] .nil
theorem s_cons (ha : SE K E ta a) (hr : SA K E tA al) : SA K E (tCons ta tA) (aCons a al) := fun w ro σ Q e h =>
  ha w ro σ _ e (h.bind.mono (fun d w1 x1 p1 m1 k v rv => hr w1 ro σ _ (e.mono x1 m1) (k.bind.mono (fun ds w2 x2 p2 m2 k2 vs rvs =>
    k2.here m2 (v :: vs) (.cons (rv.mono m1 x2) rvs)) fun _ _ _ z => z)) fun _ _ _ z => z)
theorem le_line {n : Nat} (h : n ≤ 1000) : n ≤ sizeLine := Nat.le_of_lt (small1000 h)
theorem s_tup (ha : SA K E tA al) : SE K E (tTup tA) (eTup al) := fun w ro σ Q e h =>
  ha w ro σ _ e (h.bind.mono (fun ds w1 x1 p1 m1 k vs rvs => by
    by_cases hl : ds.length ≤ 1000
    · rw [if_pos hl] at k
      refine ⟨by rw [rvs.length]; exact le_line hl, fun p hp => ?_⟩
      exact k.at (w' := w1.new p (.tup vs)) (Ext.new m1 hp) (m1.new hp) rfl rfl _ (Rep.newTup m1 hp rvs)
    · rw [if_neg hl] at k; exact k.elim) fun _ _ _ z => z)
theorem s_lst (ha : SA K E tA al) : SL K E (tLst tA) (lDisp al) := fun w ro σ Q e h =>
  ha w ro σ _ e (h.bind.mono (fun ds w1 x1 p1 m1 k vs rvs => by
    by_cases hl : ds.length ≤ 1000
    · rw [if_pos hl] at k
      exact ⟨by rw [rvs.length]; exact le_line hl, fun p hp => okL_fresh m1 k rfl hp rvs⟩
    · rw [if_neg hl] at k; exact k.elim) fun _ _ _ z => z)
/-- a new list as data, as a thing -/
theorem s_L (ha : SL K E te al) : SE K E te (eL al) := fun w ro σ Q e h =>
  ha w ro σ _ e (h.bind.mono (fun ds w1 x1 p1 m1 k p vs hp rvs =>
    k.at (w' := w1.new p (.lst vs)) (Ext.new m1 hp) (m1.new hp) rfl rfl _ (Rep.newLst m1 hp rvs)) fun _ _ _ z => z)
theorem s_H (ha : SL K E te al) : SE K E te (eH al) := fun w ro σ Q e h =>
  ha w ro σ _ e (h.bind.mono (fun ds w1 x1 p1 m1 k p vs hp rvs => by
    have x2 : Ext w1 (w1.push p (.lst vs) (.lst ds)) := Ext.push m1 hp
    exact Run.at (w' := w1.push p (.lst vs) (.lst ds)) k x2 (m1.push hp ⟨vs, upd_same, rvs.mono m1 x2⟩) rfl rfl _ (.han (push_at m1))) fun _ _ _ z => z)
/-- a thing stops changing, where it is told -/
theorem s_F (ha : SE K E te a) : SE K E te (eF a) := fun w ro σ Q e h =>
  ha w ro σ _ e (h.bind.mono (fun d w1 x1 p1 m1 k v rv => by
    cases d with
    | han n =>
      have k' : Run K w1 (match w1.st[n]? with | some (.lst ds) => .ok (.lst ds) (w1.st.set n .dead) | _ => .bad) (OkV K Q) (XP K (E σ)) := k
      cases rv with
      | han ha =>
        cases q : w1.st[n]? with
        | none => rw [q] at k'; exact k'.elim
        | some c =>
          rw [q] at k'
          cases c with
          | lst ds =>
            obtain ⟨vs, hH, r⟩ := m1.cell n _ _ ha q
            exact Run.at (w' := w1.kill n) k' Ext.kill m1.kill rfl rfl _ (Rep.killed m1 ha hH r)
          | ins c fs => exact k'.elim
          | dK kvs => exact k'.elim
          | dead => exact k'.elim
    | non => exact k.here m1 v rv
    | bl b => exact k.here m1 v rv
    | int i => exact k.here m1 v rv
    | str s => exact k.here m1 v rv
    | tup xs => exact k.here m1 v rv
    | lst xs => exact k.here m1 v rv
    | fro xs => exact k.here m1 v rv) fun _ _ _ z => z)
theorem s_chain {r' : R2} (h1 : S2 K r f) (h2 : S2 K r' g) (ha : SE K E ta a) (hb : SE K E tb b) (hc : SE K E tc c) : SE K E (tChain r r' ta tb tc) (eChain f g a b c) := fun w ro σ Q e h =>
  ha w ro σ _ e (h.bind.mono (fun d w1 x1 p1 m1 k v rv => hb w1 ro σ _ (e.mono x1 m1) (k.bind.mono (fun d2 w2 x2 p2 m2 k2 v2 rv2 => by
    rw [bnd_assoc] at k2
    refine h1 w2 v v2 d d2 _ _ m2 (rv.mono m1 x2) rv2 (k2.bind.mono (fun z w3 x3 p3 m3 k3 v3 rv3 => ?_) fun _ _ _ z => z)
    obtain ⟨cc, rfl, k5⟩ := toB_run m3 k3.bind
    refine ⟨cc, rep_bl rv3, ?_⟩
    have e3 := e.mono (x1.trans (x2.trans x3)) m3
    cases cc with
    | true =>
      rw [if_pos rfl] at k5 ⊢
      exact hc w3 ro σ _ e3 (k5.bind.mono (fun d4 w4 x4 p4 m4 k4 v4 rv4 => h2 w4 v2 v4 d2 d4 Q _ m4 ((rv2.mono m2 x3).mono m3 x4) rv4 k4) fun _ _ _ z => z)
    | false => rw [if_neg Bool.false_ne_true] at k5 ⊢; exact k5.here m3 _ (.bl false)) fun _ _ _ z => z)) fun _ _ _ z => z)
theorem s_cb {r : List V → Hp → VK → Prop} {f : List Da → Mo Da} (hc : SC K r f) (ha : SA K E tA al) : SE K E (tCB r tA) (eCall f al) := fun w ro σ Q e h =>
  ha w ro σ _ e (h.bind.mono (fun ds w1 x1 p1 m1 k vs rvs => hc w1 vs ds Q _ m1 rvs k) fun _ _ _ z => z)
end
end CL
namespace CL
open PySem PySem.Spec L2
abbrev szD : Nat := 1000000
theorem szD_le {n : Nat} (h : n ≤ szD) : n ≤ sizeLine := Nat.le_trans h (by decide)
theorem szD_lt {n : Nat} (h : n < szD) : n < sizeLine := Nat.lt_of_lt_of_le h (by decide)
/-- the items of a list -/
def lsOf (st : Store) : Da → Option (List Da)
  | .lst xs => some xs
  | .han n => match st[n]? with
    | some (.lst xs) => some xs
    | _ => none
  | _ => none
/-- .. of a list or tuple, the script too -/
def sqOf (st : Store) : Da → Option (List Da)
  | .tup xs => some xs
  | .fro xs => some xs
  | d => lsOf st d
section
variable {K : PySem.W.Frag} {w : Wd}
theorem ls_rep {v : V} {d : Da} {ds : List Da} (m : Em K w) (r : Rep K w v d) (h : lsOf w.st d = some ds) : ∃ a vs, v = .ref a ∧ w.H a = some (.lst vs) ∧ RepL K w vs ds := by
  cases r with
  | lst h1 _ r1 => cases h; exact ⟨_, _, rfl, h1, r1⟩
  | @han a n ha =>
    have h' : (match w.st[n]? with | some (.lst xs) => some xs | _ => none) = some ds := h
    cases q : w.st[n]? with
    | none => rw [q] at h'; cases h'
    | some c =>
      rw [q] at h'
      cases c with
      | lst xs =>
        cases h'
        obtain ⟨vs, hH, r⟩ := m.cell n a _ ha q
        exact ⟨a, vs, rfl, hH, r⟩
      | ins c fs => cases h'
      | dK kvs => cases h'
      | dead => cases h'
  | non => cases h
  | bl b => cases h
  | int i => cases h
  | str s => cases h
  | tup h1 r1 => cases h
  | fro h1 r1 => cases h
theorem sq_rep {v : V} {d : Da} {ds : List Da} (m : Em K w) (r : Rep K w v d) (h : sqOf w.st d = some ds) : ∃ a vs, v = .ref a ∧ (SqL K w.H a vs ∨ SqT K w.H a vs) ∧ RepL K w vs ds := by
  cases r with
  | tup h1 r1 => cases h; exact ⟨_, _, rfl, .inr h1, r1⟩
  | fro h1 r1 => cases h; exact ⟨_, _, rfl, .inl h1.sq, r1⟩
  | lst h1 n1 r1 =>
    obtain ⟨a, vs, e, h2, r2⟩ := ls_rep m (.lst h1 n1 r1) h
    exact ⟨a, vs, e, .inl (SqL.of h2), r2⟩
  | han ha =>
    obtain ⟨a, vs, e, h2, r2⟩ := ls_rep m (.han ha) h
    exact ⟨a, vs, e, .inl (SqL.of h2), r2⟩
  | non => cases h
  | bl b => cases h
  | int i => cases h
  | str s => cases h
end
/-! ### operators -/
def addD : Da → Da → Mo Da
  | .int i, .int j => ret (.int (i + j))
  | .str a, .str b => if a.length + b.length ≤ szD then ret (.str (a ++ b)) else nop
  | .tup xs, .tup ys => if xs.length + ys.length ≤ szD then ret (.tup (xs ++ ys)) else nop
  | d, e => fun st => match lsOf st d, lsOf st e with
    | some xs, some ys => if xs.length + ys.length ≤ szD then .ok (.lst (xs ++ ys)) st else .bad
    | _, _ => .bad
def catL (d e : Da) : Mo (List Da) := fun st => match lsOf st d, lsOf st e with
    | some xs, some ys => if xs.length + ys.length ≤ szD then .ok (xs ++ ys) st else .bad
    | _, _ => .bad
def subD : Da → Da → Mo Da
  | .int i, .int j => ret (.int (i - j))
  | _, _ => nop
instance (i j : Int) : Decidable (CMul i j) := by unfold CMul; infer_instance
instance (i j : Int) : Decidable (CDivN i j) := by unfold CDivN; infer_instance
instance (i j : Int) : Decidable (CPow i j) := by unfold CPow; infer_instance
def mulD : Da → Da → Mo Da
  | .int i, .int j => if CMul i j then ret (.int (i * j)) else nop
  | _, _ => nop
def repL (d : Da) (e : Da) : Mo (List Da) := fun st => match lsOf st d, e with
    | some xs, .int k => if -(2 ^ 63) ≤ k ∧ k < 2 ^ 63 ∧ xs.length * k.toNat ≤ szD then .ok (List.replicate k.toNat xs).flatten st else .bad
    | _, _ => .bad
def fdivD : Da → Da → Mo Da
  | .int i, .int j => if CDivN i j then ret (.int (i.fdiv j)) else nop
  | _, _ => nop
def modD : Da → Da → Mo Da
  | .int i, .int j => if j ≠ 0 then ret (.int (i.fmod j)) else nop
  | _, _ => nop
def powD : Da → Da → Mo Da
  | .int i, .int j => if CPow i j then ret (.int (i ^ j.toNat)) else nop
  | _, _ => nop
def cmpI (f : Int → Int → Bool) : Da → Da → Mo Da
  | .int i, .int j => ret (.bl (f i j))
  | _, _ => nop
def ltD := cmpI fun i j => decide (i < j)
def leD := cmpI fun i j => decide (i ≤ j)
def gtD := cmpI fun i j => decide (j < i)
def geD := cmpI fun i j => decide (j ≤ i)
/-! ### data without things -/
mutual
def pyW (hf : Nat → Option PyData) : Da → Option PyData
  | .non => some .none
  | .bl b => some (.bool b)
  | .int i => some (.int i)
  | .str s => some (.str s)
  | .tup xs => (pyWL hf xs).map .tuple
  | .lst xs => (pyWL hf xs).map .list
  | .fro xs => (pyWL hf xs).map .list
  | .han n => hf n
def pyWL (hf : Nat → Option PyData) : List Da → Option (List PyData)
  | [] => some []
  | x :: xs => match pyW hf x, pyWL hf xs with
    | some d, some ds => some (d :: ds)
    | _, _ => none
end
abbrev py0 : Da → Option PyData := pyW fun _ => none
abbrev py0L : List Da → Option (List PyData) := pyWL fun _ => none
def hfOf (st : Store) (n : Nat) : Option PyData := match st[n]? with
  | some (.lst xs) => (py0L xs).map .list
  | _ => none
abbrev pyD (st : Store) : Da → Option PyData := pyW (hfOf st)
section
variable {K : PySem.W.Frag} {w : Wd}
mutual
theorem dp_of {hf : Nat → Option PyData} (hh : ∀ n a p, hf n = some p → w.io[n]? = some a → Dp K w.H (.ref a) p) : ∀ (d : Da) (v : V) (p : PyData), Rep K w v d → pyW hf d = some p → Dp K w.H v p
  | .non, _, _, r, h => by cases r; cases h; exact .non
  | .bl b, _, _, r, h => by cases r; cases h; exact .bl b
  | .int i, _, _, r, h => by cases r; cases h; exact .int i
  | .str s, _, _, r, h => by cases r; cases h; exact .str s
  | .tup xs, _, _, r, h => by
    cases r with
    | tup h1 r1 =>
      unfold pyW at h
      cases q : pyWL hf xs with
      | none => rw [q] at h; cases h
      | some ps => rw [q] at h; cases h; exact .tup h1 (dpAll_of hh xs _ ps r1 q)
  | .lst xs, _, _, r, h => by
    cases r with
    | lst h1 _ r1 =>
      unfold pyW at h
      cases q : pyWL hf xs with
      | none => rw [q] at h; cases h
      | some ps => rw [q] at h; cases h; exact .lst (SqL.of h1) (dpAll_of hh xs _ ps r1 q)
  | .fro xs, _, _, r, h => by
    cases r with
    | fro h1 r1 =>
      unfold pyW at h
      cases q : pyWL hf xs with
      | none => rw [q] at h; cases h
      | some ps => rw [q] at h; cases h; exact .lst h1.sq (dpAll_of hh xs _ ps r1 q)
  | .han n, _, _, r, h => by
    cases r with
    | han ha => exact hh n _ _ (by unfold pyW at h; exact h) ha
theorem dpAll_of {hf : Nat → Option PyData} (hh : ∀ n a p, hf n = some p → w.io[n]? = some a → Dp K w.H (.ref a) p) : ∀ (ds : List Da) (vs : List V) (ps : List PyData), RepL K w vs ds → pyWL hf ds = some ps → DpAll K w.H vs ps
  | [], _, _, r, h => by cases r; cases h; exact .nil
  | d :: ds, _, _, r, h => by
    cases r with
    | cons r1 r2 =>
      unfold pyWL at h
      cases q1 : pyW hf d with
      | none => rw [q1] at h; cases h
      | some p =>
        cases q2 : pyWL hf ds with
        | none => rw [q1, q2] at h; cases h
        | some ps => rw [q1, q2] at h; cases h; exact .cons (dp_of hh d _ p r1 q1) (dpAll_of hh ds _ ps r2 q2)
end
theorem dp_py0 {d : Da} {v : V} {p : PyData} (r : Rep K w v d) (h : py0 d = some p) : Dp K w.H v p := dp_of (hf := fun _ => none) (fun _ _ _ z => nomatch z) d v p r h
theorem dp_hf (m : Em K w) : ∀ n a p, hfOf w.st n = some p → w.io[n]? = some a → Dp K w.H (.ref a) p := fun n a p h ha => by
  unfold hfOf at h
  cases q : w.st[n]? with
  | none => rw [q] at h; cases h
  | some c =>
    rw [q] at h
    cases c with
    | lst xs =>
      obtain ⟨vs, hH, r⟩ := m.cell n a _ ha q
      have h' : (py0L xs).map PyData.list = some p := h
      cases q2 : py0L xs with
      | none => rw [q2] at h'; cases h'
      | some ps =>
        rw [q2] at h'
        cases h'
        exact .lst (SqL.of hH) (dpAll_of (hf := fun _ => none) (fun _ _ _ z => nomatch z) xs vs ps r q2)
    | ins c fs => cases h
    | dK kvs => cases h
    | dead => cases h
theorem dp_py (m : Em K w) {d : Da} {v : V} {p : PyData} (r : Rep K w v d) (h : pyD w.st d = some p) : Dp K w.H v p := dp_of (dp_hf m) d v p r h
end
def eqB (neg : Bool) (d e : Da) : Mo Da := fun st => match pyD st d, pyD st e with
  | some p, some q => if (SeqAt.shaped p && SeqAt.shaped q) = true then .ok (.bl (if neg then !PyData.eqv p q else PyData.eqv p q)) st else .bad
  | _, _ => .bad
abbrev eqD := eqB false
abbrev neD := eqB true
/-- x in a list or tuple of flat things; of data (a list) -/
def flatD : Da → Bool
  | .non => true
  | .bl _ => true
  | .int _ => true
  | .str _ => true
  | _ => false
def vOf : Da → V
  | .non => .non
  | .bl b => .bl b
  | .int i => .int i
  | .str s => .str s
  | _ => .non
def inB (neg : Bool) (d e : Da) : Mo Da := fun st => match sqOf st e with
  | some xs => if (flatD d && xs.all flatD) = true then .ok (.bl (if neg then !inV (vOf d) (xs.map vOf) else inV (vOf d) (xs.map vOf))) st else .bad
  | none => .bad
def inDB (neg : Bool) (d e : Da) : Mo Da := fun st => match pyD st d, pyD st e with
  | some p, some (.list qs) => if (SeqAt.shaped p && SeqAt.shaped (.list qs)) = true then .ok (.bl (if neg then !qs.any (fun z => PyData.eqv z p) else qs.any fun z => PyData.eqv z p)) st else .bad
  | _, _ => .bad
def isB (neg : Bool) : Da → Da → Mo Da
  | .bl a, .bl b => ret (.bl (if neg then !decide (a = b) else decide (a = b)))
  | d, .non => ret (.bl (if neg then !(match d with | .non => true | _ => false) else match d with | .non => true | _ => false))
  | _, _ => nop
def negD : Da → Mo Da
  | .int i => ret (.int (-i))
  | _ => nop
/-! ### subscripts -/
def ixD (d e : Da) : Mo Da := fun st => match e with
  | .int i => (match d with
    | .str s => if s.length ≤ szD then (match atI s.cps.toList i with
      | some c => .ok (.str ⟨#[c]⟩) st
      | none => .bad) else .bad
    | d => (match d with
      | .fro _ => .bad
      | d => match sqOf st d with
        | some xs => (match atI xs i with
          | some x => .ok x st
          | none => .bad)
        | none => .bad))
  | _ => .bad
def cutD (xs : List Da) (lo hi : Option Int) : List Da := (xs.drop (HT.sIx xs.length 0 lo)).take (HT.sIx xs.length xs.length hi - HT.sIx xs.length 0 lo)
structure QO (X : Cx) (f : Value → Value → Sem Value) (r : R2) (g : Da → Da → Mo Da) : Prop where
  op : OpR X f r
  s2 : S2 X.K r g
def rOr (r r' : R2) : R2 := fun x y H Q => r x y H Q ∨ r' x y H Q
section
variable {X : Cx} {K : PySem.W.Frag} {w : Wd}
theorem OpR.or {f : Value → Value → Sem Value} {r r' : R2} (h : OpR X f r) (h' : OpR X f r') : OpR X f (rOr r r') := fun pins s σ H x y v u Q I rx ry q => by
  rcases q with q | q
  · exact h pins s σ H x y v u Q I rx ry q
  · exact h' pins s σ H x y v u Q I rx ry q
theorem QO.or2 {f : Value → Value → Sem Value} {g : Da → Da → Mo Da} {r r' : R2} (h : OpR X f r) (h' : OpR X f r') (s : S2 X.K (rOr r r') g) : QO X f (rOr r r') g := ⟨OpR.or h h', s⟩
theorem at_map {vs : List V} {ds : List Da} {i : Int} {x : Da} (r : RepL K w vs ds) (h : atI ds i = some x) : ∃ v, atI vs i = some v ∧ Rep K w v x := by
  unfold atI at h ⊢
  rw [r.length]
  cases q : ixN ds.length i with
  | none => rw [q] at h; cases h
  | some j =>
    rw [q] at h
    exact r.get h
theorem q_sub : QO X (binaryOp .Sub) (rI0 fun i j => .int (i - j)) subD := ⟨op_sub, fun w x y d e Q ex m rx ry h => by
  unfold subD at h
  split at h
  · cases rx; cases ry
    exact ⟨_, _, rfl, rfl, h.here m _ (.int _)⟩
  · exact h.elim⟩
theorem q_mul : QO X (binaryOp .Mult) (rI CMul fun i j => .int (i * j)) mulD := ⟨op_mul, fun w x y d e Q ex m rx ry h => by
  unfold mulD at h
  split at h
  · cases rx; cases ry
    split at h
    · rename_i hc
      exact ⟨_, _, rfl, rfl, hc, h.here m _ (.int _)⟩
    · exact h.elim
  · exact h.elim⟩
theorem q_fdiv : QO X (binaryOp .FloorDiv) (rI CDivN fun i j => .int (i.fdiv j)) fdivD := ⟨op_fdivN, fun w x y d e Q ex m rx ry h => by
  unfold fdivD at h
  split at h
  · cases rx; cases ry
    split at h
    · rename_i hc
      exact ⟨_, _, rfl, rfl, hc, h.here m _ (.int _)⟩
    · exact h.elim
  · exact h.elim⟩
theorem q_mod : QO X (binaryOp .Mod) (rI (fun _ j => j ≠ 0) fun i j => .int (i.fmod j)) modD := ⟨op_modN, fun w x y d e Q ex m rx ry h => by
  unfold modD at h
  split at h
  · cases rx; cases ry
    split at h
    · rename_i hc
      exact ⟨_, _, rfl, rfl, hc, h.here m _ (.int _)⟩
    · exact h.elim
  · exact h.elim⟩
theorem q_pow : QO X (binaryOp .Pow) (rI CPow fun i j => .int (i ^ j.toNat)) powD := ⟨op_pow, fun w x y d e Q ex m rx ry h => by
  unfold powD at h
  split at h
  · cases rx; cases ry
    split at h
    · rename_i hc
      exact ⟨_, _, rfl, rfl, hc, h.here m _ (.int _)⟩
    · exact h.elim
  · exact h.elim⟩
theorem q_cmpI {op : CmpOp} {f : Int → Int → Bool} (ho : OpR X (compareOp op) (rI0 fun i j => .bl (f i j))) : QO X (compareOp op) (rI0 fun i j => .bl (f i j)) (cmpI f) := ⟨ho, fun w x y d e Q ex m rx ry h => by
  unfold cmpI at h
  split at h
  · cases rx; cases ry
    exact ⟨_, _, rfl, rfl, h.here m _ (.bl _)⟩
  · exact h.elim⟩
theorem q_lt : QO X (compareOp .Lt) (rI0 fun i j => .bl (decide (i < j))) ltD := q_cmpI op_lt
theorem q_le : QO X (compareOp .LtE) (rI0 fun i j => .bl (decide (i ≤ j))) leD := q_cmpI op_le
theorem q_gt : QO X (compareOp .Gt) (rI0 fun i j => .bl (decide (j < i))) gtD := q_cmpI op_gt
theorem q_ge : QO X (compareOp .GtE) (rI0 fun i j => .bl (decide (j ≤ i))) geD := q_cmpI op_ge
theorem q_eqB {op : CmpOp} {neg : Bool} {r : R2} (ho : OpR X (compareOp op) r) (hr : ∀ x y H Q d e, Dp X.K H x d → Dp X.K H y e → SeqAt.shaped d = true → SeqAt.shaped e = true → Q (.bl (if neg then !PyData.eqv d e else PyData.eqv d e)) H → r x y H Q) : QO X (compareOp op) r (eqB neg) := ⟨ho, fun w x y d e Q ex m rx ry h => by
  unfold eqB at h
  split at h
  · rename_i p q h1 h2
    split at h
    · rename_i hs
      obtain ⟨s1, s2⟩ := Bool.and_eq_true_iff.mp hs
      exact hr x y w.H Q p q (dp_py m rx h1) (dp_py m ry h2) s1 s2 (h.here m _ (.bl _))
    · exact h.elim
  · exact h.elim⟩
theorem q_eq' (hu : X.A.units + 64 < cLine) : QO X (compareOp .Eq) (rEqD X.K) eqD := q_eqB (op_eqD hu) fun x y H Q d e h1 h2 h3 h4 h => ⟨d, e, h1, h2, h3, h4, h⟩
theorem q_ne' (hu : X.A.units + 64 < cLine) : QO X (compareOp .NotEq) (rNeD X.K) neD := q_eqB (op_neD hu) fun x y H Q d e h1 h2 h3 h4 h => ⟨d, e, h1, h2, h3, h4, h⟩
theorem rep_flat {d : Da} {v : V} (r : Rep K w v d) (h : flatD d = true) : v = vOf d ∧ flatV v = true := by
  cases r <;> first | exact ⟨rfl, rfl⟩ | cases h
theorem repL_flat : ∀ {ds : List Da} {vs : List V}, RepL K w vs ds → ds.all flatD = true → vs = ds.map vOf ∧ vs.all flatV = true
  | _, _, .nil, _ => ⟨rfl, rfl⟩
  | _, _, .cons r t, h => by
    obtain ⟨h1, h2⟩ := Bool.and_eq_true_iff.mp (show (_ && _) = true from h)
    obtain ⟨e1, f1⟩ := rep_flat r h1
    obtain ⟨e2, f2⟩ := repL_flat t h2
    refine ⟨by rw [List.map_cons, e1, ← e2], ?_⟩
    rw [List.all_cons, f1, f2]; rfl
theorem q_inB {op : CmpOp} {neg : Bool} (ho : OpR X (compareOp op) (rIn X.K neg)) : QO X (compareOp op) (rIn X.K neg) (inB neg) := ⟨ho, fun w x y d e Q ex m rx ry h => by
  unfold inB at h
  split at h
  · rename_i xs h1
    split at h
    · rename_i hs
      obtain ⟨s1, s2⟩ := Bool.and_eq_true_iff.mp hs
      obtain ⟨a, vs, rfl, hq, rl⟩ := sq_rep m ry h1
      obtain ⟨e1, f1⟩ := rep_flat rx s1
      obtain ⟨e2, f2⟩ := repL_flat rl s2
      refine ⟨a, vs, rfl, hq, f1, f2, ?_⟩
      rw [e1, e2]
      exact h.here m _ (.bl _)
    · exact h.elim
  · exact h.elim⟩
theorem q_in' : QO X (compareOp .In) (rIn X.K false) (inB false) := q_inB op_in_seq
theorem q_notIn' : QO X (compareOp .NotIn) (rIn X.K true) (inB true) := q_inB op_notIn_seq
theorem q_inDB {op : CmpOp} {neg : Bool} {r : R2} (ho : OpR X (compareOp op) r) (hr : ∀ x y H Q d ds, Dp X.K H x d → Dp X.K H y (.list ds) → SeqAt.shaped d = true → SeqAt.shaped (.list ds) = true → Q (.bl (if neg then !ds.any (fun z => PyData.eqv z d) else ds.any fun z => PyData.eqv z d)) H → r x y H Q) : QO X (compareOp op) r (inDB neg) := ⟨ho, fun w x y d e Q ex m rx ry h => by
  unfold inDB at h
  split at h
  · rename_i p q h1 h2
    split at h
    · rename_i hs
      obtain ⟨s1, s2⟩ := Bool.and_eq_true_iff.mp hs
      exact hr x y w.H Q p q (dp_py m rx h1) (dp_py m ry h2) s1 s2 (h.here m _ (.bl _))
    · exact h.elim
  · exact h.elim⟩
theorem q_inD' (hu : X.A.units + 65 < cLine) : QO X (compareOp .In) (rInD X.K) (inDB false) := q_inDB (op_inD hu) fun x y H Q d e h1 h2 h3 h4 h => ⟨d, e, h1, h2, h3, h4, h⟩
theorem q_notInD' (hu : X.A.units + 65 < cLine) : QO X (compareOp .NotIn) (rNotInD X.K) (inDB true) := q_inDB (op_notInD hu) fun x y H Q d e h1 h2 h3 h4 h => ⟨d, e, h1, h2, h3, h4, h⟩
theorem q_isB {op : CmpOp} {neg : Bool} {r r' : R2} (ho : OpR X (compareOp op) r) (ho' : OpR X (compareOp op) r') (h1 : ∀ x H Q, Q (.bl (if neg then !decide (x = .non) else decide (x = .non))) H → r x .non H Q) (h2 : ∀ a b H Q, Q (.bl (if neg then !decide (a = b) else decide (a = b))) H → r' (.bl a) (.bl b) H Q) :
    QO X (compareOp op) (rOr r r') (isB neg) := QO.or2 ho ho' fun w x y d e Q ex m rx ry h => by
  unfold isB at h
  split at h
  · cases rx; cases ry
    exact .inr (h2 _ _ _ _ (h.here m _ (.bl _)))
  · cases ry
    refine .inl (h1 _ _ _ ?_)
    have k := h.here m _ (.bl _)
    cases rx <;> exact k
  · exact h.elim
abbrev rIs : R2 := rOr (fun x y H Q => y = .non ∧ Q (.bl (decide (x = .non))) H) (fun x y H Q => ∃ a b, x = .bl a ∧ y = .bl b ∧ Q (.bl (decide (a = b))) H)
abbrev rIsNot : R2 := rOr (fun x y H Q => y = .non ∧ Q (.bl (!decide (x = .non))) H) (fun x y H Q => ∃ a b, x = .bl a ∧ y = .bl b ∧ Q (.bl (!decide (a = b))) H)
theorem q_is : QO X (compareOp .Is) rIs (isB false) := q_isB op_isN op_is_bl (fun x H Q h => ⟨rfl, h⟩) fun a b H Q h => ⟨a, b, rfl, rfl, h⟩
theorem q_isNot : QO X (compareOp .IsNot) rIsNot (isB true) := q_isB op_notN op_isnot_bl (fun x H Q h => ⟨rfl, h⟩) fun a b H Q h => ⟨a, b, rfl, rfl, h⟩
def rAddA (K : PySem.W.Frag) : R2 := rOr (rOr (rI0 fun i j => .int (i + j)) (fun x y H Q => ∃ i j, x = .str i ∧ y = .str j ∧ i.length + j.length ≤ sizeLine ∧ Q (.str (i ++ j)) H)) (rOr (rCatA K) rCat)
theorem q_add' : QO X (binaryOp .Add) (rAddA X.K) addD := by
  refine ⟨OpR.or (OpR.or op_add op_add_str) (OpR.or op_catA op_cat), fun w x y d e Q ex m rx ry h => ?_⟩
  unfold addD at h
  split at h
  · cases rx; cases ry
    exact .inl (.inl ⟨_, _, rfl, rfl, h.here m _ (.int _)⟩)
  · cases rx; cases ry
    split at h
    · rename_i hl
      exact .inl (.inr ⟨_, _, rfl, rfl, szD_le hl, h.here m _ (.str _)⟩)
    · exact h.elim
  · split at h
    · rename_i hl
      cases rx with
      | @tup a vs _ h1 r1 =>
        cases ry with
        | @tup b us _ h2 r2 =>
          refine .inr (.inl ⟨a, b, vs, us, rfl, rfl, h1, h2, ?_, fun e => ?_, fun n1 e => ?_, fun n1 n2 p hp => ?_⟩)
          · rw [r1.length, r2.length]; exact szD_le hl
          · subst e; cases r1; exact h.here m _ (.tup h2 r2)
          · subst e; cases r2; rw [List.append_nil] at h; exact h.here m _ (.tup h1 r1)
          · exact Run.at (w' := w.new p (.tup (vs ++ us))) h (Ext.new m hp) (m.new hp) rfl rfl _ (Rep.newTup m hp (r1.append r2))
    · exact h.elim
  · dsimp only at h
    split at h
    · rename_i xs ys h1 h2
      split at h
      · rename_i hl
        obtain ⟨a, vs, rfl, hH, r1⟩ := ls_rep m rx h1
        obtain ⟨b, us, rfl, hH2, r2⟩ := ls_rep m ry h2
        refine .inr (.inr ⟨a, b, vs, us, rfl, rfl, hH, hH2, by rw [r1.length, r2.length]; exact szD_le hl, fun p hp => ?_⟩)
        exact Run.at (w' := w.new p (.lst (vs ++ us))) h (Ext.new m hp) (m.new hp) rfl rfl _ (Rep.newLst m hp (r1.append r2))
      · exact h.elim
    · exact h.elim
/-- a new list out of two operands -/
structure QOL (X : Cx) (f : Value → Value → Sem Value) (r : R2) (g : Da → Da → Mo (List Da)) : Prop where
  op : OpR X f r
  s2 : ∀ (w : Wd) (x y : V) (d e : Da) (Q : VK) (ex : Str → List Da → Wd → Prop), Em X.K w → Rep X.K w x d → Rep X.K w y e →
  Run X.K w (g d e w.st) (OkL X.K Q) ex → r x y w.H Q
theorem ql_cat : QOL X (binaryOp .Add) rCat catL := ⟨op_cat, fun w x y d e Q ex m rx ry h => by
  unfold catL at h
  split at h
  · rename_i xs ys h1 h2
    split at h
    · rename_i hl
      obtain ⟨a, vs, rfl, hH, r1⟩ := ls_rep m rx h1
      obtain ⟨b, us, rfl, hH2, r2⟩ := ls_rep m ry h2
      exact ⟨a, b, vs, us, rfl, rfl, hH, hH2, by rw [r1.length, r2.length]; exact szD_le hl, fun p hp => h.here m p _ hp (r1.append r2)⟩
    · exact h.elim
  · exact h.elim⟩
theorem RepL.flat {vs : List V} {ds : List Da} (r : RepL K w vs ds) : ∀ n, RepL K w (List.replicate n vs).flatten (List.replicate n ds).flatten
  | 0 => .nil
  | n + 1 => by
    rw [List.replicate_succ, List.replicate_succ, List.flatten_cons, List.flatten_cons]
    exact r.append (RepL.flat r n)
theorem ql_rep : QOL X (binaryOp .Mult) rRep repL := ⟨op_rep, fun w x y d e Q ex m rx ry h => by
  unfold repL at h
  split at h
  · rename_i xs k h1
    split at h
    · rename_i hl
      obtain ⟨a, vs, rfl, hH, r1⟩ := ls_rep m rx h1
      cases ry
      exact ⟨a, k, vs, rfl, rfl, hH, hl.1, hl.2.1, by rw [r1.length]; exact szD_le hl.2.2, fun p hp => h.here m p _ hp (r1.flat _)⟩
    · exact h.elim
  · exact h.elim⟩
/-! ### subscripts -/
theorem q_ix : IxR X (rIx X.K) ∧ S2 X.K (rIx X.K) ixD := by
  refine ⟨ix_seq, fun w x y d e Q ex m rx ry h => ?_⟩
  unfold ixD at h
  split at h
  · cases ry
    split at h
    · cases rx
      split at h
      · rename_i hl
        split at h
        · rename_i c hc
          exact .inr (.inr ⟨_, _, c, rfl, rfl, szD_le hl, hc, h.here m _ (.str _)⟩)
        · exact h.elim
      · exact h.elim
    · split at h
      · exact h.elim
      · rename_i hs hf
        split at h
        · rename_i xs hx
          split at h
          · rename_i z hz
            obtain ⟨a, vs, rfl, hq, rl⟩ := sq_rep m rx hx
            obtain ⟨v, hv, rv⟩ := at_map rl hz
            rcases hq with hq | hq
            · exact .inl ⟨a, vs, _, v, rfl, rfl, hq, hv, h.here m v rv⟩
            · exact .inr (.inl ⟨a, vs, _, v, rfl, rfl, hq, hv, h.here m v rv⟩)
          · exact h.elim
        · exact h.elim
  · exact h.elim
theorem cut_rep {vs : List V} {ds : List Da} (r : RepL K w vs ds) (lo hi : Option Int) : RepL K w (cutV vs lo hi) (cutD ds lo hi) := by
  unfold cutV cutD
  rw [r.length]
  exact (r.drop _).take _
/-- slices of tuples and texts, as data; of lists: a new list -/
def slT : Da → Option Int → Option Int → Mo Da
  | .tup xs, lo, hi => ret (.tup (cutD xs lo hi))
  | _, _, _ => nop
def slS : Da → Option Int → Option Int → Mo Da
  | .str s, lo, hi => if s.length ≤ szD then ret (.str (cutS s lo hi)) else nop
  | _, _, _ => nop
def slL (d : Da) (lo hi : Option Int) : Mo (List Da) := fun st => match lsOf st d with
  | some xs => .ok (cutD xs lo hi) st
  | none => .bad
def slA : Da → Option Int → Option Int → Mo Da
  | .tup xs, lo, hi => ret (.tup (cutD xs lo hi))
  | .str s, lo, hi => if s.length ≤ szD then ret (.str (cutS s lo hi)) else nop
  | d, lo, hi => fun st => match lsOf st d with
    | some xs => .ok (.lst (cutD xs lo hi)) st
    | none => .bad
def S3 (K : PySem.W.Frag) (r : V → Option Int → Option Int → Hp → VK → Prop) (f : Da → Option Int → Option Int → Mo Da) : Prop := ∀ (w : Wd) (x : V) (d : Da) (lo hi : Option Int) (Q : VK) (ex : Str → List Da → Wd → Prop), Em K w → Rep K w x d →
  Run K w (f d lo hi w.st) (OkV K Q) ex → r x lo hi w.H Q
def rSlAll (K : PySem.W.Frag) : V → Option Int → Option Int → Hp → VK → Prop := fun x lo hi H Q => (rSlA K x lo hi H Q ∨ rSlS x lo hi H Q) ∨ rSlL K x lo hi H Q
theorem q_slA : SlR X (rSlAll X.K) ∧ S3 X.K (rSlAll X.K) slA := by
  refine ⟨SlR.or (SlR.or sl_tupA sl_str) sl_list, fun w x d lo hi Q ex m rx h => ?_⟩
  unfold slA at h
  split at h
  · rename_i ys
    cases rx with
    | @tup a vs _ h1 r1 =>
      refine .inl (.inl ⟨a, vs, rfl, h1, fun hw => ?_, fun _ p hp => ?_⟩)
      · have k := h.here m (.ref a)
        refine k (.tup h1 ?_)
        have e : cutD ys lo hi = ys := by
          unfold cutD
          rw [← r1.length, hw.1, hw.2]
          simp only [List.drop_zero, Nat.sub_zero]
          rw [r1.length, List.take_length]
        rw [e]
        exact r1
      · exact Run.at (w' := w.new p (.tup (cutV vs lo hi))) h (Ext.new m hp) (m.new hp) rfl rfl _ (Rep.newTup m hp (cut_rep r1 lo hi))
  · cases rx
    split at h
    · rename_i hl
      exact .inl (.inr ⟨_, rfl, szD_le hl, h.here m _ (.str _)⟩)
    · exact h.elim
  · dsimp only at h
    split at h
    · rename_i xs h1
      obtain ⟨a, vs, rfl, hH, r1⟩ := ls_rep m rx h1
      refine .inr ⟨a, vs, rfl, SqL.of hH, fun p hp => ?_⟩
      exact Run.at (w' := w.new p (.lst (cutV vs lo hi))) h (Ext.new m hp) (m.new hp) rfl rfl _ (Rep.newLst m hp (cut_rep r1 lo hi))
    · exact h.elim
theorem q_eq {K : PySem.W.Frag} (hu : X.A.units + 64 < cLine) (hK : X.K = K := by rfl) : QO X (compareOp .Eq) (rEqD K) eqD := by subst hK; exact q_eq' hu
theorem q_ne {K : PySem.W.Frag} (hu : X.A.units + 64 < cLine) (hK : X.K = K := by rfl) : QO X (compareOp .NotEq) (rNeD K) neD := by subst hK; exact q_ne' hu
theorem q_in {K : PySem.W.Frag} (hK : X.K = K := by rfl) : QO X (compareOp .In) (rIn K false) (inB false) := by subst hK; exact q_in'
theorem q_notIn {K : PySem.W.Frag} (hK : X.K = K := by rfl) : QO X (compareOp .NotIn) (rIn K true) (inB true) := by subst hK; exact q_notIn'
theorem q_inD {K : PySem.W.Frag} (hu : X.A.units + 65 < cLine) (hK : X.K = K := by rfl) : QO X (compareOp .In) (rInD K) (inDB false) := by subst hK; exact q_inD' hu
theorem q_notInD {K : PySem.W.Frag} (hu : X.A.units + 65 < cLine) (hK : X.K = K := by rfl) : QO X (compareOp .NotIn) (rNotInD K) (inDB true) := by subst hK; exact q_notInD' hu
theorem q_add {K : PySem.W.Frag} (hK : X.K = K := by rfl) : QO X (binaryOp .Add) (rAddA K) addD := by subst hK; exact q_add'
end
end CL
namespace CL
open PySem PySem.Spec L2
/-! ### kinds -/
inductive Tn where
  | non | bool | int | str | list | tuple | dict
  deriving DecidableEq
def Tn.name : Tn → String
  | .non => "NoneType"
  | .bool => "bool"
  | .int => "int"
  | .str => "str"
  | .list => "list"
  | .tuple => "tuple"
  | .dict => "dict"
def isTn (a t : Tn) : Bool := decide (a = t) || (decide (a = .bool) && decide (t = .int))
def tyN (st : Store) : Da → Option Tn
  | .non => some .non
  | .bl _ => some .bool
  | .int _ => some .int
  | .str _ => some .str
  | .tup _ => some .tuple
  | .lst _ => some .list
  | .fro _ => some .list
  | .han n => match st[n]? with
    | some (.lst _) => some .list
    | some (.dK _) => some .dict
    | _ => none
theorem kit_tn : ∀ a t : Tn, t ≠ .non → t ≠ .dict → kitB a.name t.name = some (isTn a t) := by
  intro a t
  cases t <;> intro h1 h2 <;> first | exact absurd rfl h1 | exact absurd rfl h2 | (cases a <;> decide +kernel)
def isT (t : Tn) (d : Da) : Mo Da := fun st => match tyN st d with
  | some a => .ok (.bl (isTn a t)) st
  | none => .bad
def lenD (d : Da) : Mo Da := fun st => match d with
  | .str s => if s.length ≤ szD then .ok (.int s.length) st else .bad
  | d => match sqOf st d with
    | some xs => .ok (.int xs.length) st
    | none => .bad
def one {A : Type} (f : Da → Mo A) : List Da → Mo A
  | [d] => f d
  | _ => nop
def two {A : Type} (f : Da → Da → Mo A) : List Da → Mo A
  | [d, e] => f d e
  | _ => nop
def listD (d : Da) : Mo (List Da) := fun st => match sqOf st d with
  | some xs => .ok xs st
  | none => .bad
def tupleD (d : Da) : Mo Da := fun st => match d with
  | .fro _ => .bad
  | d => match sqOf st d with
    | some xs => .ok (.tup xs) st
    | none => .bad
def blsOf : List Da → Option (List Bool)
  | [] => some []
  | .bl b :: r => (blsOf r).map (b :: ·)
  | _ => none
def intsOf : List Da → Option (List Int)
  | [] => some []
  | .int b :: r => (intsOf r).map (b :: ·)
  | _ => none
def allD (d : Da) : Mo Da := fun st => match lsOf st d with
  | some xs => (match blsOf xs with
    | some bs => .ok (.bl (bs.all id)) st
    | none => .bad)
  | none => .bad
def maxD : Da → Da → Mo Da
  | .int i, .int j => ret (.int (if j > i then j else i))
  | _, _ => nop
def minD : Da → Da → Mo Da
  | .int i, .int j => ret (.int (if j < i then j else i))
  | _, _ => nop
section
variable {X : Cx} {K : PySem.W.Frag} {w : Wd}
theorem ty_rep {v : V} {d : Da} {a : Tn} (m : Em K w) (r : Rep K w v d) (h : tyN w.st d = some a) : TyX K w.H v (.type a.name) := by
  cases r with
  | non => cases h; exact .base .non
  | bl b => cases h; exact .base (.bl b)
  | int i => cases h; exact .base (.int i)
  | str s => cases h; exact .base (.str s)
  | tup h1 r1 =>
    cases h
    rcases h1 with (h1 | ⟨o, h1⟩) | ⟨o, its, n, h1, h2, _⟩
    · exact .base (.tup h1)
    · exact .fTuple h1
    · exact .kTuple h1 h2
  | lst h1 _ r1 => cases h; exact .base (.lst h1)
  | fro h1 r1 =>
    cases h
    rcases h1 with ⟨o, h1⟩ | ⟨o, its, n, h1, h2, _⟩
    · exact .base (.frz h1)
    · exact .kList h1 h2
  | @han a n ha =>
    have h' : (match w.st[n]? with | some (.lst _) => some Tn.list | some (.dK _) => some Tn.dict | _ => none) = some _ := h
    cases q : w.st[n]? with
    | none => rw [q] at h'; cases h'
    | some c =>
      rw [q] at h'
      have ok := m.cell n a c ha q
      cases c with
      | lst xs => cases h'; obtain ⟨vs, hH, _⟩ := ok; exact .base (.lst hH)
      | dK xs => cases h'; obtain ⟨vs, hH, _⟩ := ok; exact .base (.dK hH)
      | ins c fs => cases h'
      | dead => cases h'
theorem sc_isT {t : Tn} (h1 : t ≠ .non) (h2 : t ≠ .dict) : ∀ (w : Wd) (x : V) (d : Da) (Q : VK) (ex : Str → List Da → Wd → Prop), Em K w → Rep K w x d → Run K w (isT t d w.st) (OkV K Q) ex → rIsi K [x, .ty t.name] w.H Q := fun w x d Q ex m rx h => by
  unfold isT at h
  split at h
  · rename_i a ha
    exact ⟨x, .ty t.name, .type a.name, .type t.name, isTn a t, rfl, .ty _, ty_rep m rx ha, kit_ty (kit_tn a t h1 h2), h.here m _ (.bl _)⟩
  · exact h.elim
theorem one_rep {A : Type} {vs : List V} {ds : List Da} {f : Da → Mo A} {ok : A → Wd → Prop} {ex : Str → List Da → Wd → Prop} (r : RepL K w vs ds) (h : Run K w (one f ds w.st) ok ex) : ∃ v d, vs = [v] ∧ ds = [d] ∧ Rep K w v d ∧ Run K w (f d w.st) ok ex := by
  unfold one at h
  split at h
  · cases r with
    | cons r1 r2 => cases r2; exact ⟨_, _, rfl, rfl, r1, h⟩
  · exact h.elim
theorem two_rep {A : Type} {vs : List V} {ds : List Da} {f : Da → Da → Mo A} {ok : A → Wd → Prop} {ex : Str → List Da → Wd → Prop} (r : RepL K w vs ds) (h : Run K w (two f ds w.st) ok ex) : ∃ v u d e, vs = [v, u] ∧ ds = [d, e] ∧ Rep K w v d ∧ Rep K w u e ∧ Run K w (f d e w.st) ok ex := by
  unfold two at h
  split at h
  · cases r with
    | cons r1 r2 => cases r2 with
      | cons r2 r3 => cases r3; exact ⟨_, _, _, _, rfl, rfl, r1, r2, h⟩
  · exact h.elim
theorem sc_len : SC K (fun xs H Q => ∃ x n, xs = [x] ∧ LenV K x H n ∧ Q (.int n) H) (one lenD) := fun w xs ds Q ex m r h => by
  obtain ⟨v, d, rfl, rfl, rv, h⟩ := one_rep r h
  unfold lenD at h
  split at h
  · cases rv
    split at h
    · rename_i hl
      exact ⟨_, _, rfl, ⟨szD_le hl, rfl⟩, h.here m _ (.int _)⟩
    · exact h.elim
  · split at h
    · rename_i ys hy
      obtain ⟨a, vs, rfl, hq, rl⟩ := sq_rep m rv hy
      rw [← rl.length] at h
      rcases hq with hq | hq
      · exact ⟨_, vs.length, rfl, .inl ⟨vs, hq, rfl⟩, h.here m _ (.int _)⟩
      · exact ⟨_, vs.length, rfl, .inr ⟨vs, hq, rfl⟩, h.here m _ (.int _)⟩
    · exact h.elim
theorem sc_list : SCL K (fun xs H Q => ∃ p ys, xs = [.ref p] ∧ (SqL K H p ys ∨ SqT K H p ys) ∧ ∀ l, H l = none → Q (.ref l) (upd H l (.lst ys))) (one listD) := fun w xs ds Q ex m r h => by
  obtain ⟨v, d, rfl, rfl, rv, h⟩ := one_rep r h
  unfold listD at h
  split at h
  · rename_i ys hy
    obtain ⟨a, vs, rfl, hq, rl⟩ := sq_rep m rv hy
    exact ⟨a, vs, rfl, hq, fun p hp => okL_fresh m h rfl hp rl⟩
  · exact h.elim
theorem sc_tuple : SC K (fun xs H Q => ∃ p ys, xs = [.ref p] ∧ ((SqL K H p ys ∧ ∀ l, H l = none → Q (.ref l) (upd H l (.tup ys))) ∨ (SqT K H p ys ∧ Q (.ref p) H))) (one tupleD) := fun w xs ds Q ex m r h => by
  obtain ⟨v, d, rfl, rfl, rv, h⟩ := one_rep r h
  unfold tupleD at h
  split at h
  · exact h.elim
  · split at h
    · rename_i ys hy
      obtain ⟨a, vs, rfl, hq, rl⟩ := sq_rep m rv hy
      rcases hq with hq | hq
      · exact ⟨a, vs, rfl, .inl ⟨hq, fun p hp => Run.at (w' := w.new p (.tup vs)) h (Ext.new m hp) (m.new hp) rfl rfl _ (Rep.newTup m hp rl)⟩⟩
      · exact ⟨a, vs, rfl, .inr ⟨hq, h.here m _ (.tup hq rl)⟩⟩
    · exact h.elim
theorem bls_rep : ∀ {ds : List Da} {vs : List V} {bs : List Bool}, RepL K w vs ds → blsOf ds = some bs → vs = bs.map V.bl
  | [], _, _, .nil, h => by cases h; rfl
  | .bl b :: r, _, _, .cons r1 r2, h => by
    unfold blsOf at h
    cases q : blsOf r with
    | none => rw [q] at h; cases h
    | some bs =>
      rw [q] at h
      cases h
      cases r1
      rw [bls_rep r2 q]
      rfl
  | .non :: r, _, _, _, h => by unfold blsOf at h; cases h
  | .int _ :: r, _, _, _, h => by unfold blsOf at h; cases h
  | .str _ :: r, _, _, _, h => by unfold blsOf at h; cases h
  | .tup _ :: r, _, _, _, h => by unfold blsOf at h; cases h
  | .lst _ :: r, _, _, _, h => by unfold blsOf at h; cases h
  | .fro _ :: r, _, _, _, h => by unfold blsOf at h; cases h
  | .han _ :: r, _, _, _, h => by unfold blsOf at h; cases h
theorem ints_rep : ∀ {ds : List Da} {vs : List V} {bs : List Int}, RepL K w vs ds → intsOf ds = some bs → vs = bs.map V.int
  | [], _, _, .nil, h => by cases h; rfl
  | .int b :: r, _, _, .cons r1 r2, h => by
    unfold intsOf at h
    cases q : intsOf r with
    | none => rw [q] at h; cases h
    | some bs =>
      rw [q] at h
      cases h
      cases r1
      rw [ints_rep r2 q]
      rfl
  | .non :: r, _, _, _, h => by unfold intsOf at h; cases h
  | .bl _ :: r, _, _, _, h => by unfold intsOf at h; cases h
  | .str _ :: r, _, _, _, h => by unfold intsOf at h; cases h
  | .tup _ :: r, _, _, _, h => by unfold intsOf at h; cases h
  | .lst _ :: r, _, _, _, h => by unfold intsOf at h; cases h
  | .fro _ :: r, _, _, _, h => by unfold intsOf at h; cases h
  | .han _ :: r, _, _, _, h => by unfold intsOf at h; cases h
theorem sc_all : SC K (rAll K) (one allD) := fun w xs ds Q ex m r h => by
  obtain ⟨v, d, rfl, rfl, rv, h⟩ := one_rep r h
  unfold allD at h
  split at h
  · rename_i ys hy
    obtain ⟨a, vs, rfl, hH, rl⟩ := ls_rep m rv hy
    split at h
    · rename_i bs hb
      have e := bls_rep rl hb
      subst e
      exact ⟨a, bs, rfl, SqL.of hH, h.here m _ (.bl _)⟩
    · exact h.elim
  · exact h.elim
theorem sc_max : SC K (fun xs H Q => ∃ i j, xs = [.int i, .int j] ∧ Q (.int (if j > i then j else i)) H) (two maxD) := fun w xs ds Q ex m r h => by
  obtain ⟨v, u, d, e, rfl, rfl, rv, ru, h⟩ := two_rep r h
  unfold maxD at h
  split at h
  · cases rv; cases ru
    exact ⟨_, _, rfl, h.here m _ (.int _)⟩
  · exact h.elim
theorem sc_min : SC K (fun xs H Q => ∃ i j, xs = [.int i, .int j] ∧ Q (.int (if j < i then j else i)) H) (two minD) := fun w xs ds Q ex m r h => by
  obtain ⟨v, u, d, e, rfl, rfl, rv, ru, h⟩ := two_rep r h
  unfold minD at h
  split at h
  · cases rv; cases ru
    exact ⟨_, _, rfl, h.here m _ (.int _)⟩
  · exact h.elim
end
/-! ### methods of lists that change -/
def isLs (d : Da) : Mo Unit := fun st => match lsOf st d with
  | some _ => .ok () st
  | none => .bad
def appD (d x : Da) : Mo Da := fun st => match d with
  | .han n => (match st[n]? with
    | some (.lst xs) => if xs.length < szD then .ok .non (st.set n (.lst (xs ++ [x]))) else .bad
    | _ => .bad)
  | _ => .bad
def popD (d : Da) : Mo Da := fun st => match d with
  | .han n => (match st[n]? with
    | some (.lst xs) => (match xs[xs.length - 1]? with
      | some x => .ok x (st.set n (.lst xs.dropLast))
      | none => .bad)
    | _ => .bad)
  | _ => .bad
def setD (d i x : Da) : Mo Unit := fun st => match d, i with
  | .han n, .int k => (match st[n]? with
    | some (.lst xs) => (match ixN xs.length k with
      | some j => .ok () (st.set n (.lst (xs.set j x)))
      | none => .bad)
    | _ => .bad)
  | _, _ => .bad
def eApp (a b : Sl → Mo Da) : Sl → Mo Da := fun ro => bnd (a ro) fun d => bnd (isLs d) fun _ => bnd (b ro) fun x => appD d x
def ePop (a : Sl → Mo Da) : Sl → Mo Da := fun ro => bnd (a ro) fun d => bnd (isLs d) fun _ => popD d
section
variable {K : PySem.W.Frag} {E : St → XK} {ta tb te : TE} {a b : Sl → Mo Da} {w : Wd}
theorem isLs_run {d : Da} {v : V} {ok : Unit → Wd → Prop} {ex : Str → List Da → Wd → Prop} (m : Em K w) (rv : Rep K w v d) (h : Run K w (isLs d w.st) ok ex) : tyV K "list" v w.H ∧ ok () w := by
  unfold isLs at h
  split at h
  · rename_i xs hx
    obtain ⟨a, vs, rfl, hH, rl⟩ := ls_rep m rv hx
    exact ⟨.inl ⟨rfl, vs, SqL.of hH⟩, h.here m⟩
  · exact h.elim
theorem app_run {d x : Da} {v u : V} {Q : VK} {ex : Str → List Da → Wd → Prop} (m : Em K w) (rv : Rep K w v d) (ru : Rep K w u x) (h : Run K w (appD d x w.st) (OkV K Q) ex) : rAppend v [u] w.H Q := by
  unfold appD at h
  split at h
  · rename_i n
    split at h
    · rename_i xs hx
      split at h
      · rename_i hl
        cases rv with
        | @han a _ ha =>
          obtain ⟨vs, hH, rl⟩ := m.cell n a _ ha hx
          have x2 : Ext w (w.put n a (.lst (vs ++ [u])) (.lst (xs ++ [x]))) := Ext.put m ha hx (by intro z; cases z)
          refine ⟨a, vs, u, rfl, rfl, hH, by rw [rl.length]; exact szD_lt hl, ?_⟩
          exact Run.at (w' := w.put n a (.lst (vs ++ [u])) (.lst (xs ++ [x]))) h x2 (m.put ha hx (by intro z; cases z) ⟨_, upd_same, (rl.append (.cons ru .nil)).mono m x2⟩) rfl rfl _ .non
      · exact h.elim
    · exact h.elim
  · exact h.elim
theorem s_app (ha : SE K E ta a) (hb : SE K E tb b) : SE K E (tBM K "list" rAppend ta (tCons tb tNil)) (eApp a b) := fun w ro σ Q e h =>
  ha w ro σ _ e (h.bind.mono (fun d w1 x1 p1 m1 k v rv => by
    obtain ⟨ty, k2⟩ := isLs_run m1 rv k.bind
    refine ⟨ty, hb w1 ro σ _ (e.mono x1 m1) (k2.bind.mono (fun x w2 x2 p2 m2 k3 u ru => ?_) fun _ _ _ z => z)⟩
    exact app_run m2 (rv.mono m1 x2) ru k3) fun _ _ _ z => z)
theorem s_pop (ha : SE K E ta a) : SE K E (tBM0 K "list" rPop ta) (ePop a) := fun w ro σ Q e h =>
  ha w ro σ _ e (h.bind.mono (fun d w1 x1 p1 m1 k v rv => by
    obtain ⟨ty, k2⟩ := isLs_run m1 rv k.bind
    refine ⟨ty, ?_⟩
    unfold popD at k2
    split at k2
    · rename_i n
      split at k2
      · rename_i xs hx
        split at k2
        · rename_i x hxx
          cases rv with
          | @han a _ ha =>
            obtain ⟨vs, hH, rl⟩ := m1.cell n a _ ha hx
            obtain ⟨u, hu, ru⟩ := rl.get hxx
            have x2 : Ext w1 (w1.put n a (.lst vs.dropLast) (.lst xs.dropLast)) := Ext.put m1 ha hx (by intro z; cases z)
            refine ⟨a, vs, u, rfl, rfl, hH, by rw [rl.length]; exact hu, ?_⟩
            exact Run.at (w' := w1.put n a (.lst vs.dropLast) (.lst xs.dropLast)) k2 x2 (m1.put ha hx (by intro z; cases z) ⟨_, upd_same, rl.dropLast.mono m1 x2⟩) rfl rfl _ (ru.mono m1 x2)
        · exact k2.elim
      · exact k2.elim
    · exact k2.elim) fun _ _ _ z => z)
theorem set_run {d i x : Da} {v k u : V} {Q : Hp → Prop} {ex : Str → List Da → Wd → Prop} (m : Em K w) (rv : Rep K w v d) (ri : Rep K w k i) (ru : Rep K w u x) (h : Run K w (setD d i x w.st) (fun _ w' => Q w'.H) ex) : rSetL v k u w.H Q := by
  unfold setD at h
  split at h
  · rename_i n k
    split at h
    · rename_i xs hx
      split at h
      · rename_i j hj
        cases rv with
        | @han a _ ha =>
          cases ri
          obtain ⟨vs, hH, rl⟩ := m.cell n a _ ha hx
          have x2 : Ext w (w.put n a (.lst (vs.set j u)) (.lst (xs.set j x))) := Ext.put m ha hx (by intro z; cases z)
          refine ⟨a, vs, k, j, rfl, rfl, hH, by rw [rl.length]; exact hj, ?_⟩
          exact Run.at (w' := w.put n a (.lst (vs.set j u)) (.lst (xs.set j x))) h x2 (m.put ha hx (by intro z; cases z) ⟨_, upd_same, (rl.set ru j).mono m x2⟩) rfl rfl
      · exact h.elim
    · exact h.elim
  · exact h.elim
end
end CL
namespace CL
open PySem PySem.Spec L2
/-! ### targets -/
abbrev Tg := Da → Sl → Option Sl
abbrev Tgs := List Da → Sl → Option Sl
def SameOut (ws : List Nat) (σ σ' : St) : Prop := σ'.length = σ.length ∧ ∀ i : Nat, i ∉ ws → σ'[i]? = σ[i]?
def SG (K : PySem.W.Frag) (g : TG) (t : Tg) (ws : List Nat) : Prop := ∀ (w : Wd) (v : V) (d : Da) (ro ro' : Sl) (σ : St), En K w ro σ → Rep K w v d → t d ro = some ro' →
  ∃ σ', En K w ro' σ' ∧ SameOut ws σ σ' ∧ ∀ Q : St → Hp → Prop, Q σ' w.H → g v σ w.H Q
def SGs (K : PySem.W.Frag) (g : TGs) (t : Tgs) (ws : List Nat) : Prop := ∀ (w : Wd) (vs : List V) (ds : List Da) (ro ro' : Sl) (σ : St), En K w ro σ → RepL K w vs ds → t ds ro = some ro' →
  ∃ σ', En K w ro' σ' ∧ SameOut ws σ σ' ∧ ∀ Q : St → Hp → Prop, Q σ' w.H → g vs σ w.H Q
def gN (i : Nat) : Tg := fun d ro => some (ro.set i (some d))
def gsN : Tgs := fun ds ro => match ds with
  | [] => some ro
  | _ => none
def gsC (t : Tg) (u : Tgs) : Tgs := fun ds ro => match ds with
  | d :: r => (t d ro).bind fun ro1 => u r ro1
  | _ => none
def gT (n : Nat) (t : Tgs) : Tg := fun d ro => match d with
  | .tup xs => if xs.length = n then t xs ro else none
  | _ => none
section
variable {K : PySem.W.Frag}
theorem SameOut.trans {ws us : List Nat} {σ σ1 σ2 : St} (a : SameOut ws σ σ1) (b : SameOut us σ1 σ2) : SameOut (ws ++ us) σ σ2 :=
  ⟨b.1.trans a.1, fun i h => (b.2 i fun z => h (List.mem_append_right _ z)).trans (a.2 i fun z => h (List.mem_append_left _ z))⟩
theorem sg_name {i : Nat} : SG K (gName i) (gN i) [i] := fun w v d ro ro' σ e r h => by
  cases h
  refine ⟨σ.set i (some v), e.set r, ⟨by simp, fun j hj => ?_⟩, fun Q q => q⟩
  rw [List.getElem?_set_ne fun z => hj (by simp [z])]
theorem sgs_nil : SGs K gNil gsN [] := fun w vs ds ro ro' σ e r h => by
  unfold gsN at h
  split at h
  · cases h
    cases r
    exact ⟨σ, e, ⟨rfl, fun _ _ => rfl⟩, fun Q q => ⟨rfl, q⟩⟩
  · cases h
theorem sgs_cons {g : TG} {gs : TGs} {t : Tg} {u : Tgs} {ws us : List Nat} (h1 : SG K g t ws) (h2 : SGs K gs u us) : SGs K (gCons g gs) (gsC t u) (ws ++ us) := fun w vs ds ro ro' σ e r h => by
  unfold gsC at h
  split at h
  · rename_i d rr
    cases r with
    | cons r1 r2 =>
      cases q : t d ro with
      | none => rw [q] at h; cases h
      | some ro1 =>
        rw [q] at h
        obtain ⟨σ1, e1, s1, k1⟩ := h1 w _ d ro ro1 σ e r1 q
        obtain ⟨σ2, e2, s2, k2⟩ := h2 w _ rr ro1 ro' σ1 e1 r2 h
        exact ⟨σ2, e2, s1.trans s2, fun Q q => ⟨_, _, rfl, k1 _ (k2 Q q)⟩⟩
  · cases h
theorem sg_tup {n : Nat} {gs : TGs} {t : Tgs} {ws : List Nat} (h : SGs K gs t ws) : SG K (gTup K n gs) (gT n t) ws := fun w v d ro ro' σ e r hh => by
  unfold gT at hh
  split at hh
  · rename_i xs
    split at hh
    · rename_i hl
      cases r with
      | tup h1 r1 =>
        obtain ⟨σ1, e1, s1, k1⟩ := h w _ xs ro ro' σ e r1 hh
        exact ⟨σ1, e1, s1, fun Q q => ⟨_, _, rfl, h1, by rw [r1.length]; exact hl, k1 Q q⟩⟩
    · cases hh
  · cases hh
end
/-! ### what is walked -/
mutual
def beqD : Da → Da → Bool
  | .non, .non => true
  | .bl a, .bl b => a == b
  | .int a, .int b => a == b
  | .str a, .str b => decide (a = b)
  | .tup a, .tup b => beqL a b
  | .lst a, .lst b => beqL a b
  | .fro a, .fro b => beqL a b
  | .han a, .han b => a == b
  | _, _ => false
def beqL : List Da → List Da → Bool
  | [], [] => true
  | a :: r, b :: s => beqD a b && beqL r s
  | _, _ => false
end
mutual
theorem beqD_eq : ∀ a b : Da, beqD a b = true → a = b
  | .non, b, h => by cases b <;> first | rfl | (unfold beqD at h; cases h)
  | .bl a, b, h => by cases b <;> first | (unfold beqD at h; cases h; done) | (unfold beqD at h; rw [eq_of_beq h])
  | .int a, b, h => by cases b <;> first | (unfold beqD at h; cases h; done) | (unfold beqD at h; rw [eq_of_beq h])
  | .str a, b, h => by cases b <;> first | (unfold beqD at h; cases h; done) | (unfold beqD at h; rw [of_decide_eq_true h])
  | .tup a, b, h => by cases b <;> first | (unfold beqD at h; cases h; done) | (unfold beqD at h; rw [beqL_eq _ _ h])
  | .lst a, b, h => by cases b <;> first | (unfold beqD at h; cases h; done) | (unfold beqD at h; rw [beqL_eq _ _ h])
  | .fro a, b, h => by cases b <;> first | (unfold beqD at h; cases h; done) | (unfold beqD at h; rw [beqL_eq _ _ h])
  | .han a, b, h => by cases b <;> first | (unfold beqD at h; cases h; done) | (unfold beqD at h; rw [eq_of_beq h])
theorem beqL_eq : ∀ a b : List Da, beqL a b = true → a = b
  | [], [], _ => rfl
  | [], _ :: _, h => by unfold beqL at h; cases h
  | _ :: _, [], h => by unfold beqL at h; cases h
  | a :: r, b :: s, h => by
    unfold beqL at h
    obtain ⟨h1, h2⟩ := Bool.and_eq_true_iff.mp h
    rw [beqD_eq a b h1, beqL_eq r s h2]
end
/-- a thing that is walked stands still -/
def chk (o : Option Nat) (xs : List Da) (st : Store) : Bool := match o with
  | none => true
  | some n => match st[n]? with
    | some (.lst ys) => beqL ys xs
    | _ => false
structure Src where
  xs : List Da
  o : Option Nat
def ItOk (K : PySem.W.Frag) (w : Wd) (J : It) (s : Src) : Prop := ∀ w', ExtW w w' → Em K w' → chk s.o s.xs w'.st = true →
  (∀ (i : Nat) (x : Da), s.xs[i]? = some x → J.go i w'.H ∧ ∀ v H', J.yld i w'.H v H' → ∃ w3 : Wd, w3.H = H' ∧ w3.st = w'.st ∧ w3.pv = w'.pv ∧ Ext w' w3 ∧ Em K w3 ∧ Rep K w3 v x) ∧ J.stop s.xs.length w'.H
def SI (K : PySem.W.Frag) (E : St → XK) (wi : TI) (m : Sl → Mo Src) : Prop := ∀ (w : Wd) (ro : Sl) (σ : St) (R : It → Hp → Prop), En K w ro σ →
  Run K w (m ro w.st) (fun s w' => ∀ J, ItOk K w' J s → R J w'.H) (XP K (E σ)) → wi σ w.H R
def srcV (d : Da) : Mo Src := fun st => match d with
  | .lst xs => .ok ⟨xs, none⟩ st
  | .tup xs => .ok ⟨xs, none⟩ st
  | .fro xs => .ok ⟨xs, none⟩ st
  | .han n => (match st[n]? with
    | some (.lst xs) => .ok ⟨xs, some n⟩ st
    | _ => .bad)
  | _ => .bad
def iV (a : Sl → Mo Da) : Sl → Mo Src := fun ro => bnd (a ro) srcV
def rngL (lo : Int) (n : Nat) : List Da := (List.range n).map fun (i : Nat) => Da.int (lo + (i : Int))
def big (i : Int) : Prop := -(2 ^ 62) ≤ i ∧ i < 2 ^ 62
instance (i : Int) : Decidable (big i) := by unfold big; infer_instance
def srcR1 : List Da → Mo Src
  | [.int j] => if big j then ret ⟨rngL 0 j.toNat, none⟩ else nop
  | _ => nop
def srcR2 : List Da → Mo Src
  | [.int i, .int j] => if big i ∧ big j then ret ⟨rngL i (j - i).toNat, none⟩ else nop
  | _ => nop
def iR1 (a : Sl → Mo (List Da)) : Sl → Mo Src := fun ro => bnd (a ro) srcR1
def iR2 (a : Sl → Mo (List Da)) : Sl → Mo Src := fun ro => bnd (a ro) srcR2
def iSeq (K : PySem.W.Frag) (tl : TE) : TI := fun σ H R => tl σ H fun x H1 => ∃ a, x = .ref a ∧ (((∃ xs, SqL K H1 a xs) ∧ R (Itl K a) H1) ∨ ((∃ xs, SqT K H1 a xs) ∧ R (Itt K a) H1))
section
variable {X : Cx} {tg : Expr}
theorem pi_seq {l : Expr} {tl : TE} (hl : PE X l tl) : PI X tg l (iSeq X.K tl) := by
  refine ⟨fun pins s σ H R I h => ?_⟩
  refine thn (hl.run pins s σ H _ I h) fun v s1 ⟨x, H1, I1, r1, q1⟩ => ?_
  obtain ⟨a, e, q1⟩ := q1
  subst e
  cases r1
  rcases q1 with ⟨⟨xs, hq⟩, q⟩ | ⟨⟨xs, hq⟩, q⟩
  · obtain ⟨its, rv, p, hz⟩ := I1.list hq
    refine wpAny_pyIter_list p.isList ?_
    refine ⟨s1.heap.objs.size, [s1.heap.objs.size], _, _, H1, rfl, I1.kept (t' := s1.toks) fun b o e => Heap.get?_push_of_some _ e, turn_list a _, ⟨_, Heap.get?_push_size _ rfl, rfl, rfl⟩, fun b hb => ?_, q⟩
    have e : b = s1.heap.objs.size := by simpa using hb
    subst e
    exact I1.fpOk (Nat.le_refl _) (I1.hok.fresh (Nat.le_refl _))
  · obtain ⟨its, rv, p, hz⟩ := I1.tuple hq
    refine wpAny_pyIter_tuple (show s1.heap.IsTuple a its.toArray from p) ?_
    refine ⟨s1.heap.objs.size, [s1.heap.objs.size], _, _, H1, rfl, I1.kept (t' := s1.toks) fun b o e => Heap.get?_push_of_some _ e, turn_tuple a _, ⟨_, Heap.get?_push_size _ rfl, rfl, rfl⟩, fun b hb => ?_, q⟩
    have e : b = s1.heap.objs.size := by simpa using hb
    subst e
    exact I1.fpOk (Nat.le_refl _) (I1.hok.fresh (Nat.le_refl _))
end
section
variable {K : PySem.W.Frag} {E : St → XK} {ta : TE} {a : Sl → Mo Da} {tA : TA} {al : Sl → Mo (List Da)} {w : Wd}
theorem it_list {p : Addr} {vs : List V} {s : Src} (hs : ∀ w', ExtW w w' → Em K w' → chk s.o s.xs w'.st = true → ∃ vs, SqL K w'.H p vs ∧ RepL K w' vs s.xs) : ItOk K w (Itl K p) s := fun w' x m c => by
  obtain ⟨us, hq, r⟩ := hs w' x m c
  refine ⟨fun i d hd => ?_, ⟨us, hq, by rw [r.length]; exact Nat.le_refl _⟩⟩
  obtain ⟨v, hv, rv⟩ := r.get hd
  refine ⟨⟨us, v, hq, hv⟩, fun u H' hy => ⟨w', hy.1.symm, rfl, rfl, Ext.refl _, m, ?_⟩⟩
  have := hy.2 us hq
  rw [hv] at this
  cases this
  exact rv
theorem it_tup {p : Addr} {vs : List V} {s : Src} (hs : ∀ w', ExtW w w' → Em K w' → chk s.o s.xs w'.st = true → ∃ vs, SqT K w'.H p vs ∧ RepL K w' vs s.xs) : ItOk K w (Itt K p) s := fun w' x m c => by
  obtain ⟨us, hq, r⟩ := hs w' x m c
  refine ⟨fun i d hd => ?_, ⟨us, hq, by rw [r.length]; exact Nat.le_refl _⟩⟩
  obtain ⟨v, hv, rv⟩ := r.get hd
  refine ⟨⟨us, v, hq, hv⟩, fun u H' hy => ⟨w', hy.1.symm, rfl, rfl, Ext.refl _, m, ?_⟩⟩
  have := hy.2 us hq
  rw [hv] at this
  cases this
  exact rv
theorem si_v (ha : SE K E ta a) : SI K E (iSeq K ta) (iV a) := fun w ro σ R e h =>
  ha w ro σ _ e (h.bind.mono (fun d w1 x1 p1 m1 k v rv => by
    unfold srcV at k
    cases rv with
    | @lst p vs ds h1 n1 r1 =>
      exact ⟨_, rfl, .inl ⟨⟨vs, SqL.of h1⟩, k.here m1 _ (it_list (vs := vs) fun w' x m _ => ⟨vs, SqL.of (x.keep _ _ h1 n1).1, r1.monoW m1 x⟩)⟩⟩
    | @tup p vs ds h1 r1 =>
      exact ⟨_, rfl, .inr ⟨⟨vs, h1⟩, k.here m1 _ (it_tup (vs := vs) fun w' x m _ => ⟨vs, sqT_monoW m1 x h1, r1.monoW m1 x⟩)⟩⟩
    | @fro p vs ds h1 r1 =>
      refine ⟨_, rfl, .inl ⟨⟨vs, h1.sq⟩, k.here m1 _ (it_list (vs := vs) fun w' x m _ => ⟨vs, ?_, r1.monoW m1 x⟩)⟩⟩
      rcases h1 with ⟨o, h1⟩ | h1
      · exact .inl (.inr ⟨o, (x.keep _ _ h1 (m1.noFrz h1)).1⟩)
      · exact .inr h1
    | @han p n hp =>
      dsimp only at k
      split at k
      · rename_i xs hx
        obtain ⟨vs, hH, r⟩ := m1.cell n p _ hp hx
        refine ⟨_, rfl, .inl ⟨⟨vs, SqL.of hH⟩, k.here m1 _ (it_list (vs := vs) fun w' x m c => ?_)⟩⟩
        have hp' := x.at hp
        unfold chk at c
        dsimp only at c
        split at c
        · rename_i ys hy
          have e := beqL_eq _ _ c
          subst e
          obtain ⟨us, hH', r'⟩ := m.cell n p _ hp' hy
          exact ⟨us, SqL.of hH', r'⟩
        · cases c
      · exact k.elim
    | non => exact k.elim
    | bl b => exact k.elim
    | int i => exact k.elim
    | str s => exact k.elim) fun _ _ _ z => z)
theorem rng_get {lo : Int} {n i : Nat} {x : Da} (h : (rngL lo n)[i]? = some x) : i < n ∧ x = .int (lo + i) := by
  unfold rngL at h
  rw [List.getElem?_map] at h
  by_cases hi : i < n
  · rw [List.getElem?_range hi] at h
    cases h
    exact ⟨hi, rfl⟩
  · rw [List.getElem?_eq_none (by simpa using hi)] at h
    cases h
theorem it_rng {lo : Int} {n : Nat} : ItOk K w (Itr lo n) ⟨rngL lo n, none⟩ := fun w' x m c => by
  refine ⟨fun i d hd => ?_, ?_⟩
  · obtain ⟨hi, rfl⟩ := rng_get hd
    exact ⟨hi, fun v H' hy => ⟨w', hy.1.symm, rfl, rfl, Ext.refl _, m, by rw [hy.2]; exact .int _⟩⟩
  · show n ≤ (rngL lo n).length
    unfold rngL
    simp
theorem si_r1 (ha : SA K E tA al) : SI K E (iRng1 tA) (iR1 al) := fun w ro σ R e h =>
  ha w ro σ _ e (h.bind.mono (fun ds w1 x1 p1 m1 k vs rv => by
    unfold srcR1 at k
    split at k
    · rename_i j
      split at k
      · rename_i hb
        cases rv with
        | cons r1 r2 =>
          cases r2
          cases r1
          exact ⟨j, rfl, hb.1, hb.2, k.here m1 _ it_rng⟩
      · exact k.elim
    · exact k.elim) fun _ _ _ z => z)
theorem si_r2 (ha : SA K E tA al) : SI K E (iRng2 tA) (iR2 al) := fun w ro σ R e h =>
  ha w ro σ _ e (h.bind.mono (fun ds w1 x1 p1 m1 k vs rv => by
    unfold srcR2 at k
    split at k
    · rename_i i j
      split at k
      · rename_i hb
        cases rv with
        | cons r1 r2 =>
          cases r2 with
          | cons r2 r3 =>
            cases r3
            cases r1
            cases r2
            exact ⟨i, j, rfl, ⟨hb.1.1, hb.1.2, hb.2.1, hb.2.2⟩, k.here m1 _ it_rng⟩
      · exact k.elim
    · exact k.elim) fun _ _ _ z => z)
end
/-! ### statements -/
def mNil : Sl → Mo Fl := fun ro => ret (.nx ro)
def mSeq (a b : Sl → Mo Fl) : Sl → Mo Fl := fun ro => bnd (a ro) fun f => match f with
  | .nx ro' => b ro'
  | f => ret f
def mSet (i : Nat) (a : Sl → Mo Da) : Sl → Mo Fl := fun ro => bnd (a ro) fun d => ret (.nx (ro.set i (some d)))
def mTgt (t : Tg) (a : Sl → Mo Da) : Sl → Mo Fl := fun ro => bnd (a ro) fun d => match t d ro with
  | some ro' => ret (.nx ro')
  | none => nop
def mPar (i j : Nat) (a : Sl → Mo (List Da)) : Sl → Mo Fl := fun ro => bnd (a ro) fun ds => match ds with
  | [d, e] => ret (.nx ((ro.set i (some d)).set j (some e)))
  | _ => nop
def mRet (a : Sl → Mo Da) : Sl → Mo Fl := fun ro => bnd (a ro) fun d => ret (.rt d)
def mRetN : Sl → Mo Fl := fun ro => ret (.rt .non)
def mExpr (a : Sl → Mo Da) : Sl → Mo Fl := fun ro => bnd (a ro) fun _ => ret (.nx ro)
def mIf (t : Sl → Mo Bool) (a b : Sl → Mo Fl) : Sl → Mo Fl := fun ro => bnd (t ro) fun c => if c = true then a ro else b ro
def mBrk : Sl → Mo Fl := fun ro => ret (.bk ro)
def mCnt : Sl → Mo Fl := fun ro => ret (.ct ro)
def mNever : Sl → Mo Fl := fun _ => nop
def mSetI (v o i : Sl → Mo Da) : Sl → Mo Fl := fun ro => bnd (v ro) fun x => bnd (o ro) fun d => bnd (i ro) fun k => bnd (setD d k x) fun _ => ret (.nx ro)
def mAug (i : Nat) (f : Int → Int → Int) (a : Sl → Mo Da) : Sl → Mo Fl := fun ro => bnd (eVar i ro) fun x => bnd (a ro) fun y => match x, y with
  | .int p, .int q => ret (.nx (ro.set i (some (.int (f p q)))))
  | _, _ => nop
def loopK (go : Sl → Mo Fl) (f : Fl) : Mo Fl := match f with
  | .nx ro => go ro
  | .ct ro => go ro
  | .bk ro => ret (.nx ro)
  | .rt d => ret (.rt d)
def forGo (o : Option Nat) (all : List Da) (t : Tg) (body : Sl → Mo Fl) : List Da → Sl → Mo Fl
  | [], ro => fun st => if chk o all st = true then .ok (.nx ro) st else .bad
  | x :: r, ro => fun st => if chk o all st = true then (match t x ro with
    | some ro1 => bnd (body ro1) (loopK (forGo o all t body r)) st
    | none => .bad) else .bad
def mFor (s : Sl → Mo Src) (t : Tg) (body : Sl → Mo Fl) : Sl → Mo Fl := fun ro => bnd (s ro) fun s => forGo s.o s.xs t body s.xs ro
def whileF (t : Sl → Mo Bool) (body : Sl → Mo Fl) : Nat → Sl → Mo Fl
  | 0, _ => nop
  | n + 1, ro => bnd (t ro) fun c => if c = true then bnd (body ro) (loopK (whileF t body n)) else ret (.nx ro)
section
variable {K : PySem.W.Frag} {E : St → XK} {ta tb te tv to ti : TE} {a b v o i' : Sl → Mo Da} {tt : TT} {p : Sl → Mo Bool} {ts tu : TS} {m n : Sl → Mo Fl} {g : TG} {t : Tg} {ws : List Nat} {tA : TA} {al : Sl → Mo (List Da)}
theorem ss_nil : SS K E tNext mNil := fun w ro σ D e h => h.here e.emb σ e
theorem okF_nx {D D' : Ends} {f : Fl} {w : Wd} (h : OkF K D f w) (hn : ∀ ro, f ≠ .nx ro) (h1 : D'.rt = D.rt) (h2 : D'.bk = D.bk) (h3 : D'.ct = D.ct) : OkF K D' f w := by
  cases f with
  | nx ro => exact absurd rfl (hn ro)
  | rt d => show ∀ v, _ → D'.rt v w.H; rw [h1]; exact h
  | bk ro => show ∀ σ, _ → D'.bk σ w.H; rw [h2]; exact h
  | ct ro => show ∀ σ, _ → D'.ct σ w.H; rw [h3]; exact h
theorem ss_seq (h1 : SS K E ts m) (h2 : SS K E tu n) : SS K E (tSeq ts tu) (mSeq m n) := fun w ro σ D e h =>
  h1 w ro σ { D with nx := tu D } e (h.bind.mono (fun f w1 x1 p1 m1 k => by
    cases f with
    | nx ro' => exact fun σ' e' => h2 w1 ro' σ' D e' k
    | rt d => exact Run.here (ok := OkF K D) (a := Fl.rt d) m1 k
    | bk ro' => exact Run.here (ok := OkF K D) (a := Fl.bk ro') m1 k
    | ct ro' => exact Run.here (ok := OkF K D) (a := Fl.ct ro') m1 k) fun _ _ _ z => z)
theorem ss_set {i : Nat} (ha : SE K E ta a) : SS K E (tAsg ta (gName i)) (mSet i a) := fun w ro σ D e h =>
  ha w ro σ _ e (h.bind.mono (fun d w1 x1 p1 m1 k v rv => k.here m1 _ ((e.mono x1 m1).set rv)) fun _ _ _ z => z σ)
theorem ss_tgt (hg : SG K g t ws) (ha : SE K E ta a) : SS K E (tAsg ta g) (mTgt t a) := fun w ro σ D e h =>
  ha w ro σ _ e (h.bind.mono (fun d w1 x1 p1 m1 k v rv => by
    cases q : t d ro with
    | none => rw [q] at k; exact k.elim
    | some ro' =>
      rw [q] at k
      obtain ⟨σ', e', _, kk⟩ := hg w1 v d ro ro' σ (e.mono x1 m1) rv q
      exact kk _ (k.here m1 σ' e')) fun _ _ _ z => z σ)
theorem ss_par {i j : Nat} (ha : SA K E tA al) : SS K E (tPar i j tA) (mPar i j al) := fun w ro σ D e h =>
  ha w ro σ _ e (h.bind.mono (fun ds w1 x1 p1 m1 k vs rv => by
    split at k
    · cases rv with
      | cons r1 r2 =>
        cases r2 with
        | cons r2 r3 =>
          cases r3
          exact ⟨_, _, rfl, k.here m1 _ (((e.mono x1 m1).set r1).set r2)⟩
    · exact k.elim) fun _ _ _ z => z σ)
theorem ss_ret (ha : SE K E ta a) : SS K E (tRet ta) (mRet a) := fun w ro σ D e h =>
  ha w ro σ _ e (h.bind.mono (fun d w1 x1 p1 m1 k v rv => k.here m1 v rv) fun _ _ _ z => z σ)
theorem ss_retN : SS K E tRetN mRetN := fun w ro σ D e h => h.here e.emb _ .non
theorem ss_expr (ha : SE K E ta a) : SS K E (tDrop ta) (mExpr a) := fun w ro σ D e h =>
  ha w ro σ _ e (h.bind.mono (fun d w1 x1 p1 m1 k v rv => k.here m1 σ (e.mono x1 m1)) fun _ _ _ z => z σ)
theorem ss_if (ht : ST K E tt p) (h1 : SS K E ts m) (h2 : SS K E tu n) : SS K E (tIfS tt ts tu) (mIf p m n) := fun w ro σ D e h =>
  ht w ro σ _ e (h.bind.mono (fun c w1 x1 p1 m1 k => by
    cases c with
    | true => rw [if_pos rfl] at k ⊢; exact h1 w1 ro σ D (e.mono x1 m1) k
    | false => rw [if_neg Bool.false_ne_true] at k ⊢; exact h2 w1 ro σ D (e.mono x1 m1) k) fun _ _ _ z => z σ)
theorem ss_brk : SS K E tBreak mBrk := fun w ro σ D e h => h.here e.emb σ e
theorem ss_cnt : SS K E tCont mCnt := fun w ro σ D e h => h.here e.emb σ e
theorem ss_never : SS K E tNever mNever := fun w ro σ D e h => h.elim
theorem ss_setI (hv : SE K E tv v) (ho : SE K E to o) (hi : SE K E ti i') : SS K E (tAsg tv (gSub to ti rSetL)) (mSetI v o i') := fun w ro σ D e h =>
  hv w ro σ _ e (h.bind.mono (fun x w1 x1 p1 m1 k u ru => ho w1 ro σ _ (e.mono x1 m1) (k.bind.mono (fun d w2 x2 p2 m2 k2 u2 ru2 =>
    hi w2 ro σ _ (e.mono (x1.trans x2) m2) (k2.bind.mono (fun kk w3 x3 p3 m3 k3 u3 ru3 =>
      set_run m3 (ru2.mono m2 x3) ru3 (ru.mono m1 (x2.trans x3)) (k3.bind.mono (fun _ w4 x4 p4 m4 k4 => k4.here m4 σ (e.mono (x1.trans (x2.trans (x3.trans x4))) m4)) fun _ _ _ z => z)) fun _ _ _ z => z σ)) fun _ _ _ z => z σ)) fun _ _ _ z => z σ)
theorem ss_aug {i : Nat} {f : Int → Int → Int} (ha : SE K E ta a) : SS K E (tAug i ta (ipI f)) (mAug i f a) := fun w ro σ D e h => by
  have k := h.bind
  unfold eVar at k
  split at k
  · rename_i d hd
    obtain ⟨v, hv, rv⟩ := e.slot i d hd
    refine ⟨v, hv, ha w ro σ _ e ((k.here e.emb).bind.mono (fun y w1 x1 p1 m1 k2 u ru => ?_) fun _ _ _ z => z σ)⟩
    split at k2
    · cases rv; cases ru
      exact ⟨_, _, rfl, rfl, k2.here m1 _ ((e.mono x1 m1).set (.int _))⟩
    · exact k2.elim
  · exact k.elim
theorem loop_ok {D : Ends} {N : St → Hp → Prop} {go : Sl → Mo Fl} {ex : Str → List Da → Wd → Prop} {w : Wd} {f : Fl} (m : Em K w) (h : Run K w (loopK go f w.st) (OkF K D) ex)
    (hN : ∀ ro σ, En K w ro σ → Run K w (go ro w.st) (OkF K D) ex → N σ w.H) : OkF K { D with nx := N, ct := N, bk := D.nx } f w := by
  cases f with
  | nx ro => exact fun σ e => hN ro σ e h
  | ct ro => exact fun σ e => hN ro σ e h
  | bk ro => exact fun σ e => Run.here (ok := OkF K D) (a := Fl.nx ro) m h σ e
  | rt d => exact Run.here (ok := OkF K D) (a := Fl.rt d) m h
theorem ss_for {wi : TI} {s : Sl → Mo Src} (hs : SI K E wi s) (hg : SG K g t ws) (hb : SS K E ts m) : SS K E (tFor wi g ts) (mFor s t m) := fun w ro σ D e h => by
  refine hs w ro σ _ e (h.bind.mono (fun s w1 x1 p1 m1 k J hJ => ?_) fun _ _ _ z => z σ)
  refine ⟨fun i mm σ' H' => ∃ w2 ro2, w2.H = H' ∧ Ext w1 w2 ∧ w2.pv = w1.pv ∧ En K w2 ro2 σ' ∧ i ≤ s.xs.length ∧ mm = s.xs.length - i ∧ Run K w2 (forGo s.o s.xs t m (s.xs.drop i) ro2 w2.st) (OkF K D) (fun c as w' => ∀ σ', XP K (E σ') c as w'),
    ⟨s.xs.length, w1, ro, rfl, Ext.refl _, rfl, e.mono x1 m1, Nat.zero_le _, by omega, by rw [List.drop_zero]; exact k⟩, ?_⟩
  rintro i mm σ2 H2 ⟨w2, ro2, rfl, x2, p2, e2, hi, rfl, k2⟩
  by_cases hlt : i < s.xs.length
  · have hd : s.xs.drop i = s.xs[i] :: s.xs.drop (i + 1) := List.drop_eq_getElem_cons hlt
    rw [hd] at k2
    unfold forGo at k2
    split at k2
    · rename_i hc
      obtain ⟨hgo, hst⟩ := hJ w2 x2.w e2.emb hc
      obtain ⟨g1, g2⟩ := hgo i _ (List.getElem?_eq_getElem hlt)
      cases q : t s.xs[i] ro2 with
      | none => rw [q] at k2; exact k2.elim
      | some ro3 =>
        rw [q] at k2
        refine .inr ⟨g1, fun σ' H' => ∃ w3 ro3, w3.H = H' ∧ Ext w1 w3 ∧ w3.pv = w1.pv ∧ En K w3 ro3 σ' ∧ Run K w3 (forGo s.o s.xs t m (s.xs.drop (i + 1)) ro3 w3.st) (OkF K D) (fun c as w' => ∀ σ', XP K (E σ') c as w'),
          fun σ' H' ⟨w3, r3, h1, h2, h3, h4, h5⟩ => ⟨s.xs.length - (i + 1), by omega, w3, r3, h1, h2, h3, h4, hlt, rfl, h5⟩, fun v H' hy => ?_⟩
        obtain ⟨w3, rfl, es, ep, x3, m3, rv⟩ := g2 v H' hy
        obtain ⟨σ3, e3, _, kk⟩ := hg w3 v _ ro2 ro3 σ2 (e2.mono x3 m3) rv q
        refine kk _ (hb w3 ro3 σ3 _ e3 ?_)
        have k3 : Run K w3 (bnd (m ro3) (loopK (forGo s.o s.xs t m (s.xs.drop (i + 1)))) w3.st) (OkF K D) (fun c as w' => ∀ σ', XP K (E σ') c as w') := by
          rw [es]
          exact k2.ext x3 ep
        refine k3.bind.mono (fun f w4 x4 p4 m4 k4 => loop_ok m4 k4 fun ro5 σ5 e5 k5 => ?_) fun _ _ _ z => z
        exact ⟨w4, ro5, rfl, x2.trans (x3.trans x4), p4.trans (ep.trans p2), e5, k5⟩
    · exact k2.elim
  · have he : i = s.xs.length := by omega
    subst he
    rw [List.drop_length] at k2
    unfold forGo at k2
    split at k2
    · rename_i hc
      obtain ⟨_, hst⟩ := hJ w2 x2.w e2.emb hc
      exact .inl ⟨hst, k2.here e2.emb σ2 e2⟩
    · exact k2.elim
theorem ss_while {fuel : Nat} (ht : ST K E tt p) (hb : SS K E ts m) : SS K E (tWhile tt ts) (whileF p m fuel) := fun w ro σ D e h => by
  refine ⟨fun mm σ' H' => ∃ w2 ro2, w2.H = H' ∧ Ext w w2 ∧ w2.pv = w.pv ∧ En K w2 ro2 σ' ∧ Run K w2 (whileF p m mm ro2 w2.st) (OkF K D) (fun c as w' => ∀ σ', XP K (E σ') c as w'),
    ⟨fuel, w, ro, rfl, Ext.refl _, rfl, e, h⟩, ?_⟩
  rintro mm σ2 H2 ⟨w2, ro2, rfl, x2, p2, e2, k2⟩
  cases mm with
  | zero => exact k2.elim
  | succ mm =>
    unfold whileF at k2
    refine ht w2 ro2 σ2 _ e2 (k2.bind.mono (fun c w3 x3 p3 m3 k3 => ?_) fun _ _ _ z => z σ2)
    cases c with
    | true =>
      rw [if_pos rfl] at k3 ⊢
      refine ⟨fun σ' H' => ∃ w4 ro4, w4.H = H' ∧ Ext w w4 ∧ w4.pv = w.pv ∧ En K w4 ro4 σ' ∧ Run K w4 (whileF p m mm ro4 w4.st) (OkF K D) (fun c as w' => ∀ σ', XP K (E σ') c as w'),
        fun σ' H' hh => ⟨mm, Nat.lt_succ_self _, hh⟩, ?_⟩
      refine hb w3 ro2 σ2 _ (e2.mono x3 m3) (k3.bind.mono (fun f w4 x4 p4 m4 k4 => loop_ok m4 k4 fun ro5 σ5 e5 k5 => ?_) fun _ _ _ z => z)
      exact ⟨w4, ro5, rfl, x2.trans (x3.trans x4), p4.trans (p3.trans p2), e5, k5⟩
    | false =>
      rw [if_neg Bool.false_ne_true] at k3 ⊢
      exact k3.here m3 σ2 (e2.mono x3 m3)
end
end CL
namespace CL
open PySem PySem.Spec L2
/-! ### comprehensions -/
def noX {A : Type} (m : Mo A) : Mo A := fun st => match m st with
  | .ok a st' => .ok a st'
  | _ => .bad
def wipeS (ro : Sl) : List Nat → Sl
  | [] => ro
  | v :: vs => (wipeS ro vs).set v none
def compGo (o : Option Nat) (all : List Da) (t : Tg) (p : Sl → Mo Bool) (e : Sl → Mo Da) (ro : Sl) : List Da → List Da → Mo (List Da)
  | [], acc => fun st => if chk o all st = true then .ok acc st else .bad
  | x :: r, acc => fun st => if chk o all st = true then (match t x ro with
    | some ro1 => bnd (noX (p ro1)) (fun c => if c = true then bnd (noX (e ro1)) (fun y => if acc.length < szD then compGo o all t p e ro r (acc ++ [y]) else nop) else compGo o all t p e ro r acc) st
    | none => .bad) else .bad
def lComp (s : Sl → Mo Src) (t : Tg) (p : Sl → Mo Bool) (e : Sl → Mo Da) (vs : List Nat) : Sl → Mo (List Da) := fun ro => bnd (s ro) fun s => compGo s.o s.xs t p e (wipeS ro vs) s.xs []
theorem wipe_out {σ : St} {i : Nat} : ∀ {vs : List Nat}, i ∉ vs → (wipe σ vs)[i]? = σ[i]?
  | [], _ => rfl
  | v :: vs, h => by
    unfold wipe
    rw [List.getElem?_set_ne fun z => h (by simp [z])]
    exact wipe_out fun z => h (List.mem_cons_of_mem _ z)
theorem wipe_in {σ : St} {i : Nat} : ∀ {vs : List Nat}, i ∈ vs → (wipe σ vs)[i]? = if i < σ.length then some none else none
  | [], h => by cases h
  | v :: vs, h => by
    unfold wipe
    by_cases e : v = i
    · subst e
      rw [List.getElem?_set, if_pos rfl, wipe_length]
    · rw [List.getElem?_set_ne e]
      rcases List.mem_cons.mp h with z | z
      · exact absurd z.symm e
      · exact wipe_in z
theorem wipe_eq {σ τ : St} {vs : List Nat} (hl : τ.length = σ.length) (h : ∀ i : Nat, i ∉ vs → τ[i]? = σ[i]?) : wipe τ vs = wipe σ vs := by
  refine List.ext_getElem? fun i => ?_
  by_cases hi : i ∈ vs
  · rw [wipe_in hi, wipe_in hi, hl]
  · rw [wipe_out hi, wipe_out hi, h i hi]
theorem wipeS_some {ro : Sl} {i : Nat} {d : Da} : ∀ {vs : List Nat}, (wipeS ro vs)[i]? = some (some d) → ro[i]? = some (some d) ∧ i ∉ vs
  | [], h => ⟨h, by simp⟩
  | v :: vs, h => by
    unfold wipeS at h
    by_cases e : v = i
    · subst e
      rw [List.getElem?_set, if_pos rfl] at h
      split at h <;> cases h
    · rw [List.getElem?_set_ne e] at h
      obtain ⟨h1, h2⟩ := wipeS_some h
      exact ⟨h1, fun z => by
        rcases List.mem_cons.mp z with z | z
        · exact e z.symm
        · exact h2 z⟩
theorem wipeS_length (ro : Sl) : ∀ vs : List Nat, (wipeS ro vs).length = ro.length
  | [] => rfl
  | v :: vs => by unfold wipeS; rw [List.length_set, wipeS_length ro vs]
section
variable {K : PySem.W.Frag} {E E' : St → XK}
theorem En.wipe {w : Wd} {ro : Sl} {σ : St} (e : En K w ro σ) (vs : List Nat) : En K w (wipeS ro vs) (wipe σ vs) := by
  refine ⟨e.emb, by rw [wipe_length, wipeS_length]; exact e.len, fun i d h => ?_⟩
  obtain ⟨h1, h2⟩ := wipeS_some h
  obtain ⟨v, h3, h4⟩ := e.slot i d h1
  exact ⟨v, by rw [wipe_out h2]; exact h3, h4⟩
theorem run_noX {A B : Type} {w1 w2 : Wd} {m : Mo A} {f : A → Mo B} {ok : B → Wd → Prop} {ex ex' : Str → List Da → Wd → Prop} (h : Run K w1 (bnd (noX m) f w2.st) ok ex) :
    Run K w2 (m w2.st) (fun a w3 => Run K w1 (f a w3.st) ok ex) ex' := by
  unfold bnd noX at h
  cases q : m w2.st with
  | ok a st => rw [q] at h; exact fun io H x e => h
  | exc c as st => rw [q] at h; exact h.elim
  | bad => rw [q] at h; exact h.elim
theorem sl_comp {wi : TI} {s : Sl → Mo Src} {g : TG} {t : Tg} {ws vs : List Nat} {tt : TT} {p : Sl → Mo Bool} {te : TE} {m : Sl → Mo Da} (hs : SI K E wi s) (hg : SG K g t ws) (hw : ∀ i ∈ ws, i ∈ vs) (ht : ST K E' tt p) (he : SE K E' te m) :
    SL K E (tLc wi g tt te vs) (lComp s t p m vs) := fun w ro σ Q en h => by
  refine hs w ro σ _ en (h.bind.mono (fun s w1 x1 p1 m1 k J hJ D hD => ?_) fun _ _ _ z => z)
  have hDp : D ∉ w1.pv := m1.freshP hD
  refine ⟨fun i mm H' => ∃ w2 us acc, w2.H = H' ∧ Ext w1 w2 ∧ w2.pv = D :: w1.pv ∧ Em K w2 ∧ w2.H D = some (.lst us) ∧ RepL K w2 us acc ∧ i ≤ s.xs.length ∧ mm = s.xs.length - i ∧ Run K w1 (compGo s.o s.xs t p m (wipeS ro vs) (s.xs.drop i) acc w2.st) (OkL K Q) (XP K (E σ)),
    ⟨s.xs.length, w1.hid D [], [], [], rfl, Ext.hid m1 hD, rfl, m1.hid hD, upd_same, .nil, Nat.zero_le _, by omega, by rw [List.drop_zero]; exact k⟩, ?_⟩
  rintro i mm H2 ⟨w2, us, acc, rfl, x2, p2, m2, hHD, ru, hi, rfl, k2⟩
  by_cases hlt : i < s.xs.length
  · have hd : s.xs.drop i = s.xs[i] :: s.xs.drop (i + 1) := List.drop_eq_getElem_cons hlt
    rw [hd] at k2
    unfold compGo at k2
    split at k2
    · rename_i hc
      obtain ⟨hgo, hst⟩ := hJ w2 x2.w m2 hc
      obtain ⟨g1, g2⟩ := hgo i _ (List.getElem?_eq_getElem hlt)
      cases q : t s.xs[i] (wipeS ro vs) with
      | none => rw [q] at k2; exact k2.elim
      | some ro1 =>
        rw [q] at k2
        refine .inr ⟨g1, fun H' => ∃ w3 us acc, w3.H = H' ∧ Ext w1 w3 ∧ w3.pv = D :: w1.pv ∧ Em K w3 ∧ w3.H D = some (.lst us) ∧ RepL K w3 us acc ∧ Run K w1 (compGo s.o s.xs t p m (wipeS ro vs) (s.xs.drop (i + 1)) acc w3.st) (OkL K Q) (XP K (E σ)),
          fun H' ⟨w3, us, acc, h1, h2, h3, h4, h5, h6, h7⟩ => ⟨s.xs.length - (i + 1), by omega, w3, us, acc, h1, h2, h3, h4, h5, h6, hlt, rfl, h7⟩, fun v H' hy => ?_⟩
        obtain ⟨w3, rfl, es, ep, x3, m3, rv⟩ := g2 v H' hy
        have en3 : En K w3 (wipeS ro vs) (wipe σ vs) := (en.mono (x1.trans (x2.trans x3)) m3).wipe vs
        obtain ⟨σ3, e3, so, kk⟩ := hg w3 v _ (wipeS ro vs) ro1 (wipe σ vs) en3 rv q
        refine kk _ ⟨wipe_eq (by rw [so.1, wipe_length]) fun j hj => ?_, ?_⟩
        · rw [so.2 j fun z => hj (hw j z), wipe_out hj]
        · rw [← es] at k2
          refine ht w3 ro1 σ3 _ e3 ((run_noX k2).mono (fun c w4 x4 p4 m4 k4 => ?_) fun _ _ _ z => z)
          have pD : D ∈ w2.pv := by rw [p2]; exact List.mem_cons_self
          cases c with
          | true =>
            rw [if_pos rfl] at k4 ⊢
            refine he w4 ro1 σ3 _ (e3.mono x4 m4) ((run_noX k4).mono (fun y w5 x5 p5 m5 k5 v5 rv5 => ?_) fun _ _ _ z => z)
            have x25 : Ext w2 w5 := x3.trans (x4.trans x5)
            obtain ⟨pD5, hD5⟩ := x25.pvk D pD
            have hD5' : w5.H D = some (.lst us) := hD5.trans hHD
            split at k5
            · rename_i hl
              have ru5 := ru.mono m2 x25
              refine ⟨us, hD5', by rw [ru.length]; exact szD_lt hl, w5.grow D (us ++ [v5]), us ++ [v5], acc ++ [y], rfl, (x2.trans x25).thenGrow m5 pD5 hD hDp, ?_, m5.grow pD5, upd_same, ?_, k5⟩
              · show w5.pv = D :: w1.pv
                rw [p5, p4, ep, p2]
              · exact (ru5.append (.cons rv5 .nil)).monoP m5 (ExtP.grow m5 pD5)
            · exact k5.elim
          | false =>
            rw [if_neg Bool.false_ne_true] at k4 ⊢
            have x24 : Ext w2 w4 := x3.trans x4
            obtain ⟨pD4, hD4⟩ := x24.pvk D pD
            exact ⟨w4, us, acc, rfl, x2.trans x24, by rw [p4, ep, p2], m4, hD4.trans hHD, ru.mono m2 x24, k4⟩
    · exact k2.elim
  · have hE : i = s.xs.length := by omega
    subst hE
    rw [List.drop_length] at k2
    unfold compGo at k2
    split at k2
    · rename_i hc
      obtain ⟨_, hst⟩ := hJ w2 x2.w m2 hc
      refine .inl ⟨hst, ?_⟩
      have z := Run.at (w' := w2.del D w1.pv) k2 (x2.del p2 hD hDp) (m2.del p2 hHD hDp) rfl rfl D us del_same (ru.del p2 hHD)
      rw [show upd (w2.del D w1.pv).H D (.lst us) = w2.H from upd_del hHD] at z
      exact z
    · exact k2.elim
end
/-! ### defs -/
def ar {A : Type} (n : Nat) (f : List Da → Mo A) : List Da → Mo A := fun ds => if ds.length = n then f ds else nop
/-- a def's promise by its mirror -/
def SpOf (K : PySem.W.Frag) (n : Nat) (f : List Da → Mo Da) : Sp := fun vs H Q E => ∃ (w : Wd) (ds : List Da), w.H = H ∧ Em K w ∧ RepL K w vs ds ∧ vs.length = n ∧ Run K w (f ds w.st) (OkV K Q) (XP K E)
def startS (n : Nat) (ds : List Da) : Sl := ds.map some ++ List.replicate (n - ds.length) none
def fnE (f : Fl) : Mo Da := match f with
  | .nx _ => ret .non
  | .rt d => ret d
  | _ => nop
/-- the mirror of a def of so many slots by its body's -/
def fnM (n : Nat) (m : Sl → Mo Fl) : List Da → Mo Da := fun ds => bnd (m (startS n ds)) fnE
section
variable {K : PySem.W.Frag} {E : St → XK}
theorem spOf_of {n : Nat} {f : List Da → Mo Da} {w : Wd} {vs : List V} {ds : List Da} {Q : VK} {E : XK} (m : Em K w) (r : RepL K w vs ds) (h : Run K w (ar n f ds w.st) (OkV K Q) (XP K E)) : SpOf K n f vs w.H Q E := by
  unfold ar at h
  split at h
  · rename_i hl
    exact ⟨w, ds, rfl, m, r, r.length.trans hl, h⟩
  · exact h.elim
theorem s_call {n : Nat} {f : List Da → Mo Da} {tA : TA} {al : Sl → Mo (List Da)} {dvs : List V} {dds : List Da} (hd : ∀ w, Em K w → RepL K w dvs dds) (ha : SA K E tA al) : SE K E (tCallSD (SpOf K n f) dvs E tA) (eCall (fun ds => ar n f (ds ++ dds)) al) := fun w ro σ Q e h =>
  ha w ro σ _ e (h.bind.mono (fun ds w1 x1 p1 m1 k vs rv => spOf_of m1 (rv.append (hd w1 m1)) k) fun _ _ _ z => z)
theorem start_slot : ∀ {vs : List V} {ds : List Da} {w : Wd}, RepL K w vs ds → ∀ (n i : Nat) (d : Da), (ds.map some ++ List.replicate n none)[i]? = some (some d) → ∃ v, (vs.map some ++ List.replicate n none)[i]? = some (some v) ∧ Rep K w v d
  | _, _, w, .nil, n, i, d, h => by
    simp only [List.map_nil, List.nil_append] at h
    rw [List.getElem?_replicate] at h
    split at h <;> cases h
  | _, _, w, .cons r t, n, 0, d, h => by
    simp at h
    subst h
    exact ⟨_, rfl, r⟩
  | _, _, w, .cons r t, n, i + 1, d, h => by
    obtain ⟨v, h1, h2⟩ := start_slot t n i d (by simpa using h)
    exact ⟨v, by simpa using h1, h2⟩
theorem en_start {w : Wd} {vs : List V} {ds : List Da} (m : Em K w) (r : RepL K w vs ds) (N : List Str) : En K w (startS N.length ds) (L2.start N vs) := by
  refine ⟨m, ?_, fun i d h => ?_⟩
  · unfold L2.start startS
    simp [r.length]
  · unfold startS at h
    unfold L2.start
    rw [r.length]
    exact start_slot r _ i d h
theorem body_run {w : Wd} {N : List Str} {ts : TS} {m : Sl → Mo Fl} {vs : List V} {ds : List Da} {Q : VK} {E0 : XK} (hs : SS K (fun _ => E0) ts m) (em : Em K w) (r : RepL K w vs ds) (h : Run K w (fnM N.length m ds w.st) (OkV K Q) (XP K E0)) :
    ts { nx := fun _ H' => Q .non H', rt := Q } (L2.start N vs) w.H :=
  hs w _ _ _ (en_start em r N) (h.bind.mono (fun f w1 x1 p1 m1 k => by
    cases f with
    | nx ro => exact fun σ e => Run.here (ok := OkV K Q) (a := Da.non) m1 k _ .non
    | rt d => exact Run.here (ok := OkV K Q) (a := d) m1 k
    | bk ro => exact k.elim
    | ct ro => exact k.elim) fun _ _ _ z _ => z)
/-- a def keeps its mirror -/
theorem ok_of {P : Program} {wd : World} {mg : Str → Option Value} {base : Heap} {x qual : Str} {params : Arguments} {body : List Stmt} {scope : Scope} {dvs : List V} {kws : List (Str × V)} {f : Addr} {fd : FuncData} {N ps : List Str} {k n : Nat} {m : Sl → Mo Fl} {nN : Nat}
    (F : FunD K x qual params body scope dvs kws f fd) (S : FnScope N ps scope) (hn : ps.length = n) (hN : N.length = nN)
    (hb : ∀ (cdv : Value) (A : Around) (outer : List Env) (s : Shared) (H : Hp) (E : XK), Room k (A.deeper (PyProof.Rows.envOfC qual scope s.heap.objs.size f cdv)) →
      ∃ t, PSs (cxOf (L2.CX P wd) P wd K mg base N qual scope f cdv A outer s H E) body t ∧ SS K (fun _ => E) t m) :
    FnOk P wd K mg base (L2.CX P wd) (k + 1) f fd ps (SpOf K n (fnM nN m)) := by
  subst hn hN
  refine F.ok S (fun vs H Q E h => ?_) (fun cdv A outer s H vs Q E hr h => ?_)
  · obtain ⟨w, ds, _, _, _, hl, _⟩ := h
    exact hl
  · obtain ⟨w, ds, rfl, em, r, hl, k⟩ := h
    obtain ⟨t, ht, hs⟩ := hb cdv A outer s w.H E hr
    exact ⟨t, ht, body_run hs em r k⟩
end
end CL
namespace CL
open PySem PySem.Spec L2
structure QE (X : Cx) (E : St → XK) (e : Expr) (te : TE) (m : Sl → Mo Da) : Prop where
  pe : PE X e te
  se : SE X.K E te m
structure QT (X : Cx) (E : St → XK) (e : Expr) (tt : TT) (m : Sl → Mo Bool) : Prop where
  pt : PT X e tt
  st : ST X.K E tt m
structure QW (X : Cx) (E : St → XK) (e : Expr) (tt : TT) (m : Sl → Mo Bool) : Prop where
  pw : PW X e tt
  st : ST X.K E tt m
structure QA (X : Cx) (E : St → XK) (es : List Expr) (ta : TA) (m : Sl → Mo (List Da)) : Prop where
  pa : PA X es ta
  sa : SA X.K E ta m
structure QL (X : Cx) (E : St → XK) (e : Expr) (te : TE) (m : Sl → Mo (List Da)) : Prop where
  pe : PE X e te
  sl : SL X.K E te m
structure QI (X : Cx) (E : St → XK) (tg iter : Expr) (wi : TI) (m : Sl → Mo Src) : Prop where
  pi : PI X tg iter wi
  si : SI X.K E wi m
structure QG (X : Cx) (tg : Expr) (g : TG) (t : Tg) (ws : List Nat) : Prop where
  pg : PG X tg g
  sg : SG X.K g t ws
structure QGs (X : Cx) (tg : List Expr) (g : TGs) (t : Tgs) (ws : List Nat) : Prop where
  pg : PGs X tg g
  sg : SGs X.K g t ws
structure QS (X : Cx) (E : St → XK) (s : Stmt) (ts : TS) (m : Sl → Mo Fl) : Prop where
  ps : PS X s ts
  ss : SS X.K E ts m
structure QB (X : Cx) (E : St → XK) (s : List Stmt) (ts : TS) (m : Sl → Mo Fl) : Prop where
  ps : PSs X s ts
  ss : SS X.K E ts m
structure QP (X : Cx) (E : St → XK) (e : Option Expr) (to : TO) (m : Sl → Mo (Option Int)) : Prop where
  po : PO X e to
  so : ∀ (w : Wd) (ro : Sl) (σ : St) (Q : Option Int → Hp → Prop), En X.K w ro σ → Run X.K w (m ro w.st) (fun o w' => Q o w'.H) (XP X.K (E σ)) → to σ w.H Q
/-- a def that can be called by its name -/
structure Cal (P : Program) (wd : World) (K : PySem.W.Frag) (mg : Str → Option Value) (base : Heap) (k : Nat) (x : Str) (n : Nat) (f : List Da → Mo Da) (dvs : List V) : Prop where
  ex : ∃ (q : Addr) (fd : FuncData) (ps : List Str) (ds : List Value), mg x = some (.ref q) ∧ PySem.W.keepIn K (.ref q) = true ∧ Binds K fd ps ds ∧ Vals dvs ds ∧ FnOk P wd K mg base (L2.CX P wd) k q fd ps (SpOf K n f)
def noP : Sl → Mo (Option Int) := fun _ => ret none
def soP (a : Sl → Mo Da) : Sl → Mo (Option Int) := fun ro => bnd (a ro) fun d => match d with
  | .int i => ret (some i)
  | _ => nop
def eSl (f : Da → Option Int → Option Int → Mo Da) (a : Sl → Mo Da) (lo hi : Sl → Mo (Option Int)) : Sl → Mo Da := fun ro => bnd (a ro) fun d => bnd (lo ro) fun l => bnd (hi ro) fun h => f d l h
def lSl (a : Sl → Mo Da) (lo hi : Sl → Mo (Option Int)) : Sl → Mo (List Da) := fun ro => bnd (a ro) fun d => bnd (lo ro) fun l => bnd (hi ro) fun h => slL d l h
def l2 (f : Da → Da → Mo (List Da)) (a b : Sl → Mo Da) : Sl → Mo (List Da) := fun ro => bnd (a ro) fun x => bnd (b ro) fun y => f x y
def lCall (f : List Da → Mo (List Da)) (a : Sl → Mo (List Da)) : Sl → Mo (List Da) := fun ro => bnd (a ro) f
section
variable {X : Cx} {E : St → XK} {a b c e : Expr} {es rest : List Expr} {ta tb tc te : TE} {tt tu : TT} {tA : TA} {ma mb mc : Sl → Mo Da} {mp mq : Sl → Mo Bool} {al : Sl → Mo (List Da)} {pos p2 : Pos} {r r' : R2} {f g : Da → Da → Mo Da}
theorem q_var (i : Nat) {x : Str} (hN : X.N[i]? = some x := by rfl) (hv : Vis X.env.scope x := by first | exact Or.inl rfl | exact Or.inr (Or.inl rfl) | exact Or.inr (Or.inr rfl)) (hd : (x == ("__debug__" : Str)) = false := by decide)
    (hcd : (x == ("__classdict__" : Str)) = false := by decide) : QE X E (.Name x pos) (tVar i) (eVar i) := ⟨pe_var hN hv hd hcd, s_var⟩
theorem q_int {i : Int} {j} : QE X E (.Constant (.int i) j pos) (tC (.int i)) (eC (.int i)) := ⟨pe_int, s_c fun _ _ => .int i⟩
theorem q_bl {i : Bool} {j} : QE X E (.Constant (.bool i) j pos) (tC (.bl i)) (eC (.bl i)) := ⟨pe_bl, s_c fun _ _ => .bl i⟩
theorem q_str {i : Str} {j} : QE X E (.Constant (.str i) j pos) (tC (.str i)) (eC (.str i)) := ⟨pe_str, s_c fun _ _ => .str i⟩
theorem q_non {j} : QE X E (.Constant .none j pos) (tC .non) (eC .non) := ⟨pe_non, s_c fun _ _ => .non⟩
/-- a constant of the module -/
theorem q_gint {x : Str} {i : Int} (hm : ∃ t, X.mg x = some (.int i t)) (hg : Gl X x := by rfl) (hd : (x == ("__debug__" : Str)) = false := by decide) : QE X E (.Name x pos) (tC (.int i)) (eC (.int i)) :=
  ⟨by obtain ⟨t, h⟩ := hm; exact pe_glob hg h ⟨t, rfl⟩ hd, s_c fun _ _ => .int i⟩
theorem q_gstr {x : Str} {i : Str} (hm : ∃ t, X.mg x = some (.str i t)) (hg : Gl X x := by rfl) (hd : (x == ("__debug__" : Str)) = false := by decide) : QE X E (.Name x pos) (tC (.str i)) (eC (.str i)) :=
  ⟨by obtain ⟨t, h⟩ := hm; exact pe_glob hg h ⟨t, rfl⟩ hd, s_c fun _ _ => .str i⟩
theorem q_gdat {x : Str} {p : Addr} {d : Da} (hm : X.mg x = some (.ref p)) (hr : ∀ w, Em X.K w → Rep X.K w (.ref p) d) (hg : Gl X x := by rfl) (hd : (x == ("__debug__" : Str)) = false := by decide) : QE X E (.Name x pos) (tC (.ref p)) (eC d) :=
  ⟨pe_glob hg hm rfl hd, s_c hr⟩
theorem q_op {op : Operator} (ho : QO X (binaryOp op) r f) (ha : QE X E a ta ma) (hb : QE X E b tb mb) : QE X E (.BinOp a op b pos) (tOp r ta tb) (e2 f ma mb) := ⟨pe_op ho.op ha.pe hb.pe, s_op ho.s2 ha.se hb.se⟩
theorem q_un {op : UnaryOp} {r : V → Hp → VK → Prop} {f : Da → Mo Da} (ho : UnR X (unaryOp op) r) (hs : S1 X.K r f) (ha : QE X E a ta ma) : QE X E (.UnaryOp op a pos) (tUn r ta) (e1 f ma) := ⟨pe_un ho ha.pe, s_un hs ha.se⟩
theorem q_neg (ha : QE X E a ta ma) : QE X E (.UnaryOp .USub a pos) (tUn (rU fun i => .int (-i)) ta) (e1 negD ma) := q_un un_neg (fun w x d Q ex m rx h => by
  unfold negD at h
  split at h
  · cases rx; exact ⟨_, rfl, h.here m _ (.int _)⟩
  · exact h.elim) ha
theorem q_cmp {op : CmpOp} (ho : QO X (compareOp op) r f) (ha : QE X E a ta ma) (hb : QE X E b tb mb) (hm : behindInMarks op b = false := by first | rfl | exact nomark _) : QE X E (.Compare a [op] [b] pos) (tOp r ta tb) (e2 f ma mb) := ⟨pe_cmpR ho.op ha.pe hb.pe hm, s_op ho.s2 ha.se hb.se⟩
theorem q_chain {op op' : CmpOp} (ho : QO X (compareOp op) r f) (ho' : QO X (compareOp op') r' g) (ha : QE X E a ta ma) (hb : QE X E b tb mb) (hc : QE X E c tc mc) (hm : lastMarks [op, op'] [b, c] = false := by with_unfolding_all rfl) : QE X E (.Compare a [op, op'] [b, c] pos) (tChain r r' ta tb tc) (eChain f g ma mb mc) :=
  ⟨pe_chain ho.op ho'.op ha.pe hb.pe hc.pe hm, s_chain ho.s2 ho'.s2 ha.se hb.se hc.se⟩
theorem q_one {op} (h : QE X E a ta ma) : QE X E (.BoolOp op [a] pos) ta ma := ⟨pe_one h.pe, h.se⟩
theorem q_and (ha : QE X E a ta ma) (hb : QE X E (.BoolOp .And (b :: rest) pos) tb mb) : QE X E (.BoolOp .And (a :: b :: rest) pos) (tAndV ta tb) (vAnd ma mb) := ⟨pe_and ha.pe hb.pe, s_vAnd ha.se hb.se⟩
theorem q_or (ha : QE X E a ta ma) (hb : QE X E (.BoolOp .Or (b :: rest) pos) tb mb) : QE X E (.BoolOp .Or (a :: b :: rest) pos) (tOrV ta tb) (vOr ma mb) := ⟨pe_or ha.pe hb.pe, s_vOr ha.se hb.se⟩
theorem q_not (ha : QE X E a ta ma) : QE X E (.UnaryOp .Not a pos) (tNotV ta) (vNot ma) := ⟨pe_not ha.pe, s_vNot ha.se⟩
theorem q_ifx (ht : QT X E c tt mp) (ha : QE X E a ta ma) (hb : QE X E b tb mb) : QE X E (.IfExp c a b pos) (tIf tt ta tb) (eIf mp ma mb) := ⟨pe_ifExp ht.pt ha.pe hb.pe, s_if ht.st ha.se hb.se⟩
/-! tests -/
theorem qt_val (h : QE X E e te ma) (he : ∀ whole, isTrue e X.env whole = (do let v ← whole; standAt e.pos; holding [v] (truthy v)) := by intro _; rfl) : QT X E e (tB te) (tst ma) := ⟨pt_val h.pe he, s_tB h.se⟩
theorem qt_cmp {op : CmpOp} (ho : QO X (compareOp op) r f) (ha : QE X E a ta ma) (hb : QE X E b tb mb) (hm : behindInMarks op b = false := by first | rfl | exact nomark _) : QT X E (.Compare a [op] [b] pos) (tTest (tOp r ta tb)) (tst (e2 f ma mb)) := ⟨pt_cmpR ho.op ha.pe hb.pe hm, s_tst (s_op ho.s2 ha.se hb.se)⟩
theorem qt_chain {op op' : CmpOp} (ho : QO X (compareOp op) r f) (ho' : QO X (compareOp op') r' g) (ha : QE X E a ta ma) (hb : QE X E b tb mb) (hc : QE X E c tc mc) (hm : lastMarks [op, op'] [b, c] = false := by with_unfolding_all rfl) : QT X E (.Compare a [op, op'] [b, c] pos) (tTest (tChain r r' ta tb tc)) (tst (eChain f g ma mb mc)) :=
  ⟨pt_chain ho.op ho'.op ha.pe hb.pe hc.pe hm, s_tst (s_chain ho.s2 ho'.s2 ha.se hb.se hc.se)⟩
theorem qw_and1 (h : QT X E a tt mp) : QW X E (.BoolOp .And [a] pos) tt mp := ⟨pw_and1 h.pt, h.st⟩
theorem qw_or1 (h : QT X E a tt mp) : QW X E (.BoolOp .Or [a] pos) tt mp := ⟨pw_or1 h.pt, h.st⟩
theorem qw_and (h : QT X E a tt mp) (hb : QW X E (.BoolOp .And (b :: rest) pos) tu mq) : QW X E (.BoolOp .And (a :: b :: rest) pos) (tAnd tt tu) (tAnd_ mp mq) := ⟨pw_and h.pt hb.pw, s_and h.st hb.st⟩
theorem qw_or (h : QT X E a tt mp) (hb : QW X E (.BoolOp .Or (b :: rest) pos) tu mq) : QW X E (.BoolOp .Or (a :: b :: rest) pos) (tOr tt tu) (tOr_ mp mq) := ⟨pw_or h.pt hb.pw, s_or h.st hb.st⟩
theorem qt_w (h : QW X E a tt mp) : QT X E a tt mp := ⟨h.pw.pt, h.st⟩
theorem qt_not (h : QT X E a tt mp) : QT X E (.UnaryOp .Not a pos) (tNot tt) (tNot_ mp) := ⟨pt_not h.pt, s_not h.st⟩
/-! arguments, displays -/
theorem qa_nil : QA X E [] tNil aNil := ⟨pa_nil, s_nil⟩
theorem qa_cons (h : QE X E e te ma) (hr : QA X E es tA al) (hs : starEach (e :: es) X.env = (false, eval e X.env) :: starEach es X.env := by rfl) : QA X E (e :: es) (tCons te tA) (aCons ma al) := ⟨pa_cons h.pe hr.pa hs, s_cons h.se hr.sa⟩
theorem q_tup {k} (h : QA X E es tA al) : QE X E (.Tuple es k pos) (tTup tA) (eTup al) := ⟨pe_tup h.pa, s_tup h.sa⟩
theorem ql_disp (h : QA X E es tA al) : QL X E (.List es pos) (tLst tA) (lDisp al) := ⟨pe_lst h.pa, s_lst h.sa⟩
theorem q_L (h : QL X E e te al) : QE X E e te (eL al) := ⟨h.pe, s_L h.sl⟩
theorem q_H (h : QL X E e te al) : QE X E e te (eH al) := ⟨h.pe, s_H h.sl⟩
theorem q_F (h : QE X E e te ma) : QE X E e te (eF ma) := ⟨h.pe, s_F h.se⟩
theorem ql_op {op : Operator} {f : Da → Da → Mo (List Da)} (ho : QOL X (binaryOp op) r f) (ha : QE X E a ta ma) (hb : QE X E b tb mb) : QL X E (.BinOp a op b pos) (tOp r ta tb) (l2 f ma mb) := ⟨pe_op ho.op ha.pe hb.pe, fun w ro σ Q e h =>
  ha.se w ro σ _ e (h.bind.mono (fun d w1 x1 p1 m1 k v rv => hb.se w1 ro σ _ (e.mono x1 m1) (k.bind.mono (fun d2 w2 x2 p2 m2 k2 v2 rv2 =>
    ho.s2 w2 v v2 d d2 Q _ m2 (rv.mono m1 x2) rv2 k2) fun _ _ _ z => z)) fun _ _ _ z => z)⟩
/-! subscripts -/
theorem q_sub1 {K : PySem.W.Frag} (ha : QE X E a ta ma) (hb : QE X E b tb mb) (hs : PlainIx b := by exact fun _ _ => rfl) (hK : X.K = K := by rfl) : QE X E (.Subscript a b pos) (tOp (rIx K) ta tb) (e2 ixD ma mb) := by
  subst hK
  exact ⟨pe_ix q_ix.1 ha.pe hb.pe hs, s_op q_ix.2 ha.se hb.se⟩
theorem qp_none : QP X E none tNoPart noP := ⟨po_none, fun w ro σ Q e h => h.here e.emb⟩
theorem qp_some (h : QE X E e te ma) : QP X E (some e) (tPart te) (soP ma) := ⟨po_some h.pe, fun w ro σ Q en hh => h.se w ro σ _ en (hh.bind.mono (fun d w1 x1 p1 m1 k v rv => by
  split at k
  · cases rv; exact ⟨_, rfl, k.here m1⟩
  · exact k.elim) fun _ _ _ z => z)⟩
theorem q_slice {K : PySem.W.Frag} {lo hi : Option Expr} {tl th : TO} {ml mh : Sl → Mo (Option Int)} (ha : QE X E a ta ma) (hl : QP X E lo tl ml) (hh : QP X E hi th mh) (hK : X.K = K := by rfl) : QE X E (.Subscript a (.Slice lo hi none p2) pos) (tSl (rSlAll K) ta tl th) (eSl slA ma ml mh) := by
  subst hK
  exact ⟨pe_slice q_slA.1 ha.pe hl.po hh.po, fun w ro σ Q e h => ha.se w ro σ _ e (h.bind.mono (fun d w1 x1 p1 m1 k v rv => hl.so w1 ro σ _ (e.mono x1 m1) (k.bind.mono (fun l w2 x2 p2 m2 k2 =>
    hh.so w2 ro σ _ (e.mono (x1.trans x2) m2) (k2.bind.mono (fun u w3 x3 p3 m3 k3 => q_slA.2 w3 v d l u Q _ m3 (rv.mono m1 (x2.trans x3)) k3) fun _ _ _ z => z)) fun _ _ _ z => z)) fun _ _ _ z => z)⟩
theorem ql_slice {K : PySem.W.Frag} {lo hi : Option Expr} {tl th : TO} {ml mh : Sl → Mo (Option Int)} (ha : QE X E a ta ma) (hl : QP X E lo tl ml) (hh : QP X E hi th mh) (hK : X.K = K := by rfl) : QL X E (.Subscript a (.Slice lo hi none p2) pos) (tSl (rSlL K) ta tl th) (lSl ma ml mh) := by
  subst hK
  exact ⟨pe_slice sl_list ha.pe hl.po hh.po, fun w ro σ Q e h => ha.se w ro σ _ e (h.bind.mono (fun d w1 x1 p1 m1 k v rv => hl.so w1 ro σ _ (e.mono x1 m1) (k.bind.mono (fun l w2 x2 p2 m2 k2 =>
    hh.so w2 ro σ _ (e.mono (x1.trans x2) m2) (k2.bind.mono (fun u w3 x3 p3 m3 k3 => by
      unfold slL at k3
      split at k3
      · rename_i xs hx
        obtain ⟨q, vs, rfl, hH, rl⟩ := ls_rep m3 (rv.mono m1 (x2.trans x3)) hx
        exact ⟨q, vs, rfl, SqL.of hH, fun p hp => okL_fresh m3 k3 rfl hp (cut_rep rl l u)⟩
      · exact k3.elim) fun _ _ _ z => z)) fun _ _ _ z => z)) fun _ _ _ z => z)⟩
/-! built-in functions -/
theorem q_cb {x : Str} {id : String} {rr : List V → Hp → VK → Prop} {fm : List Da → Mo Da} {p : Pos} (hc : CallR X (.builtin id) rr) (hs : SC X.K rr fm) (hm : X.mg x = none) (ha : QA X E (e :: es) tA al) (hv : bootBuiltins x = some (.builtin id) := by decide +kernel) (hg : Gl X x := by rfl) (hn : x ≠ "__name__" := by decide) (hdb : (x == ("__debug__" : Str)) = false := by decide)
    (he : starEach (e :: es) X.env = (false, eval e X.env) :: starEach es X.env := by rfl) (hpl : (backTo pos (starEach es X.env)).any (·.1) = false := by rfl) : QE X E (.Call (.Name x p) (e :: es) [] pos) (tCB rr tA) (eCall fm al) :=
  ⟨pe_callB hc hg hm hv ha.pa hn hdb he hpl, s_cb hs ha.sa⟩
theorem q_ct {x : Str} {T : String} {rr : List V → Hp → VK → Prop} {fm : List Da → Mo Da} {p : Pos} (hc : CallR X (.type T) rr) (hs : SC X.K rr fm) (hm : X.mg x = none) (ha : QA X E (e :: es) tA al) (hv : bootBuiltins x = some (.type T) := by decide +kernel) (hg : Gl X x := by rfl) (hn : x ≠ "__name__" := by decide) (hdb : (x == ("__debug__" : Str)) = false := by decide)
    (he : starEach (e :: es) X.env = (false, eval e X.env) :: starEach es X.env := by rfl) (hpl : (backTo pos (starEach es X.env)).any (·.1) = false := by rfl) : QE X E (.Call (.Name x p) (e :: es) [] pos) (tCB rr tA) (eCall fm al) :=
  ⟨pe_callTy hc hg hm hv ha.pa hn hdb he hpl, s_cb hs ha.sa⟩
theorem ql_ct {x : Str} {T : String} {rr : List V → Hp → VK → Prop} {fm : List Da → Mo (List Da)} {p : Pos} (hc : CallR X (.type T) rr) (hs : SCL X.K rr fm) (hm : X.mg x = none) (ha : QA X E (e :: es) tA al) (hv : bootBuiltins x = some (.type T) := by decide +kernel) (hg : Gl X x := by rfl) (hn : x ≠ "__name__" := by decide) (hdb : (x == ("__debug__" : Str)) = false := by decide)
    (he : starEach (e :: es) X.env = (false, eval e X.env) :: starEach es X.env := by rfl) (hpl : (backTo pos (starEach es X.env)).any (·.1) = false := by rfl) : QL X E (.Call (.Name x p) (e :: es) [] pos) (tCB rr tA) (lCall fm al) :=
  ⟨pe_callTy hc hg hm hv ha.pa hn hdb he hpl, fun w ro σ Q e h => ha.sa w ro σ _ e (h.bind.mono (fun ds w1 x1 p1 m1 k vs rvs => hs w1 vs ds Q _ m1 rvs k) fun _ _ _ z => z)⟩
theorem q_isi {K : PySem.W.Frag} {p p3 : Pos} {T : Str} (t : Tn) (hm : X.mg "isinstance" = none) (hT : X.mg T = none) (ha : QE X E a ta ma) (hv : bootBuiltins T = some (.type t.name) := by decide +kernel) (h1 : t ≠ .non := by decide) (h2 : t ≠ .dict := by decide) (hg : Gl X "isinstance" := by rfl) (hgT : Gl X T := by rfl) (hn : T ≠ "__name__" := by decide) (hd : (T == ("__debug__" : Str)) = false := by decide)
    (hs : starEach (a :: [.Name T p3]) X.env = (false, eval a X.env) :: starEach [.Name T p3] X.env := by rfl) (hs2 : starEach (.Name T p3 :: []) X.env = (false, eval (.Name T p3) X.env) :: starEach [] X.env := by rfl) (hpl : (backTo pos (starEach [.Name T p3] X.env)).any (·.1) = false := by rfl) (hK : X.K = K := by rfl) :
    QE X E (.Call (.Name "isinstance" p) [a, .Name T p3] [] pos) (tCB (rIsi K) (tCons ta (tCons (tC (.ty t.name)) tNil))) (e1 (isT t) ma) := by
  subst hK
  exact ⟨pe_callB call_isi hg hm (by decide +kernel) (pa_cons ha.pe (pa_cons (pe_bltn hgT hT hv rfl hn hd) pa_nil hs2) hs) (by decide) (by decide) hs hpl, fun w ro σ Q e h =>
    ha.se w ro σ _ e (h.bind.mono (fun d w1 x1 p1 m1 k v rv => sc_isT h1 h2 w1 v d Q _ m1 rv k) fun _ _ _ z => z)⟩
/-! methods of lists -/
theorem q_app {K : PySem.W.Frag} {apos : Pos} (ha : QE X E a ta ma) (hb : QE X E b tb mb) (hbase : attributeBase a "append" X.env (eval a X.env) = eval a X.env := by rfl)
    (hfew : ((backTo pos (starEach (b :: []) X.env)).all (fun x => !x.1) && (backToKw pos (keywordEach [] X.env)).all (fun x => x.1.isSome) && decide ((b :: []).length + ([] : List Keyword).length + (if ([] : List Keyword).isEmpty then 0 else 1) < 30)) = true := by rfl) (hline : (apos.endLine == pos.line) = true := by rfl) (hs : starEach (b :: []) X.env = (false, eval b X.env) :: starEach [] X.env := by rfl) (hpl : (backTo pos (starEach [] X.env)).any (·.1) = false := by rfl) (hK : X.K = K := by rfl) :
    QE X E (.Call (.Attribute a "append" apos) [b] [] pos) (tBM K "list" rAppend ta (tCons tb tNil)) (eApp ma mb) := by
  subst hK
  exact ⟨pe_bm PySem.F.plainAttrs_list PySem.F.slot_list_append PySem.F.type_list_append mt_append ha.pe (pa_cons hb.pe pa_nil hs) hbase hfew hline hs hpl, s_app ha.se hb.se⟩
theorem q_pop {K : PySem.W.Frag} {apos : Pos} (ha : QE X E a ta ma) (hbase : attributeBase a "pop" X.env (eval a X.env) = eval a X.env := by rfl) (hline : (apos.endLine == pos.line) = true := by rfl) (hK : X.K = K := by rfl) :
    QE X E (.Call (.Attribute a "pop" apos) [] [] pos) (tBM0 K "list" rPop ta) (ePop ma) := by
  subst hK
  exact ⟨pe_bm0 PySem.F.plainAttrs_list PySem.F.slot_list_pop PySem.F.type_list_pop mt_pop ha.pe hbase hline, s_pop ha.se⟩
/-! calls of defs -/
theorem q_call {P : Program} {wd : World} {K : PySem.W.Frag} {mg : Str → Option Value} {base : Heap} {k n : Nat} {x : Str} {dvs : List V} {dds : List Da} {fm : List Da → Mo Da} {p : Pos} (F : Cal P wd K mg base k x n fm dvs) (hr : Room k X.A) (hx : ∀ σ, PassesAt (L2.CX X.prog X.w) X σ (E σ))
    (ha : QA X E (e :: es) tA al) (hP : X.prog = P := by rfl) (hw : X.w = wd := by rfl) (hK : X.K = K := by rfl) (hmg : X.mg = mg := by rfl) (hbase : X.base = base := by rfl) (hdd : ∀ w, Em K w → RepL K w dvs dds := by intro w m; first | exact .nil | exact .cons (.int _) .nil) (hg : Gl X x := by rfl) (hdb : (x == ("__debug__" : Str)) = false := by decide) (he : starEach (e :: es) X.env = (false, eval e X.env) :: starEach es X.env := by rfl) (hpl : (backTo pos (starEach es X.env)).any (·.1) = false := by rfl) :
    QE X E (.Call (.Name x p) (e :: es) [] pos) (tCallSD (SpOf K n fm) dvs E tA) (eCall (fun ds => ar n fm (ds ++ dds)) al) := by
  subst hP hw hK hmg hbase
  obtain ⟨q, fd, ps, ds, hm, hk, hb, hd, F⟩ := F.ex
  exact ⟨pe_callSD F hr hg hm hk hb hd hx ha.pa hdb he hpl, s_call hdd ha.sa⟩
/-! targets -/
theorem qg_name (i : Nat) {x : Str} (hN : X.N.Nodup) (hi : X.N[i]? = some x := by rfl) (hx : Loc X.env.scope x := by first | exact Or.inl rfl | exact Or.inr rfl) (hf : X.fn x = true ∨ X.env.scope.names.lookup x = some .local := by first | exact .inl rfl | exact .inr rfl | assumption) : QG X (.Name x pos) (gName i) (gN i) [i] := ⟨pg_name hN hi hx hf, sg_name⟩
theorem qgs_nil : QGs X [] gNil gsN [] := ⟨pgs_nil, sgs_nil⟩
theorem qgs_cons {g : TG} {gs : TGs} {t : Tg} {u : Tgs} {ws us : List Nat} (h1 : QG X e g t ws) (h2 : QGs X es gs u us) (hs : (assignEach (e :: es) X.env).map (·.2) = assign e X.env :: (assignEach es X.env).map (·.2) := by rfl) : QGs X (e :: es) (gCons g gs) (gsC t u) (ws ++ us) := ⟨pgs_cons h1.pg h2.pg hs, sgs_cons h1.sg h2.sg⟩
theorem qg_tup {K : PySem.W.Frag} {gs : TGs} {t : Tgs} {ws : List Nat} {k : Nat} (n : Nat) (hc : X.calm = true) (h : QGs X es gs t ws) (hn : (assignEach es X.env).length = n := by rfl) (hst : (assignEach es X.env).findIdx? (·.1) = none := by rfl) (hK : X.K = K := by rfl) : QG X (.Tuple es k pos) (gTup K n gs) (gT n t) ws := by
  subst hK
  exact ⟨pg_tup hc h.pg hn hst, sg_tup h.sg⟩
/-! what is walked -/
variable {tg iter : Expr}
theorem qi_v {K : PySem.W.Frag} (h : QE X E iter te ma) (hK : X.K = K := by rfl) : QI X E tg iter (iSeq K te) (iV ma) := by
  subst hK
  exact ⟨pi_seq h.pe, si_v h.se⟩
theorem qi_r1 {p : Pos} (hm : X.mg "range" = none) (h : QA X E [a] tA al) (hg : Gl X "range" := by rfl) (hs : starEach [a] X.env = [(false, eval a X.env)] := by rfl) : QI X E tg (.Call (.Name "range" p) [a] [] pos) (iRng1 tA) (iR1 al) := ⟨pi_range1 hg hm h.pa hs, si_r1 h.sa⟩
theorem qi_r2 {p : Pos} (hm : X.mg "range" = none) (h : QA X E [a, b] tA al) (hg : Gl X "range" := by rfl) (hs : starEach [a, b] X.env = [(false, eval a X.env), (false, eval b X.env)] := by rfl) (hs2 : starEach [b] X.env = [(false, eval b X.env)] := by rfl) : QI X E tg (.Call (.Name "range" p) [a, b] [] pos) (iRng2 tA) (iR2 al) := ⟨pi_range2 hg hm h.pa hs hs2, si_r2 h.sa⟩
end
section
variable {X : Cx} {E : St → XK} {a b c e tg iter : Expr} {es rest : List Expr} {ta tb tc te : TE} {tt : TT} {tA : TA} {ma mb mc : Sl → Mo Da} {mp : Sl → Mo Bool} {al : Sl → Mo (List Da)} {pos p2 : Pos} {s : Stmt} {ss s1 s2 : List Stmt} {ts tu : TS} {m n : Sl → Mo Fl} {g : TG} {t : Tg} {ws : List Nat} {wi : TI} {ms : Sl → Mo Src}
/-! comprehensions -/
structure QTs (X : Cx) (E : St → XK) (es : List Expr) (tt : TT) (m : Sl → Mo Bool) : Prop where
  pt : PTs X es tt
  st : ST X.K E tt m
def tYes_ : Sl → Mo Bool := fun _ => ret true
theorem qts_nil : QTs X E [] tYes tYes_ := ⟨pts_nil, fun w ro σ Q e h => h.here e.emb⟩
theorem qts_one (h : QT X E a tt mp) : QTs X E [a] tt mp := ⟨pts_one h.pt, h.st⟩
theorem ql_comp {elt : Expr} {ifs : List Expr} {scope : Scope} {own : List (Str × Nat)} {vs : List Nat} (hc : X.calm = true) (hN : X.N.Nodup) (hi : QI X E tg iter wi ms) (ok : BlkOk X.N X.env.scope scope own)
    (hg : ∀ (s : Shared) (H : Hp) (C : Addr) (cl : List (Str × Addr)) (fp : List Addr), QG (X.blk s H scope (PySem.compEnvC scope cl C X.env) fp) tg g t ws)
    (ht : ∀ (s : Shared) (H : Hp) (C : Addr) (cl : List (Str × Addr)) (fp : List Addr), QTs (X.blk s H scope (PySem.compEnvC scope cl C X.env) fp) (fun _ => E0) ifs tt mp)
    (he : ∀ (s : Shared) (H : Hp) (C : Addr) (cl : List (Str × Addr)) (fp : List Addr), QE (X.blk s H scope (PySem.compEnvC scope cl C X.env) fp) (fun _ => E0) elt te ma)
    (hv : own.map (·.2) = vs := by rfl) (hw : ∀ i ∈ ws, i ∈ vs := by decide) (hs : ∀ x, foldedSetIterable iter X.env x = pure x := by intro _; rfl) : QL X E (.ListComp elt [⟨tg, iter, ifs, 0⟩] scope pos) (tLc wi g tt te vs) (lComp ms t mp ma vs) :=
  ⟨by subst hv; exact pe_lc hc hN hi.pi ok (fun s H C cl fp => (hg s H C cl fp).pg) (fun s H C cl fp => (ht s H C cl fp).pt) (fun s H C cl fp => (he s H C cl fp).pe) hs,
    sl_comp hi.si (hg X.s_0 (fun _ => none) 0 [] []).sg hw (ht X.s_0 (fun _ => none) 0 [] []).st (he X.s_0 (fun _ => none) 0 [] []).se⟩
/-! statements -/
theorem qb_nil : QB X E [] tNext mNil := ⟨pss_nil, ss_nil⟩
theorem qb_cons (h1 : QS X E s ts m) (h2 : QB X E ss tu n) : QB X E (s :: ss) (tSeq ts tu) (mSeq m n) := ⟨pss_cons h1.ps h2.ps, ss_seq h1.ss h2.ss⟩
theorem qb_one (h1 : QS X E s ts m) : QB X E [s] ts m := ⟨pss_one h1.ps, h1.ss⟩
theorem qs_set (i : Nat) {x : Str} {pos' : Pos} (hN : X.N.Nodup) (ha : QE X E e te ma) (hi : X.N[i]? = some x := by rfl) (hx : Loc X.env.scope x := by first | exact Or.inl rfl | exact Or.inr rfl) (hs : swapsWith e (some (.Name x pos')) pos.line X.env = pure false := by rfl) (hf : X.fn x = true ∨ X.env.scope.names.lookup x = some .local := by first | exact .inl rfl | exact .inr rfl | assumption) :
    QS X E (.Assign [.Name x pos'] e pos) (tAsg te (gName i)) (mSet i ma) := ⟨ps_set hN hi hx ha.pe hs hf, ss_set ha.se⟩
theorem qs_tgt (hg : QG X tg g t ws) (ha : QE X E e te ma) (hs : swapsWithSole [tg] e pos.line X.env = pure false := by rfl) (hw : swappedStores [tg] e X.env = pure none := by rfl)
    (h1 : (assignEach [tg] X.env).map (·.2) = [assign tg X.env] := by rfl) : QS X E (.Assign [tg] e pos) (tAsg te g) (mTgt t ma) := ⟨ps_asg ha.pe hg.pg hs hw h1, ss_tgt hg.sg ha.se⟩
theorem qs_par (i j : Nat) {x y : Str} {px py pt : Pos} {kt k2 pt2} (hc : X.calm = true) (hN : X.N.Nodup) (ha : QA X E [a, b] tA al) (hi : X.N[i]? = some x := by rfl) (hj : X.N[j]? = some y := by rfl) (hij : i ≠ j := by decide) (hx : X.env.scope.names.lookup x = some .local := by rfl) (hy : X.env.scope.names.lookup y = some .local := by rfl)
    (hw : swappedStores [.Tuple [.Name x px, .Name y py] kt pt] (.Tuple [a, b] k2 pt2) X.env = pure (some [x, y]) := by rfl) (hs : swapsWithSole [.Tuple [.Name x px, .Name y py] kt pt] (.Tuple [a, b] k2 pt2) pos.line X.env = pure false := by rfl) :
    QS X E (.Assign [.Tuple [.Name x px, .Name y py] kt pt] (.Tuple [a, b] k2 pt2) pos) (tPar i j tA) (mPar i j al) := ⟨ps_par hc hN hi hj hij hx hy ha.pa hw hs, ss_par ha.sa⟩
theorem qs_setI {o i v : Expr} {to ti tv : TE} {mo mi mv : Sl → Mo Da} {pos' : Pos} (hv : QE X E v tv mv) (ho : QE X E o to mo) (hi : QE X E i ti mi) (ha : ∀ v, assign (.Subscript o i pos') X.env v = (do
      let ov ← holding [v] (eval o X.env)
      let iv ← holding [v, ov] (eval i X.env)
      standAt pos'
      holding [v, ov, iv] (setItem ov iv v)
      release [v, ov, iv] []) := by intro _; rfl) (hs : swapsWithSole [.Subscript o i pos'] v pos.line X.env = pure false := by rfl) (hw : swappedStores [.Subscript o i pos'] v X.env = pure none := by rfl)
    (h1 : (assignEach [.Subscript o i pos'] X.env).map (·.2) = [assign (.Subscript o i pos') X.env] := by rfl) : QS X E (.Assign [.Subscript o i pos'] v pos) (tAsg tv (gSub to ti rSetL)) (mSetI mv mo mi) :=
  ⟨ps_asg hv.pe (pg_sub ho.pe hi.pe set_list ha) hs hw h1, ss_setI hv.se ho.se hi.se⟩
theorem qs_ret (h : QE X E e te ma) : QS X E (.Return (some e) pos) (tRet te) (mRet ma) := ⟨ps_ret h.pe, ss_ret h.se⟩
theorem qs_retN : QS X E (.Return none pos) tRetN mRetN := ⟨ps_retN, ss_retN⟩
theorem qs_expr (h : QE X E e te ma) (hs : swapsWith e none pos.line X.env = pure false := by rfl) : QS X E (.Expr e pos) (tDrop te) (mExpr ma) := ⟨ps_expr h.pe hs, ss_expr h.se⟩
theorem qs_if (ht : QT X E c tt mp) (h1 : QB X E s1 ts m) (h2 : QB X E s2 tu n) : QS X E (.If c s1 s2 pos) (tIfS tt ts tu) (mIf mp m n) := ⟨ps_if ht.pt h1.ps h2.ps, ss_if ht.st h1.ss h2.ss⟩
theorem qs_pass : QS X E (.Pass pos) tNext mNil := ⟨ps_pass, ss_nil⟩
theorem qs_brk : QS X E (.Break pos) tBreak mBrk := ⟨ps_break, ss_brk⟩
theorem qs_cnt : QS X E (.Continue pos) tCont mCnt := ⟨ps_continue, ss_cnt⟩
theorem qs_never : QS X E s tNever mNever := ⟨ps_never, ss_never⟩
theorem qb_never : QB X E ss tNever mNever := ⟨pss_never, ss_never⟩
theorem qs_aug (i : Nat) {x : Str} {op : Operator} {f : Int → Int → Int} {pos' : Pos} (hN : X.N.Nodup) (ho : PIp X op (ipI f)) (ha : QE X E e te ma) (hi : X.N[i]? = some x := by rfl) (hx : Loc X.env.scope x := by first | exact Or.inl rfl | exact Or.inr rfl) (hf : X.fn x = true ∨ X.env.scope.names.lookup x = some .local := by first | exact .inl rfl | exact .inr rfl | assumption) :
    QS X E (.AugAssign (.Name x pos') op e pos) (tAug i te (ipI f)) (mAug i f ma) := ⟨ps_aug hN hi hx ha.pe ho hf, ss_aug ha.se⟩
theorem qs_for (hp : PassesOwn (model X.prog X.w) X.A X.env X.xe) (hc : X.calm = true) (hi : QI X E tg iter wi ms) (hg : QG X tg g t ws) (hb : QB X E ss ts m) (hs : ∀ x, foldedSetIterable iter X.env x = pure x := by intro _; rfl) : QS X E (.For tg iter ss [] pos) (tFor wi g ts) (mFor ms t m) :=
  ⟨ps_for hp hc hi.pi hg.pg hb.ps hs, ss_for hi.si hg.sg hb.ss⟩
theorem qs_while (fuel : Nat) (hp : PassesOwn (model X.prog X.w) X.A X.env X.xe) (ht : QT X E c tt mp) (hb : QB X E ss ts m) : QS X E (.While c ss [] pos) (tWhile tt ts) (whileF mp m fuel) := ⟨ps_while hp ht.pt hb.ps, ss_while ht.st hb.ss⟩
/-- y = [..]: a comprehension stored at once -/
theorem qs_setLc (i : Nat) {y : Str} {py spos : Pos} {elt : Expr} {ifs : List Expr} {scope : Scope} {own : List (Str × Nat)} {vs : List Nat} (hc : X.calm = true) (hN : X.N.Nodup) (hi : QI X E tg iter wi ms) (ok : BlkOk X.N X.env.scope scope own)
    (hg : ∀ (s : Shared) (H : Hp) (C : Addr) (cl : List (Str × Addr)) (fp : List Addr), QG (X.blk s H scope (PySem.compEnvC scope cl C X.env) fp) tg g t ws)
    (ht : ∀ (s : Shared) (H : Hp) (C : Addr) (cl : List (Str × Addr)) (fp : List Addr), QTs (X.blk s H scope (PySem.compEnvC scope cl C X.env) fp) (fun _ => E0) ifs tt mp)
    (he : ∀ (s : Shared) (H : Hp) (C : Addr) (cl : List (Str × Addr)) (fp : List Addr), QE (X.blk s H scope (PySem.compEnvC scope cl C X.env) fp) (fun _ => E0) elt te ma)
    (mk : (Sl → Mo (List Da)) → Sl → Mo Da) (hmut : ∀ {te : TE} {al : Sl → Mo (List Da)}, SL X.K E te al → SE X.K E te (mk al))
    (hsw : swapsWith (.ListComp elt [⟨tg, iter, ifs, 0⟩] scope pos) (some (.Name y py)) spos.line X.env = pure true)
    (hy : X.N[i]? = some y := by rfl) (hyl : X.env.scope.names.lookup y = some .local := by rfl) (hv : own.map (·.2) = vs := by rfl) (hw : ∀ i ∈ ws, i ∈ vs := by decide) (hs : ∀ x, foldedSetIterable iter X.env x = pure x := by intro _; rfl) :
    QS X E (.Assign [.Name y py] (.ListComp elt [⟨tg, iter, ifs, 0⟩] scope pos) spos) (tAsg (tLc wi g tt te vs) (gName i)) (mSet i (mk (lComp ms t mp ma vs))) :=
  ⟨by subst hv; exact ps_setLc hc hN hy hyl hsw hi.pi ok (fun s H C cl fp => (hg s H C cl fp).pg) (fun s H C cl fp => (ht s H C cl fp).pt) (fun s H C cl fp => (he s H C cl fp).pe) hs,
    ss_set (hmut (sl_comp hi.si (hg X.s_0 (fun _ => none) 0 [] []).sg hw (ht X.s_0 (fun _ => none) 0 [] []).st (he X.s_0 (fun _ => none) 0 [] []).se))⟩
end
end CL
namespace CL
open PySem PySem.Spec L2
/-! ### comprehensions of two clauses -/
def compGo2 (o : Option Nat) (all : List Da) (t : Tg) (p : Sl → Mo Bool) (s1 : Sl → Mo Src) (t1 : Tg) (p1 : Sl → Mo Bool) (e : Sl → Mo Da) (vs1 : List Nat) (ro : Sl) : List Da → List Da → Mo (List Da)
  | [], acc => fun st => if chk o all st = true then .ok acc st else .bad
  | x :: r, acc => fun st => if chk o all st = true then (match t x ro with
    | some ro1 => bnd (noX (p ro1)) (fun c => if c = true then bnd (noX (s1 ro1)) (fun s => bnd (compGo s.o s.xs t1 p1 e (wipeS ro1 vs1) s.xs acc) (fun acc2 => compGo2 o all t p s1 t1 p1 e vs1 ro r acc2)) else compGo2 o all t p s1 t1 p1 e vs1 ro r acc) st
    | none => .bad) else .bad
def lComp2 (s : Sl → Mo Src) (t : Tg) (p : Sl → Mo Bool) (s1 : Sl → Mo Src) (t1 : Tg) (p1 : Sl → Mo Bool) (e : Sl → Mo Da) (vs vs1 : List Nat) : Sl → Mo (List Da) := fun ro => bnd (s ro) fun s => compGo2 s.o s.xs t p s1 t1 p1 e vs1 (wipeS ro vs) s.xs []
section
variable {K : PySem.W.Frag} {E E' : St → XK}
/-- the second clause's loop, up to Nx -/
theorem comp_loop {A : Type} {w0 w1 : Wd} {J : It} {s : Src} {t : Tg} {p : Sl → Mo Bool} {m : Sl → Mo Da} {g : TG} {tt : TT} {te : TE} {ws vs : List Nat} {ro : Sl} {σ : St} {D : Addr} {us0 : List V} {acc0 : List Da} {G : List Da → Mo A} {ok : A → Wd → Prop} {ex : Str → List Da → Wd → Prop} {Nx : Hp → Prop}
    (hg : SG K g t ws) (hw : ∀ i ∈ ws, i ∈ vs) (ht : ST K E' tt p) (he : SE K E' te m) (hJ : ItOk K w1 J s) (en : En K w1 ro σ) (x0 : Ext w0 w1) (h0D : w0.H D = none) (h0p : D ∉ w0.pv) (p1 : w1.pv = D :: w0.pv) (hHD : w1.H D = some (.lst us0)) (r0 : RepL K w1 us0 acc0)
    (k : Run K w0 (bnd (compGo s.o s.xs t p m (wipeS ro vs) s.xs acc0) G w1.st) ok ex)
    (hN : ∀ w2 us acc, Ext w0 w2 → w2.pv = D :: w0.pv → Em K w2 → w2.H D = some (.lst us) → RepL K w2 us acc → Run K w0 (G acc w2.st) ok ex → Nx w2.H) :
    ∃ W : Nat → Nat → Hp → Prop, (∃ m, W 0 m w1.H) ∧ ∀ j k H, W j k H → (J.stop j H ∧ Nx H) ∨ (J.go j H ∧ ∃ Nx1 : Hp → Prop, (∀ H', Nx1 H' → ∃ k', k' < k ∧ W (j + 1) k' H') ∧ ∀ x H', J.yld j H x H' → g x (wipe σ vs) H' fun σ3 H5 => wipe σ3 vs = wipe σ vs ∧ tt σ3 H5 fun b H6 =>
      if b = true then te σ3 H6 fun y H7 => ∃ acc, H7 D = some (.lst acc) ∧ acc.length < sizeLine ∧ Nx1 (upd H7 D (.lst (acc ++ [y]))) else Nx1 H6) := by
  refine ⟨fun i mm H' => ∃ w2 us acc, w2.H = H' ∧ ExtW w1 w2 ∧ Ext w0 w2 ∧ w2.pv = D :: w0.pv ∧ En K w2 ro σ ∧ w2.H D = some (.lst us) ∧ RepL K w2 us acc ∧ i ≤ s.xs.length ∧ mm = s.xs.length - i ∧ Run K w0 (bnd (compGo s.o s.xs t p m (wipeS ro vs) (s.xs.drop i) acc) G w2.st) ok ex,
    ⟨s.xs.length, w1, us0, acc0, rfl, ExtW.refl _, x0, p1, en, hHD, r0, Nat.zero_le _, by omega, by rw [List.drop_zero]; exact k⟩, ?_⟩
  rintro i mm H2 ⟨w2, us, acc, rfl, xw, x2, p2, en2, hHD, ru, hi, rfl, k2⟩
  have m2 := en2.emb
  by_cases hlt : i < s.xs.length
  · rw [List.drop_eq_getElem_cons hlt] at k2
    have k3 : Run K w0 (bnd (fun st => if chk s.o s.xs st = true then (match t s.xs[i] (wipeS ro vs) with | some ro1 => bnd (noX (p ro1)) (fun c => if c = true then bnd (noX (m ro1)) (fun y => if acc.length < szD then compGo s.o s.xs t p m (wipeS ro vs) (s.xs.drop (i + 1)) (acc ++ [y]) else nop) else compGo s.o s.xs t p m (wipeS ro vs) (s.xs.drop (i + 1)) acc) st | none => .bad) else .bad) G w2.st) ok ex := k2
    by_cases hc : chk s.o s.xs w2.st = true
    · obtain ⟨hgo, hst⟩ := hJ w2 xw m2 hc
      obtain ⟨g1, g2⟩ := hgo i _ (List.getElem?_eq_getElem hlt)
      cases q : t s.xs[i] (wipeS ro vs) with
      | none =>
        unfold bnd at k3
        simp only [hc, if_true, q] at k3
        exact k3.elim
      | some ro1 =>
        have k4 : Run K w0 (bnd (bnd (noX (p ro1)) (fun c => if c = true then bnd (noX (m ro1)) (fun y => if acc.length < szD then compGo s.o s.xs t p m (wipeS ro vs) (s.xs.drop (i + 1)) (acc ++ [y]) else nop) else compGo s.o s.xs t p m (wipeS ro vs) (s.xs.drop (i + 1)) acc)) G w2.st) ok ex := by
          have e : ∀ F : Mo (List Da), (if chk s.o s.xs w2.st = true then F w2.st else Res.bad) = F w2.st := fun F => if_pos hc
          unfold bnd at k3 ⊢
          simp only [hc, if_true, q] at k3
          exact k3
        rw [bnd_assoc] at k4
        refine .inr ⟨g1, fun H' => ∃ w3 us acc, w3.H = H' ∧ ExtW w1 w3 ∧ Ext w0 w3 ∧ w3.pv = D :: w0.pv ∧ En K w3 ro σ ∧ w3.H D = some (.lst us) ∧ RepL K w3 us acc ∧ Run K w0 (bnd (compGo s.o s.xs t p m (wipeS ro vs) (s.xs.drop (i + 1)) acc) G w3.st) ok ex,
          fun H' ⟨w3, us, acc, h1, h2, h2', h3, h4, h5, h6, h7⟩ => ⟨s.xs.length - (i + 1), by omega, w3, us, acc, h1, h2, h2', h3, h4, h5, h6, hlt, rfl, h7⟩, fun v H' hy => ?_⟩
        obtain ⟨w3, rfl, es, ep, x3, m3, rv⟩ := g2 v H' hy
        have en3 := en2.mono x3 m3
        obtain ⟨σ3, e3, so, kk⟩ := hg w3 v _ (wipeS ro vs) ro1 (wipe σ vs) (en3.wipe vs) rv q
        refine kk _ ⟨wipe_eq (by rw [so.1, wipe_length]) fun j hj => ?_, ?_⟩
        · rw [so.2 j fun z => hj (hw j z), wipe_out hj]
        · rw [← es] at k4
          refine ht w3 ro1 σ3 _ e3 ((run_noX k4).mono (fun c w4 x4 p4 m4 k4 => ?_) fun _ _ _ z => z)
          have pD : D ∈ w2.pv := by rw [p2]; exact List.mem_cons_self
          cases c with
          | true =>
            rw [if_pos rfl, bnd_assoc] at k4
            rw [if_pos rfl]
            refine he w4 ro1 σ3 _ (e3.mono x4 m4) ((run_noX k4).mono (fun y w5 x5 p5 m5 k5 v5 rv5 => ?_) fun _ _ _ z => z)
            have x25 : Ext w2 w5 := x3.trans (x4.trans x5)
            obtain ⟨pD5, hD5⟩ := x25.pvk D pD
            have hD5' : w5.H D = some (.lst us) := hD5.trans hHD
            by_cases hl : acc.length < szD
            · rw [if_pos hl] at k5
              have ru5 := ru.mono m2 x25
              have xg := ExtP.grow m5 (vs := us ++ [v5]) pD5
              refine ⟨us, hD5', by rw [ru.length]; exact szD_lt hl, w5.grow D (us ++ [v5]), us ++ [v5], acc ++ [y], rfl, (xw.trans x25.w).trans xg.w, (x2.trans x25).thenGrow m5 pD5 h0D h0p, ?_, ?_, upd_same, ?_, k5⟩
              · show w5.pv = D :: w0.pv
                rw [p5, p4, ep, p2]
              · have en5 := en2.mono x25 m5
                exact ⟨m5.grow pD5, en5.len, fun j d hd => let ⟨u, a1, a2⟩ := en5.slot j d hd; ⟨u, a1, a2.monoP m5 xg⟩⟩
              · exact (ru5.append (.cons rv5 .nil)).monoP m5 xg
            · rw [if_neg hl] at k5; exact k5.elim
          | false =>
            rw [if_neg Bool.false_ne_true] at k4 ⊢
            have x24 : Ext w2 w4 := x3.trans x4
            obtain ⟨pD4, hD4⟩ := x24.pvk D pD
            exact ⟨w4, us, acc, rfl, xw.trans x24.w, x2.trans x24, by rw [p4, ep, p2], en2.mono x24 m4, hD4.trans hHD, ru.mono m2 x24, k4⟩
    · unfold bnd at k3
      simp only [hc, if_false] at k3
      exact k3.elim
  · have hE : i = s.xs.length := by omega
    subst hE
    rw [List.drop_length] at k2
    have k3 : Run K w0 (bnd (fun st => if chk s.o s.xs st = true then .ok acc st else .bad) G w2.st) ok ex := k2
    by_cases hc : chk s.o s.xs w2.st = true
    · obtain ⟨_, hst⟩ := hJ w2 xw m2 hc
      unfold bnd at k3
      simp only [hc, if_true] at k3
      exact .inl ⟨hst, hN w2 us acc x2 p2 m2 hHD ru k3⟩
    · unfold bnd at k3
      simp only [hc, if_false] at k3
      exact k3.elim
theorem sl_comp2 {wi wi1 : TI} {s s1 : Sl → Mo Src} {g g1 : TG} {t t1 : Tg} {ws ws1 vs vs1 : List Nat} {tt tt1 : TT} {p p1 : Sl → Mo Bool} {te : TE} {m : Sl → Mo Da} (hs : SI K E wi s) (hg : SG K g t ws) (hw : ∀ i ∈ ws, i ∈ vs) (ht : ST K E' tt p)
    (hs1 : SI K E' wi1 s1) (hg1 : SG K g1 t1 ws1) (hw1 : ∀ i ∈ ws1, i ∈ vs1) (ht1 : ST K E' tt1 p1) (he : SE K E' te m) :
    SL K E (tLc2 wi g tt wi1 g1 tt1 te vs vs1) (lComp2 s t p s1 t1 p1 m vs vs1) := fun w ro σ Q en h => by
  refine hs w ro σ _ en (h.bind.mono (fun s w1 x1 p1' m1 k J hJ D hD => ?_) fun _ _ _ z => z)
  have hDp : D ∉ w1.pv := m1.freshP hD
  refine ⟨fun i mm H' => ∃ w2 us acc, w2.H = H' ∧ Ext w1 w2 ∧ w2.pv = D :: w1.pv ∧ Em K w2 ∧ w2.H D = some (.lst us) ∧ RepL K w2 us acc ∧ i ≤ s.xs.length ∧ mm = s.xs.length - i ∧ Run K w1 (compGo2 s.o s.xs t p s1 t1 p1 m vs1 (wipeS ro vs) (s.xs.drop i) acc w2.st) (OkL K Q) (XP K (E σ)),
    ⟨s.xs.length, w1.hid D [], [], [], rfl, Ext.hid m1 hD, rfl, m1.hid hD, upd_same, .nil, Nat.zero_le _, by omega, by rw [List.drop_zero]; exact k⟩, ?_⟩
  rintro i mm H2 ⟨w2, us, acc, rfl, x2, p2, m2, hHD, ru, hi, rfl, k2⟩
  by_cases hlt : i < s.xs.length
  · have hd : s.xs.drop i = s.xs[i] :: s.xs.drop (i + 1) := List.drop_eq_getElem_cons hlt
    rw [hd] at k2
    unfold compGo2 at k2
    split at k2
    · rename_i hc
      obtain ⟨hgo, hst⟩ := hJ w2 x2.w m2 hc
      obtain ⟨h1, h2⟩ := hgo i _ (List.getElem?_eq_getElem hlt)
      cases q : t s.xs[i] (wipeS ro vs) with
      | none => rw [q] at k2; exact k2.elim
      | some ro1 =>
        rw [q] at k2
        refine .inr ⟨h1, fun H' => ∃ w3 us acc, w3.H = H' ∧ Ext w1 w3 ∧ w3.pv = D :: w1.pv ∧ Em K w3 ∧ w3.H D = some (.lst us) ∧ RepL K w3 us acc ∧ Run K w1 (compGo2 s.o s.xs t p s1 t1 p1 m vs1 (wipeS ro vs) (s.xs.drop (i + 1)) acc w3.st) (OkL K Q) (XP K (E σ)),
          fun H' ⟨w3, us, acc, h1, h2, h3, h4, h5, h6, h7⟩ => ⟨s.xs.length - (i + 1), by omega, w3, us, acc, h1, h2, h3, h4, h5, h6, hlt, rfl, h7⟩, fun v H' hy => ?_⟩
        obtain ⟨w3, rfl, es, ep, x3, m3, rv⟩ := h2 v H' hy
        have en3 : En K w3 (wipeS ro vs) (wipe σ vs) := (en.mono (x1.trans (x2.trans x3)) m3).wipe vs
        obtain ⟨σ3, e3, so, kk⟩ := hg w3 v _ (wipeS ro vs) ro1 (wipe σ vs) en3 rv q
        refine kk _ ⟨wipe_eq (by rw [so.1, wipe_length]) fun j hj => ?_, ?_⟩
        · rw [so.2 j fun z => hj (hw j z), wipe_out hj]
        · rw [← es] at k2
          refine ht w3 ro1 σ3 _ e3 ((run_noX k2).mono (fun c w4 x4 p4 m4 k4 => ?_) fun _ _ _ z => z)
          have pD : D ∈ w2.pv := by rw [p2]; exact List.mem_cons_self
          cases c with
          | true =>
            rw [if_pos rfl] at k4 ⊢
            refine hs1 w4 ro1 σ3 _ (e3.mono x4 m4) ((run_noX k4).mono (fun S w5 x5 p5 m5 k5 J1 hJ1 => ?_) fun _ _ _ z => z)
            have x25 : Ext w2 w5 := x3.trans (x4.trans x5)
            obtain ⟨pD5, hD5⟩ := x25.pvk D pD
            refine comp_loop hg1 hw1 ht1 he hJ1 (e3.mono (x4.trans x5) m5) (x2.trans x25) hD hDp (by rw [p5, p4, ep, p2]) (hD5.trans hHD) (ru.mono m2 x25) k5 fun w6 us6 acc6 a1 a2 a3 a4 a5 a6 => ?_
            exact ⟨w6, us6, acc6, rfl, a1, a2, a3, a4, a5, a6⟩
          | false =>
            rw [if_neg Bool.false_ne_true] at k4 ⊢
            have x24 : Ext w2 w4 := x3.trans x4
            obtain ⟨pD4, hD4⟩ := x24.pvk D pD
            exact ⟨w4, us, acc, rfl, x2.trans x24, by rw [p4, ep, p2], m4, hD4.trans hHD, ru.mono m2 x24, k4⟩
    · exact k2.elim
  · have hE : i = s.xs.length := by omega
    subst hE
    rw [List.drop_length] at k2
    unfold compGo2 at k2
    split at k2
    · rename_i hc
      obtain ⟨_, hst⟩ := hJ w2 x2.w m2 hc
      refine .inl ⟨hst, ?_⟩
      have z := Run.at (w' := w2.del D w1.pv) k2 (x2.del p2 hD hDp) (m2.del p2 hHD hDp) rfl rfl D us del_same (ru.del p2 hHD)
      rw [show upd (w2.del D w1.pv).H D (.lst us) = w2.H from upd_del hHD] at z
      exact z
    · exact k2.elim
end
section
variable {X : Cx} {E : St → XK} {tg iter tg1 iter1 : Expr} {tt tt1 : TT} {te : TE} {ma : Sl → Mo Da} {mp mp1 : Sl → Mo Bool} {pos : Pos} {g g1 : TG} {t t1 : Tg} {ws ws1 : List Nat} {wi wi1 : TI} {ms ms1 : Sl → Mo Src}
theorem ql_comp2 {elt : Expr} {ifs ifs1 : List Expr} {scope : Scope} {own : List (Str × Nat)} {vs vs1 : List Nat} (hc : X.calm = true) (hN : X.N.Nodup) (hi : QI X E tg iter wi ms) (ok : BlkOk X.N X.env.scope scope own)
    (hg : ∀ (s : Shared) (H : Hp) (C : Addr) (cl : List (Str × Addr)) (fp : List Addr), QG (X.blk s H scope (PySem.compEnvC scope cl C X.env) fp) tg g t ws)
    (ht : ∀ (s : Shared) (H : Hp) (C : Addr) (cl : List (Str × Addr)) (fp : List Addr), QTs (X.blk s H scope (PySem.compEnvC scope cl C X.env) fp) (fun _ => E0) ifs tt mp)
    (hi1 : ∀ (s : Shared) (H : Hp) (C : Addr) (cl : List (Str × Addr)) (fp : List Addr), QI (X.blk s H scope (PySem.compEnvC scope cl C X.env) fp) (fun _ => E0) tg1 iter1 wi1 ms1)
    (hg1 : ∀ (s : Shared) (H : Hp) (C : Addr) (cl : List (Str × Addr)) (fp : List Addr), QG (X.blk s H scope (PySem.compEnvC scope cl C X.env) fp) tg1 g1 t1 ws1)
    (ht1 : ∀ (s : Shared) (H : Hp) (C : Addr) (cl : List (Str × Addr)) (fp : List Addr), QTs (X.blk s H scope (PySem.compEnvC scope cl C X.env) fp) (fun _ => E0) ifs1 tt1 mp1)
    (he : ∀ (s : Shared) (H : Hp) (C : Addr) (cl : List (Str × Addr)) (fp : List Addr), QE (X.blk s H scope (PySem.compEnvC scope cl C X.env) fp) (fun _ => E0) elt te ma)
    (hv : own.map (·.2) = vs := by rfl) (hv1 : ∀ i ∈ vs1, i ∈ vs := by decide) (hw : ∀ i ∈ ws, i ∈ vs := by decide) (hw1 : ∀ i ∈ ws1, i ∈ vs1 := by decide) (hs : ∀ x, foldedSetIterable iter X.env x = pure x := by intro _; rfl) (hs1 : ∀ env x, foldedSetIterable iter1 env x = pure x := by intro _ _; rfl) :
    QL X E (.ListComp elt [⟨tg, iter, ifs, 0⟩, ⟨tg1, iter1, ifs1, 0⟩] scope pos) (tLc2 wi g tt wi1 g1 tt1 te vs vs1) (lComp2 ms t mp ms1 t1 mp1 ma vs vs1) :=
  ⟨by subst hv; exact pe_lc2 hc hN hi.pi ok hv1 (fun s H C cl fp => (hg s H C cl fp).pg) (fun s H C cl fp => (ht s H C cl fp).pt) (fun s H C cl fp => (hi1 s H C cl fp).pi) (fun s H C cl fp => (hg1 s H C cl fp).pg) (fun s H C cl fp => (ht1 s H C cl fp).pt) (fun s H C cl fp => (he s H C cl fp).pe) hs hs1,
    sl_comp2 hi.si (hg X.s_0 (fun _ => none) 0 [] []).sg hw (ht X.s_0 (fun _ => none) 0 [] []).st (hi1 X.s_0 (fun _ => none) 0 [] []).si (hg1 X.s_0 (fun _ => none) 0 [] []).sg hw1 (ht1 X.s_0 (fun _ => none) 0 [] []).st (he X.s_0 (fun _ => none) 0 [] []).se⟩
end
/-! ### set of a list of ints, sorted -/
def emptySet (wd : World) : Obj := { cls := .type "set", dict := none, data := .set #[] 0 (.fresh 0 0 (!wd.params.followText "set-order")) }
section
variable {P : Program} {w : World} {A : Around} {Ex : Value → Shared → Prop} {s : Shared}
theorem set_of_list {l : Addr} {items : Array Value} (ns : List Int) {Q : Value → Shared → Prop} (hh : A.handled = none) (hl : s.heap.IsList l items) (hit : PyProof.Rows.IntsAre items.toList ns) (hb : ns.length + 1 < scanBound)
    (h : ∀ (h' : Heap) (tk c : Nat), SetR w h' s.heap.objs.size (fun j => decide (j ∈ ns)) c → c ≤ ns.length → (∀ b o, s.heap.get? b = some o → h'.get? b = some o) → Q (.ref s.heap.objs.size) { s with heap := h', toks := tk }) :
    wpAny (model P w) A (PySem.call (.type "set") [.ref l]) Q Ex s := by
  have hisz : items.size = ns.length := by
    rw [← Array.length_toList]
    exact PyProof.Rows.IntsAre.length hit
  have q0 := F.called_set
  obtain ⟨c, tl, hmro⟩ := q0.mro
  have hmade := q0.made
  have hsub := q0.sub
  refine wpAny_call (codeAny_of_tree (show wpAny _ _ (callAny (.type "set") _) _ _ _ from ?_))
  refine wpAny_pure ⟨Code.quiet_builtin _ (by decide +kernel), codeAny_builtin F.entry_type_call ?_⟩
  rw [Around.under_plain (weight_type_call_type "set" [.ref l] []) rfl]
  have h1 := q0.notType
  have h2 := q0.canCreate
  have hct := F.typeCall_set_1 (.ref l)
  repeat (any_goals (first | assumption | wp_step))
  refine codeAny_mono (code_set_led1 (.ref l) (E := Ex) (Q₁ := fun z s₁ => z = .ref s.heap.objs.size ∧ s₁ = { s with heap := s.heap.push (emptySet w) }) ⟨rfl, rfl⟩) fun r s₁ hr => ?_
  cases r with
  | error e => exact hr
  | ok fl =>
    cases fl with
    | ret z =>
      obtain ⟨rfl, rfl⟩ := hr
      have hS : (s.heap.push (emptySet w)).get? s.heap.objs.size = some (emptySet w) := Heap.get?_push_size _ rfl
      have hT : Shared.TypeIs { s with heap := s.heap.push (emptySet w) } (.ref s.heap.objs.size) "set" := ⟨_, hS, rfl⟩
      have hli := q0.init.lookup
      have hbi := q0.init.bind (.ref s.heap.objs.size)
      repeat (any_goals (first | assumption | wp_step))
      refine codeAny_mono (codeAny_call_builtin (R := wants (fun r s₂ => r = .none ∧ ∃ h' tk c, s₂ = { s with heap := h', toks := tk } ∧ SetR w h' s.heap.objs.size (fun j => decide (j ∈ ns)) c ∧ c ≤ ns.length ∧
          (∀ b o, s.heap.get? b = some o → h'.get? b = some o)) Ex) q0.init.plain F.entry_set_init (check_set_init_1 hT ?_)) fun r₂ s₂ hr₂ => ?_
      · obtain ⟨⟨ocls, odict, odata, oslots⟩, hol, hcl, nl, hdl⟩ := hl
        simp only at hcl hdl
        subst hcl hdl
        have hol' := Heap.get?_push_of_some (emptySet w) hol
        have hsls := F.sub_list_set
        have hslf := F.sub_list_frozenset
        have hne : (Value.type "list" == Value.type "dict") = false := by decide
        have hl1 : (s.heap.push (emptySet w)).IsList l items := ⟨_, hol', rfl, nl, rfl⟩
        have hlS : l < s.heap.objs.size := Heap.lt_size hol
        have hz1 : (s.heap.push (emptySet w)).objs.size = s.heap.objs.size + 1 := Heap.size_push ..
        unfold Builtin.«set.__init__» noKeywords Builtin.Frozenset.updateFrom
        generalize hPI : pyIter = PI
        wp_walk
        subst hPI
        refine wpAny_pyIter_list hl1 (wpAny_bind (wpAny_runValue ?_))
        have hh3 : A.in1.in1.in1.handled = none := by simp [hh]
        have hval : ∀ (i : Nat) (v : Value), items[i]? = some v → ∃ k t, ns[i]? = some k ∧ v = .int k t := fun i v hv => by
          have hi : i < ns.length := by rw [← hisz]; exact (Array.getElem?_eq_some_iff.mp hv).1
          obtain ⟨t, e⟩ := PyProof.Rows.IntsAre.int_at hit i v (by rw [Array.getElem?_toList]; exact hv)
          refine ⟨ns[i], t, List.getElem?_eq_getElem hi, ?_⟩
          rw [e, List.getD_eq_getElem?_getD, List.getElem?_eq_getElem hi] <;> rfl
        refine set_update_ints ((Walks.list hh3 _ l (by rw [hz1]; exact Nat.ne_of_lt (Nat.lt_succ_of_lt hlS)) items).toS) s.heap.objs.size (by rw [hz1]; intro z; rcases List.mem_cons.mp z with z | z; exact absurd z (Nat.ne_of_lt (Nat.lt_succ_self _)); exact absurd (List.mem_singleton.mp z) (Nat.ne_of_gt hlS)) ns hisz hb hval (items.size - 0) 0 _ (by omega) (Nat.zero_le _)
          ⟨⟨_, Heap.get?_push_size _ rfl, rfl, rfl⟩, (hl1.push _)⟩ ⟨0, Nat.le_refl 0, setR_new_at (Heap.get?_push_of_some _ hS)⟩ ?_
        intro s' c' hm hc' hS'
        obtain ⟨h', g2, d', tk', os'⟩ := s'
        have eg : g2 = s.gens := hm.gens
        have ed : d' = s.drawn := hm.drawn
        have eo : os' = s.os := hm.os
        subst eg ed eo
        refine wpAny_pure (show wpAny _ _ (PySem.ret Value.none) _ _ _ from ?_)
        rw [hisz] at hc'
        refine wpAny_pure ⟨rfl, h', tk', c', rfl, hS', hc', fun b o e => ?_⟩
        have hb0 : b < s.heap.objs.size := Heap.lt_size e
        exact hm.heap b o (by rw [hz1]; intro z; rcases List.mem_cons.mp z with z | z; exact absurd z (Nat.ne_of_lt hb0); exact absurd (List.mem_singleton.mp z) (Nat.ne_of_lt (Nat.lt_succ_of_lt hb0))) (Heap.get?_push_of_some _ (Heap.get?_push_of_some _ e))
      · cases r₂ with
        | error e => exact hr₂
        | ok fl₂ =>
          cases fl₂ with
          | ret r =>
            obtain ⟨rfl, h', tk, c', rfl, hS', hc', hk'⟩ := hr₂
            repeat (any_goals (first | assumption | wp_step))
            exact h _ _ _ hS' hc' hk'
          | _ => exact hr₂.elim
    | _ => exact hr.elim
end
/-! sorted(set(xs)) -/
def insS (k : Int) : List Int → List Int
  | [] => [k]
  | x :: r => if k < x then k :: x :: r else if k = x then x :: r else x :: insS k r
def srtS : List Int → List Int
  | [] => []
  | k :: r => insS k (srtS r)
theorem insS_mem {k j : Int} : ∀ {l : List Int}, j ∈ insS k l ↔ j = k ∨ j ∈ l
  | [] => by simp [insS]
  | x :: r => by
    unfold insS
    split
    · simp
    · split
      · rename_i e; subst e; simp
      · simp only [List.mem_cons, insS_mem (l := r)]
        constructor
        · rintro (h | h | h)
          · exact .inr (.inl h)
          · exact .inl h
          · exact .inr (.inr h)
        · rintro (h | h | h)
          · exact .inr (.inl h)
          · exact .inl h
          · exact .inr (.inr h)
theorem insS_up {k : Int} : ∀ {l : List Int}, l.Pairwise (· < ·) → (insS k l).Pairwise (· < ·)
  | [], _ => by simp [insS]
  | x :: r, h => by
    unfold insS
    have h1 := List.pairwise_cons.mp h
    split
    · rename_i hk
      refine List.pairwise_cons.mpr ⟨fun y hy => ?_, h⟩
      rcases List.mem_cons.mp hy with rfl | hy
      · exact hk
      · have := h1.1 y hy; omega
    · split
      · exact h
      · refine List.pairwise_cons.mpr ⟨fun y hy => ?_, insS_up h1.2⟩
        rcases insS_mem.mp hy with rfl | hy
        · omega
        · exact h1.1 y hy
theorem srtS_mem {j : Int} : ∀ {l : List Int}, j ∈ srtS l ↔ j ∈ l
  | [] => by simp [srtS]
  | x :: r => by simp [srtS, insS_mem, srtS_mem (l := r)]
theorem srtS_up : ∀ l : List Int, (srtS l).Pairwise (· < ·)
  | [] => by simp [srtS]
  | x :: r => insS_up (srtS_up r)
theorem up_same : ∀ {a b : List Int}, a.Pairwise (· < ·) → b.Pairwise (· < ·) → (∀ k, k ∈ a ↔ k ∈ b) → a = b
  | [], [], _, _, _ => rfl
  | [], y :: b, _, _, h => absurd ((h y).mpr (List.mem_cons_self ..)) (by simp)
  | x :: a, [], _, _, h => absurd ((h x).mp (List.mem_cons_self ..)) (by simp)
  | x :: a, y :: b, ha, hb, h => by
    have a1 := List.pairwise_cons.mp ha
    have b1 := List.pairwise_cons.mp hb
    have e : x = y := by
      rcases List.mem_cons.mp ((h x).mp (List.mem_cons_self ..)) with e | e
      · exact e
      · rcases List.mem_cons.mp ((h y).mpr (List.mem_cons_self ..)) with e2 | e2
        · exact e2.symm
        · have q1 := b1.1 x e
          have q2 := a1.1 y e2
          omega
    subst e
    rw [up_same a1.2 b1.2 fun k => ?_]
    constructor
    · intro hk
      rcases List.mem_cons.mp ((h k).mp (List.mem_cons_of_mem _ hk)) with e | e
      · subst e; exact absurd (a1.1 _ hk) (by omega)
      · exact e
    · intro hk
      rcases List.mem_cons.mp ((h k).mpr (List.mem_cons_of_mem _ hk)) with e | e
      · subst e; exact absurd (b1.1 _ hk) (by omega)
      · exact e
theorem nd_len : ∀ {a b : List Int}, a.Nodup → (∀ k ∈ a, k ∈ b) → a.length ≤ b.length
  | [], _, _, _ => by simp
  | x :: a, b, h, hs => by
    have h1 := List.nodup_cons.mp h
    have hx := hs x (List.mem_cons_self ..)
    have := nd_len (b := b.erase x) h1.2 fun k hk => (List.mem_erase_of_ne (fun (z : k = x) => h1.1 (z ▸ hk))).mpr (hs k (List.mem_cons_of_mem _ hk))
    rw [List.length_erase_of_mem hx] at this
    have : 0 < b.length := List.length_pos_of_mem hx
    simp
    omega
theorem srtS_nd (l : List Int) : (srtS l).Nodup := (srtS_up l).imp fun h => by omega
theorem srtS_len {a b : List Int} (h : ∀ k ∈ a, k ∈ b) : (srtS a).length ≤ b.length := nd_len (srtS_nd a) fun k hk => h k (srtS_mem.mp hk)
def sortSetD (d : Da) : Mo (List Da) := fun st => match lsOf st d with
  | some xs => (match intsOf xs with
    | some ns => if ns.length < 4000 ∧ (srtS ns).length < 64 then .ok ((srtS ns).map Da.int) st else .bad
    | none => .bad)
  | none => .bad
def rSetOf (K : PySem.W.Frag) (wd : World) : List V → Hp → VK → Prop := fun vs H Q => ∃ (a : Addr) (ns : List Int), vs = [V.ref a] ∧ SqL K H a (ns.map V.int) ∧ ns.length < 4000 ∧ ∀ (p : Addr) (c : Nat), H p = none → c = (srtS ns).length → Q (.ref p) (upd H p (SetO wd p (fun j => decide (j ∈ ns)) c))
theorem repL_intsOf {K : PySem.W.Frag} {w : Wd} : ∀ ns : List Int, RepL K w (ns.map V.int) (ns.map Da.int)
  | [] => .nil
  | n :: r => .cons (.int n) (repL_intsOf r)
section
variable {X : Cx} {E : St → XK} {e : Expr} {tA : TA} {al : Sl → Mo (List Da)} {pos pos2 : Pos}
theorem setR_card {w : World} {h : Heap} {a : Addr} {ns : List Int} {c : Nat} (R : SetR w h a (fun j => decide (j ∈ ns)) c) : c = (srtS ns).length := by
  obtain ⟨o, es, ep, t, _, _, _, _, nd, hm, _, _, hn, _⟩ := R
  have e1 : (es.toList.map keyOf).length = c := by rw [List.length_map, Array.length_toList]; exact hn
  have l1 := nd_len nd (b := srtS ns) fun k hk => srtS_mem.mpr (by simpa using (hm k).mpr hk)
  have l2 := nd_len (srtS_nd ns) (b := es.toList.map keyOf) fun k hk => (hm k).mp (by simpa using srtS_mem.mp hk)
  omega
theorem cr_setOf (hc : X.calm = true) : CallR X (.type "set") (rSetOf X.K X.w) := by
  intro pins s σ H vs us Q I r h
  obtain ⟨a, ns, rfl, hs, h64, q⟩ := h
  obtain ⟨its, rv, hl, _⟩ := I.list hs
  rw [Vals.ref1 r]
  refine set_of_list ns (I.ok.hd hc) hl.isList (by simpa using rv.ints) (by unfold scanBound; omega) fun h' tk c R hc2 hk => ?_
  exact ⟨.ref _, upd H s.heap.objs.size (SetO X.w s.heap.objs.size (fun j => decide (j ∈ ns)) c), I.laid (t' := tk) hk (Nat.le_refl _) (setO_new R), rfl, q _ c (I.hok.fresh (Nat.le_refl _)) (setR_card R)⟩
theorem ql_sortSet {K : PySem.W.Frag} {wd : World} {p p2 : Pos} (hc : X.calm = true) (hm : X.mg "sorted" = none) (hm2 : X.mg "set" = none) (ha : QA X E [e] tA al) (hg : Gl X "sorted" := by rfl) (hg2 : Gl X "set" := by rfl)
    (he : starEach (e :: []) X.env = (false, eval e X.env) :: starEach [] X.env := by rfl) (hpl : (backTo pos2 (starEach [] X.env)).any (·.1) = false := by rfl) (hK : X.K = K := by rfl) (hw : X.w = wd := by rfl)
    (he2 : starEach (.Call (.Name "set" p2) [e] [] pos2 :: []) X.env = (false, eval (.Call (.Name "set" p2) [e] [] pos2) X.env) :: starEach [] X.env := by rfl) (hpl2 : (backTo pos (starEach [] X.env)).any (·.1) = false := by rfl) :
    QL X E (.Call (.Name "sorted" p) [.Call (.Name "set" p2) [e] [] pos2] [] pos) (tCB (rSortedSet wd) (tCons (tCB (rSetOf K wd) tA) tNil)) (lCall (one sortSetD) al) := by
  subst hK hw
  refine ⟨pe_callB (cr_sortedSet hc) hg hm (by decide +kernel) (pa_cons (pe_callTy (cr_setOf hc) hg2 hm2 (by decide +kernel) ha.pa (by decide) (by decide) he hpl) pa_nil he2) (by decide) (by decide) he2 hpl2, fun w ro σ Q en h => ?_⟩
  refine ha.sa w ro σ _ en (h.bind.mono (fun ds w1 x1 p1 m1 k vs rvs => ?_) fun _ _ _ z => z)
  obtain ⟨v, d, rfl, rfl, rv, k⟩ := one_rep rvs k
  unfold sortSetD at k
  split at k
  · rename_i xs hx
    split at k
    · rename_i ns hn
      split at k
      · rename_i h63
        obtain ⟨a, us, rfl, hH, rl⟩ := ls_rep m1 rv hx
        have eu := ints_rep rl hn
        subst eu
        refine ⟨a, ns, rfl, SqL.of hH, h63.1, fun p c hp hcn => ?_⟩
        refine ⟨p, _, c, rfl, upd_same, by rw [hcn]; exact h63.2, fun ns2 p3 h1 h2 h3 hp3 => ?_⟩
        have e2 : ns2 = srtS ns := up_same h1 (srtS_up ns) fun k => by rw [h2 k, srtS_mem]; simp
        subst e2
        have x2 := Ext.new m1 (o := SetO X.w p (fun j => decide (j ∈ ns)) c) hp
        exact Run.at (w' := w1.new p (SetO X.w p (fun j => decide (j ∈ ns)) c)) k x2 (m1.new hp) rfl rfl p3 _ hp3 (repL_intsOf _)
      · exact k.elim
    · exact k.elim
  · exact k.elim
end
/-! ### xs.pop(k), xs[a:b] = ys -/
def popAtD (d k : Da) : Mo Da := fun st => match d, k with
  | .han n, .int i => (match st[n]? with
    | some (.lst xs) => (match ixN xs.length i with
      | some j => (match xs[j]? with
        | some x => if big i then .ok x (st.set n (.lst (xs.eraseIdx j))) else .bad
        | none => .bad)
      | none => .bad)
    | _ => .bad)
  | _, _ => .bad
def ePopAt (a b : Sl → Mo Da) : Sl → Mo Da := fun ro => bnd (a ro) fun d => bnd (isLs d) fun _ => bnd (b ro) fun x => popAtD d x
def setSlD (d : Da) (l h : Option Int) (x : Da) : Mo Unit := fun st => match d, l, h, x with
  | .han n, some a, some c, .lst ys => (match st[n]? with
    | some (.lst xs) => if 0 ≤ a ∧ a ≤ c ∧ c ≤ xs.length ∧ xs.length + ys.length ≤ szD then .ok () (st.set n (.lst (xs.take a.toNat ++ ys ++ xs.drop c.toNat))) else .bad
    | _ => .bad)
  | _, _, _, _ => .bad
def mSetSl (v o : Sl → Mo Da) (lo hi : Sl → Mo (Option Int)) : Sl → Mo Fl := fun ro => bnd (v ro) fun x => bnd (o ro) fun d => bnd (lo ro) fun l => bnd (hi ro) fun h => bnd (setSlD d l h x) fun _ => ret (.nx ro)
section
variable {K : PySem.W.Frag} {w : Wd}
theorem RepL.erase : ∀ {vs : List V} {ds : List Da}, RepL K w vs ds → ∀ j : Nat, RepL K w (vs.eraseIdx j) (ds.eraseIdx j)
  | _, _, .nil, j => by simp; exact .nil
  | _, _, .cons r t, 0 => t
  | _, _, .cons r t, j + 1 => .cons r (t.erase j)
theorem RepL.takeN : ∀ {vs : List V} {ds : List Da}, RepL K w vs ds → ∀ j : Nat, RepL K w (vs.take j) (ds.take j)
  | _, _, .nil, j => by simp; exact .nil
  | _, _, .cons r t, 0 => .nil
  | _, _, .cons r t, j + 1 => .cons r (t.takeN j)
theorem RepL.dropN : ∀ {vs : List V} {ds : List Da}, RepL K w vs ds → ∀ j : Nat, RepL K w (vs.drop j) (ds.drop j)
  | _, _, .nil, j => by simp; exact .nil
  | _, _, .cons r t, 0 => .cons r t
  | _, _, .cons r t, j + 1 => t.dropN j
variable {E : St → XK} {ta tb : TE} {a b : Sl → Mo Da}
theorem s_popAt (ha : SE K E ta a) (hb : SE K E tb b) : SE K E (tBM K "list" rPopAt ta (tCons tb tNil)) (ePopAt a b) := fun w ro σ Q e h =>
  ha w ro σ _ e (h.bind.mono (fun d w1 x1 p1 m1 k v rv => by
    obtain ⟨ty, k2⟩ := isLs_run m1 rv k.bind
    refine ⟨ty, hb w1 ro σ _ (e.mono x1 m1) (k2.bind.mono (fun x w2 x2 p2 m2 k3 u ru => ?_) fun _ _ _ z => z)⟩
    have rv2 := rv.mono m1 x2
    unfold popAtD at k3
    split at k3
    · rename_i n i
      split at k3
      · rename_i xs hx
        split at k3
        · rename_i j hj
          split at k3
          · rename_i y hy
            split at k3
            · rename_i hb
              cases ru
              cases rv2 with
              | @han q _ hq =>
                obtain ⟨vs, hH, rl⟩ := m2.cell n q _ hq hx
                obtain ⟨z, hz, rz⟩ := rl.get hy
                have x3 : Ext w2 (w2.put n q (.lst (vs.eraseIdx j)) (.lst (xs.eraseIdx j))) := Ext.put m2 hq hx (by intro z; cases z)
                refine ⟨q, vs, i, j, z, rfl, rfl, hH, by have := hb.1; omega, by have := hb.2; omega, by rw [rl.length]; exact (ixN_seq hj).1, hz, ?_⟩
                exact Run.at (w' := w2.put n q (.lst (vs.eraseIdx j)) (.lst (xs.eraseIdx j))) k3 x3 (m2.put hq hx (by intro z; cases z) ⟨_, upd_same, (rl.erase j).mono m2 x3⟩) rfl rfl _ (rz.mono m2 x3)
            · exact k3.elim
          · exact k3.elim
        · exact k3.elim
      · exact k3.elim
    · exact k3.elim) fun _ _ _ z => z)
end
def gSubSl (to : TE) (tl th : TO) : TG := fun v σ H Q => to σ H fun o H1 => tl σ H1 fun l H2 => th σ H2 fun u H3 => ∃ (p b : Addr) (xs ys : List V) (a c : Int), o = .ref p ∧ v = .ref b ∧ l = some a ∧ u = some c ∧ H3 p = some (.lst xs) ∧ H3 b = some (.lst ys) ∧ p ≠ b ∧ 0 ≤ a ∧ a ≤ c ∧ c ≤ xs.length ∧ xs.length + ys.length ≤ sizeLine ∧
  Q σ (upd H3 p (.lst (xs.take a.toNat ++ ys ++ xs.drop c.toNat)))
section
variable {X : Cx} {E : St → XK} {o v : Expr} {lo hi : Option Expr} {to tv : TE} {tl th : TO} {mo mv : Sl → Mo Da} {ml mh : Sl → Mo (Option Int)} {pos pos' p2 : Pos}
theorem pg_subSl (ho : PE X o to) (hl : PO X lo tl) (hu : PO X hi th) (ha : ∀ v, assign (.Subscript o (.Slice lo hi none p2) pos') X.env v = (do
      let ov ← holding [v] (eval o X.env)
      let iv ← holding [v, ov] (eval (.Slice lo hi none p2) X.env)
      standAt pos'
      holding [v, ov, iv] (setItem ov iv v)
      release [iv, v, ov] []) := by intro _; rfl) : PG X (.Subscript o (.Slice lo hi none p2) pos') (gSubSl to tl th) := by
  refine ⟨fun pins s σ H v u Q I r h => ?_⟩
  rw [ha]
  refine wpAny_bind (wpAny_holding (thn (ho.run pins s σ H _ I h) fun ov s1 ⟨x, H1, I1, r1, q1⟩ => wpAny_bind (wpAny_holding ?_)))
  refine wpAny_Slice (thn (hl.run pins s1 σ H1 _ I1 q1) fun vl s2 ⟨l, H2, I2, pl, q2⟩ => thn (hu.run pins s2 σ H2 _ I2 q2) fun vu s3 ⟨uu, H3, I3, pu, q3⟩ => ?_)
  rw [evalPart_none]
  refine wpAny_pure (wpAny_bind (wpAny_standAt (wpAny_bind (wpAny_holding ?_))))
  obtain ⟨p, b, xs, ys, a, c, rfl, rfl, rfl, rfl, h1, h2, hne, h3, h4, h5, h6, q⟩ := q3
  cases r1
  cases r
  have I4 : Inv X pins σ H3 { s3 with heap := s3.heap.push { cls := .type "slice", data := .fields #[vl, vu, .none] } } := I3.kept (t' := s3.toks) fun b ob q => Heap.get?_push_of_some _ q
  cases pl with
  | int a ta =>
    cases pu with
    | int c tc =>
      exact set_slice I4 h1 h2 hne (Heap.IsSliceOf.new ..) ⟨_, rfl⟩ ⟨_, rfl⟩ h3 h4 h5 h6 fun s5 I5 => wpAny_release ⟨σ, _, I5, q⟩
theorem qs_setSl (hv : QE X E v tv mv) (ho : QE X E o to mo) (hl : QP X E lo tl ml) (hh : QP X E hi th mh) (ha : ∀ v, assign (.Subscript o (.Slice lo hi none p2) pos') X.env v = (do
      let ov ← holding [v] (eval o X.env)
      let iv ← holding [v, ov] (eval (.Slice lo hi none p2) X.env)
      standAt pos'
      holding [v, ov, iv] (setItem ov iv v)
      release [iv, v, ov] []) := by intro _; rfl) (hs : swapsWithSole [.Subscript o (.Slice lo hi none p2) pos'] v pos.line X.env = pure false := by rfl) (hw : swappedStores [.Subscript o (.Slice lo hi none p2) pos'] v X.env = pure none := by rfl)
    (h1 : (assignEach [.Subscript o (.Slice lo hi none p2) pos'] X.env).map (·.2) = [assign (.Subscript o (.Slice lo hi none p2) pos') X.env] := by rfl) : QS X E (.Assign [.Subscript o (.Slice lo hi none p2) pos'] v pos) (tAsg tv (gSubSl to tl th)) (mSetSl mv mo ml mh) :=
  ⟨ps_asg hv.pe (pg_subSl ho.pe hl.po hh.po ha) hs hw h1, fun w ro σ D e h =>
    hv.se w ro σ _ e (h.bind.mono (fun x w1 x1 p1 m1 k u ru => ho.se w1 ro σ _ (e.mono x1 m1) (k.bind.mono (fun d w2 x2 p2 m2 k2 u2 ru2 =>
      hl.so w2 ro σ _ (e.mono (x1.trans x2) m2) (k2.bind.mono (fun l w3 x3 p3 m3 k3 => hh.so w3 ro σ _ (e.mono (x1.trans (x2.trans x3)) m3) (k3.bind.mono (fun uu w4 x4 p4 m4 k4 => by
        have rx := ru.mono m1 (x2.trans (x3.trans x4))
        have rd := ru2.mono m2 (x3.trans x4)
        have e4 := e.mono (x1.trans (x2.trans (x3.trans x4))) m4
        have k5 := k4.bind
        unfold setSlD at k5
        split at k5
        · rename_i n a c ys
          split at k5
          · rename_i xs hx
            split at k5
            · rename_i hc
              obtain ⟨c1, c2, c3, c4⟩ := hc
              cases rd with
              | @han q _ hq =>
                cases rx with
                | @lst b us _ hb nb rb =>
                  obtain ⟨vs, hH, rl⟩ := m4.cell n q _ hq hx
                  have hlv : Live w4 q := .inr ⟨n, _, hq, hx, by intro z; cases z⟩
                  have hne : q ≠ b := fun z => nb (z ▸ hlv)
                  have x5 : Ext w4 (w4.put n q (.lst (vs.take a.toNat ++ us ++ vs.drop c.toNat)) (.lst (xs.take a.toNat ++ ys ++ xs.drop c.toNat))) := Ext.put m4 hq hx (by intro z; cases z)
                  have rn : RepL X.K w4 (vs.take a.toNat ++ us ++ vs.drop c.toNat) (xs.take a.toNat ++ ys ++ xs.drop c.toNat) := ((rl.takeN _).append rb).append (rl.dropN _)
                  have m5 : Em X.K (w4.put n q (.lst (vs.take a.toNat ++ us ++ vs.drop c.toNat)) (.lst (xs.take a.toNat ++ ys ++ xs.drop c.toNat))) := m4.put hq hx (by intro z; cases z) ⟨_, upd_same, rn.mono m4 x5⟩
                  have k6 := Run.at (w' := w4.put n q (.lst (vs.take a.toNat ++ us ++ vs.drop c.toNat)) (.lst (xs.take a.toNat ++ ys ++ xs.drop c.toNat))) k5 x5 m5 rfl rfl
                  exact ⟨q, b, vs, us, a, c, rfl, rfl, rfl, rfl, hH, hb, hne, c1, c2, by rw [rl.length]; exact c3, by rw [rl.length, rb.length]; exact szD_le c4, Run.here m5 k6 σ (e4.mono x5 m5)⟩
            · exact k5.elim
          · exact k5.elim
        · exact k5.elim) fun _ _ _ z => z σ)) fun _ _ _ z => z σ)) fun _ _ _ z => z σ)) fun _ _ _ z => z σ)⟩
theorem q_popAt {a b : Expr} {ta tb : TE} {ma mb : Sl → Mo Da} {K : PySem.W.Frag} {apos : Pos} (ha : QE X E a ta ma) (hb : QE X E b tb mb) (hbase : attributeBase a "pop" X.env (eval a X.env) = eval a X.env := by rfl)
    (hfew : ((backTo pos (starEach (b :: []) X.env)).all (fun x => !x.1) && (backToKw pos (keywordEach [] X.env)).all (fun x => x.1.isSome) && decide ((b :: []).length + ([] : List Keyword).length + (if ([] : List Keyword).isEmpty then 0 else 1) < 30)) = true := by rfl) (hline : (apos.endLine == pos.line) = true := by rfl) (hs : starEach (b :: []) X.env = (false, eval b X.env) :: starEach [] X.env := by rfl) (hpl : (backTo pos (starEach [] X.env)).any (·.1) = false := by rfl) (hK : X.K = K := by rfl) :
    QE X E (.Call (.Attribute a "pop" apos) [b] [] pos) (tBM K "list" rPopAt ta (tCons tb tNil)) (ePopAt ma mb) := by
  subst hK
  exact ⟨pe_bm PySem.F.plainAttrs_list PySem.F.slot_list_pop PySem.F.type_list_pop mt_popAt ha.pe (pa_cons hb.pe pa_nil hs) hbase hfew hline hs hpl, s_popAt ha.se hb.se⟩
end
/-! ### xs.index(x), deep -/
theorem room1 {k : Nat} {A : Around} (r : Room k A) : A.units + 65 < cLine := by have := r.un; omega
def indexD (d x : Da) : Mo Da := fun st => match pyD st d, pyD st x with
  | some (.list qs), some p => if (SeqAt.shaped (.list qs) && SeqAt.shaped p) = true then (match qs.findIdx? (fun z => PyData.eqv z p) with
    | some j => .ok (.int (j : Nat)) st
    | none => .bad) else .bad
  | _, _ => .bad
def eIndex (a b : Sl → Mo Da) : Sl → Mo Da := fun ro => bnd (a ro) fun d => bnd (isLs d) fun _ => bnd (b ro) fun x => indexD d x
section
variable {K : PySem.W.Frag} {E : St → XK} {ta tb : TE} {a b : Sl → Mo Da}
theorem s_index (ha : SE K E ta a) (hb : SE K E tb b) : SE K E (tBM K "list" (rIndexD K) ta (tCons tb tNil)) (eIndex a b) := fun w ro σ Q e h =>
  ha w ro σ _ e (h.bind.mono (fun d w1 x1 p1 m1 k v rv => by
    obtain ⟨ty, k2⟩ := isLs_run m1 rv k.bind
    refine ⟨ty, hb w1 ro σ _ (e.mono x1 m1) (k2.bind.mono (fun x w2 x2 p2 m2 k3 u ru => ?_) fun _ _ _ z => z)⟩
    have rv2 := rv.mono m1 x2
    unfold indexD at k3
    split at k3
    · rename_i qs p hq hp
      split at k3
      · rename_i hs
        obtain ⟨s1, s2⟩ := Bool.and_eq_true_iff.mp hs
        split at k3
        · rename_i j hj
          have d1 := dp_py m2 rv2 hq
          have d2 := dp_py m2 ru hp
          have hv : ∃ q, v = .ref q := by
            cases d1
            exact ⟨_, rfl⟩
          obtain ⟨q, rfl⟩ := hv
          obtain ⟨hjl, hj1, hj2⟩ := List.findIdx?_eq_some_iff_getElem.mp hj
          refine ⟨q, u, p, qs, j, qs[j], rfl, rfl, d1, d2, s1, s2, List.getElem?_eq_getElem hjl, hj1, fun m z' hm hz => ?_, k3.here m2 _ (.int _)⟩
          obtain ⟨hml, rfl⟩ := List.getElem?_eq_some_iff.mp hz
          have := hj2 m hm
          simpa using this
        · exact k3.elim
      · exact k3.elim
    · exact k3.elim) fun _ _ _ z => z)
end
section
variable {X : Cx} {E : St → XK} {pos : Pos}
theorem q_index {a b : Expr} {ta tb : TE} {ma mb : Sl → Mo Da} {K : PySem.W.Frag} {apos : Pos} (hu : X.A.units + 65 < cLine) (ha : QE X E a ta ma) (hb : QE X E b tb mb) (hbase : attributeBase a "index" X.env (eval a X.env) = eval a X.env := by rfl)
    (hfew : ((backTo pos (starEach (b :: []) X.env)).all (fun x => !x.1) && (backToKw pos (keywordEach [] X.env)).all (fun x => x.1.isSome) && decide ((b :: []).length + ([] : List Keyword).length + (if ([] : List Keyword).isEmpty then 0 else 1) < 30)) = true := by rfl) (hline : (apos.endLine == pos.line) = true := by rfl) (hs : starEach (b :: []) X.env = (false, eval b X.env) :: starEach [] X.env := by rfl) (hpl : (backTo pos (starEach [] X.env)).any (·.1) = false := by rfl) (hK : X.K = K := by rfl) :
    QE X E (.Call (.Attribute a "index" apos) [b] [] pos) (tBM K "list" (rIndexD K) ta (tCons tb tNil)) (eIndex ma mb) := by
  subst hK
  exact ⟨pe_bm PySem.F.plainAttrs_list PySem.F.slot_list_index PySem.F.type_list_index (mt_indexD hu) ha.pe (pa_cons hb.pe pa_nil hs) hbase hfew hline hs hpl, s_index ha.se hb.se⟩
end
end CL
namespace CL
open PySem PySem.Spec L2
/-! ### objects: fields -/
def fldD (cs : List Str) (f : Str) (d : Da) : Mo Da := fun st => match d with
  | .han n => (match st[n]? with
    | some (.ins c fs) => if c ∈ cs then (match fs.lookup f with
      | some x => .ok x st
      | none => .bad) else .bad
    | _ => .bad)
  | _ => .bad
def eFld (cs : List Str) (f : Str) (a : Sl → Mo Da) : Sl → Mo Da := fun ro => bnd (a ro) (fldD cs f)
def setFD (cs : List Str) (f : Str) (d x : Da) : Mo Unit := fun st => match d with
  | .han n => (match st[n]? with
    | some (.ins c fs) => if c ∈ cs ∧ fs.length < 1000 then .ok () (st.set n (.ins c (putD f x fs))) else .bad
    | _ => .bad)
  | _ => .bad
def mFld (cs : List Str) (f : Str) (v o : Sl → Mo Da) : Sl → Mo Fl := fun ro => bnd (v ro) fun x => bnd (o ro) fun d => bnd (setFD cs f d x) fun _ => ret (.nx ro)
def mFldAug (c : Str) (f : Str) (g : Int → Int → Int) (o v : Sl → Mo Da) : Sl → Mo Fl := fun ro => bnd (o ro) fun d => bnd (fldD [c] f d) fun x => bnd (v ro) fun y => match x, y with
  | .int p, .int q => bnd (setFD [c] f d (.int (g p q))) fun _ => ret (.nx ro)
  | _, _ => nop
/-- what is known of classes -/
def ClsF (K : PySem.W.Frag) (cs : List Str) (f : Str) : Prop := ∀ c ∈ cs, Cls K (He.ga K c) ∧ NoAttr K (He.ga K c) f
theorem clsF_nil {K : PySem.W.Frag} {f : Str} : ClsF K [] f := fun c h => absurd h (by simp)
theorem clsF_cons {K : PySem.W.Frag} {f c : Str} {cs : List Str} (h1 : Cls K (He.ga K c)) (h2 : NoAttr K (He.ga K c) f) (h : ClsF K cs f) : ClsF K (c :: cs) f := fun d hd => by
  rcases List.mem_cons.mp hd with rfl | hd
  · exact ⟨h1, h2⟩
  · exact h d hd
def inCls (s : Stmt) (j : Nat) : Stmt := match s with
  | .ClassDef _ _ _ body _ _ _ _ _ _ _ => body.getD j (.Pass ⟨0, 0, 0, 0⟩)
  | _ => .Pass ⟨0, 0, 0, 0⟩
section
variable {K : PySem.W.Frag} {E : St → XK} {ta tv : TE} {a v : Sl → Mo Da} {cs : List Str} {f : Str}
theorem fld_run {w : Wd} {d : Da} {x : V} {ok : Da → Wd → Prop} {ex : Str → List Da → Wd → Prop} (hC : ClsF K cs f) (m : Em K w) (r : Rep K w x d) (h : Run K w (fldD cs f d w.st) ok ex) :
    ∃ (p C dx : Addr) (fs : List (Str × V)) (u : V) (y : Da), x = .ref p ∧ w.H p = some (.ins C dx fs) ∧ (∃ c ∈ cs, C = He.ga K c) ∧ Cls K C ∧ NoAttr K C f ∧ fs.lookup f = some u ∧ Rep K w u y ∧ ok y w := by
  unfold fldD at h
  split at h
  · rename_i n
    split at h
    · rename_i c fs hx
      split at h
      · rename_i hc
        split at h
        · rename_i y hy
          cases r with
          | @han p _ hp =>
            obtain ⟨dx, vfs, hH, rf⟩ := m.cell n p _ hp hx
            obtain ⟨u, hu, ru⟩ := rf.lookup hy
            exact ⟨p, _, dx, vfs, u, y, rfl, hH, ⟨c, hc, rfl⟩, (hC c hc).1, (hC c hc).2, hu, ru, h.here m⟩
        · exact h.elim
      · exact h.elim
    · exact h.elim
  · exact h.elim
theorem s_fld (hC : ClsF K cs f) (ha : SE K E ta a) : SE K E (tFld K ta f) (eFld cs f a) := fun w ro σ Q e h =>
  ha w ro σ _ e (h.bind.mono (fun d w1 x1 p1 m1 k v rv => by
    obtain ⟨p, C, dx, fs, u, y, rfl, hH, _, c, n, l, ru, q⟩ := fld_run hC m1 rv k
    exact ⟨p, C, dx, fs, u, rfl, hH, c, n, l, q u ru⟩) fun _ _ _ z => z)
theorem setF_run {w : Wd} {d y : Da} {x u : V} {ok : Unit → Wd → Prop} {ex : Str → List Da → Wd → Prop} (hC : ClsF K cs f) (m : Em K w) (r : Rep K w x d) (ru : Rep K w u y) (h : Run K w (setFD cs f d y w.st) ok ex) :
    ∃ (p C dx : Addr) (fs : List (Str × V)) (w' : Wd), x = .ref p ∧ w.H p = some (.ins C dx fs) ∧ (∃ c ∈ cs, C = He.ga K c) ∧ Cls K C ∧ NoAttr K C f ∧ fs.length < 1000 ∧ w'.H = upd w.H p (.ins C dx (putF f u fs)) ∧ Ext w w' ∧ w'.pv = w.pv ∧ Em K w' ∧ ok () w' := by
  unfold setFD at h
  split at h
  · rename_i n
    split at h
    · rename_i c fs hx
      split at h
      · rename_i hc
        cases r with
        | @han p _ hp =>
          obtain ⟨dx, vfs, hH, rf⟩ := m.cell n p _ hp hx
          have x2 : Ext w (w.put n p (.ins (He.ga K c) dx (putF f u vfs)) (.ins c (putD f y fs))) := Ext.put m hp hx (by intro z; cases z)
          have m2 : Em K (w.put n p (.ins (He.ga K c) dx (putF f u vfs)) (.ins c (putD f y fs))) := m.put hp hx (by intro z; cases z) ⟨dx, _, upd_same, (rf.put ru).mono m x2⟩
          exact ⟨p, _, dx, vfs, _, rfl, hH, ⟨c, hc.1, rfl⟩, (hC c hc.1).1, (hC c hc.1).2, by rw [rf.length]; exact hc.2, rfl, x2, rfl, m2, Run.at h x2 m2 rfl rfl⟩
      · exact h.elim
    · exact h.elim
  · exact h.elim
theorem ss_fld (hC : ClsF K cs f) (hv : SE K E tv v) (ha : SE K E ta a) : SS K E (sFld K ta tv f) (mFld cs f v a) := fun w ro σ D e h =>
  hv w ro σ _ e (h.bind.mono (fun y w1 x1 p1 m1 k u ru => ha w1 ro σ _ (e.mono x1 m1) (k.bind.mono (fun d w2 x2 p2 m2 k2 x rx => by
    obtain ⟨p, C, dx, fs, w3, rfl, hH, _, c, n, l, hH3, x3, p3, m3, k3⟩ := setF_run hC m2 rx (ru.mono m1 x2) k2.bind
    refine ⟨p, C, dx, fs, rfl, hH, c, n, l, ?_⟩
    rw [← hH3]
    exact k3.here m3 σ (e.mono (x1.trans (x2.trans x3)) m3)) fun _ _ _ z => z σ)) fun _ _ _ z => z σ)
theorem ss_fldaug {c0 : Str} {g : Int → Int → Int} {rd : V → V → Hp → VK → Prop} (hrd : ∀ i j H Q, Q (.int (g i j)) H → rd (.int i) (.int j) H Q) (hC : ClsF K [c0] f) (ha : SE K E ta a) (hv : SE K E tv v) : SS K E (sFldAug K ta tv rd f) (mFldAug c0 f g a v) := fun w ro σ D e h =>
  ha w ro σ _ e (h.bind.mono (fun d w1 x1 p1 m1 k x rx => by
    obtain ⟨p, C, dx, fs, u, y, rfl, hH, ⟨c1, hc1, eC1⟩, c, n, l, ru, k2⟩ := fld_run hC m1 rx k.bind
    refine ⟨p, C, dx, fs, u, rfl, hH, c, n, l, hv w1 ro σ _ (e.mono x1 m1) (k2.bind.mono (fun z w2 x2 p2 m2 k3 t rt => ?_) fun _ _ _ z => z σ)⟩
    split at k3
    · rename_i i j
      have ru2 := ru.mono m1 x2
      cases ru2
      cases rt
      refine hrd _ _ _ _ ?_
      obtain ⟨p', C', dx', fs', w3, ep, hH', ⟨c2, hc2, eC2⟩, c', n', l', hH3, x3, p3, m3, k4⟩ := setF_run hC m2 (rx.mono m1 x2) (.int _) k3.bind
      cases ep
      rw [List.mem_singleton] at hc1 hc2
      subst hc1 hc2 eC1 eC2
      refine ⟨dx', fs', hH', l', ?_⟩
      rw [← hH3]
      exact k4.here m3 σ (e.mono (x1.trans (x2.trans x3)) m3)
    · exact k3.elim) fun _ _ _ z => z σ)
end
/-! ### methods, making -/
def isIns (c m : Str) (d : Da) : Mo Unit := fun st => match d with
  | .han n => (match st[n]? with
    | some (.ins c' fs) => if c' = c ∧ fs.lookup m = none then .ok () st else .bad
    | _ => .bad)
  | _ => .bad
def eMeth (c m : Str) (f : List Da → Mo Da) (a : Sl → Mo Da) (al : Sl → Mo (List Da)) : Sl → Mo Da := fun ro => bnd (a ro) fun d => bnd (isIns c m d) fun _ => bnd (al ro) fun ds => f (d :: ds)
def newI (c : Str) : Mo Unit := fun st => .ok () (st ++ [.ins c []])
def isNon : Da → Mo Unit
  | .non => ret ()
  | _ => nop
def makeD (c : Str) (f : List Da → Mo Da) (ds : List Da) : Mo Da := fun st => bnd (newI c) (fun _ => bnd (f (.han st.length :: ds)) fun r => bnd (isNon r) fun _ => ret (.han st.length)) st
def eMake (c : Str) (f : List Da → Mo Da) (al : Sl → Mo (List Da)) : Sl → Mo Da := fun ro => bnd (al ro) (makeD c f)
section
variable {K : PySem.W.Frag} {E : XK} {ta : TE} {a : Sl → Mo Da} {tA : TA} {al : Sl → Mo (List Da)} {c m : Str} {n : Nat} {f : List Da → Mo Da} {dvs : List V} {dds : List Da}
theorem s_meth (hd : ∀ w, Em K w → RepL K w dvs dds) (ha : SE K (fun _ => E) ta a) (hA : SA K (fun _ => E) tA al) : SE K (fun _ => E) (tMeth (He.ga K c) m (SpOf K n f) dvs E ta tA) (eMeth c m (fun ds => ar n f (ds ++ dds)) a al) := fun w ro σ Q e h =>
  ha w ro σ _ e (h.bind.mono (fun d w1 x1 p1 m1 k x rx => by
    have k2 := k.bind
    unfold isIns at k2
    split at k2
    · rename_i i
      split at k2
      · rename_i c' fs hx
        split at k2
        · rename_i hc
          obtain ⟨rfl, hl⟩ := hc
          cases rx with
          | @han p _ hp =>
            obtain ⟨dx, vfs, hH, rf⟩ := m1.cell i p _ hp hx
            refine ⟨p, dx, vfs, rfl, hH, rf.lookup_none hl, hA w1 ro σ _ (e.mono x1 m1) ((k2.here m1).bind.mono (fun ds w2 x2 p2 m2 k3 vs rv => ?_) fun _ _ _ z => z)⟩
            exact spOf_of m2 (.cons (.han (x2.at hp)) (rv.append (hd w2 m2))) k3
        · exact k2.elim
      · exact k2.elim
    · exact k2.elim) fun _ _ _ z => z)
theorem make_run {w : Wd} {vs : List V} {ds : List Da} {Q : VK} (m1 : Em K w) (rv : RepL K w vs ds) (h : Run K w (makeD c (fun ds => ar n f ds) ds w.st) (OkV K Q) (XP K E)) (x dx : Addr) (h1 : w.H x = none) (h2 : w.H dx = none) (h3 : dx ≠ x) :
    SpOf K n f (.ref x :: vs) (upd (upd w.H dx (.own x)) x (.ins (He.ga K c) dx [])) (fun v H2 => v = .non ∧ Q (.ref x) H2) E := by
  have m2 : Em K (w.new dx (.own x)) := m1.new h2
  have x2 : Ext w (w.new dx (.own x)) := Ext.new m1 h2
  have h1' : (w.new dx (.own x)).H x = none := by
    show upd w.H dx (.own x) x = none
    rw [upd_ne (Ne.symm h3)]
    exact h1
  have x3 : Ext (w.new dx (.own x)) ((w.new dx (.own x)).push x (.ins (He.ga K c) dx []) (.ins c [])) := Ext.push m2 h1'
  have m3 : Em K ((w.new dx (.own x)).push x (.ins (He.ga K c) dx []) (.ins c [])) := m2.push h1' ⟨dx, [], upd_same, .nil⟩
  have hat : ((w.new dx (.own x)).push x (.ins (He.ga K c) dx []) (.ins c [])).io[w.st.length]? = some x := push_at m2
  have h' : Run K ((w.new dx (.own x)).push x (.ins (He.ga K c) dx []) (.ins c [])) (bnd (ar n f (.han w.st.length :: ds)) (fun r => bnd (isNon r) fun _ => ret (.han w.st.length)) (w.st ++ [.ins c []])) (OkV K Q) (XP K E) := Run.ext h (x2.trans x3) rfl
  refine spOf_of (w := (w.new dx (.own x)).push x (.ins (He.ga K c) dx []) (.ins c [])) (ds := .han w.st.length :: ds) m3 (.cons (.han hat) (rv.mono m1 (x2.trans x3))) (Run.bind h' |>.mono (fun r w4 x4 p4 m4 k v rv4 => ?_) fun _ _ _ z => z)
  have k2 := k.bind
  cases r with
  | non =>
    cases rv4
    exact ⟨rfl, Run.here m4 (Run.here m4 k2) _ (.han (x4.at hat))⟩
  | bl b => exact k2.elim
  | int i => exact k2.elim
  | str s => exact k2.elim
  | tup xs => exact k2.elim
  | lst xs => exact k2.elim
  | fro xs => exact k2.elim
  | han i => exact k2.elim
theorem s_make (hd : ∀ w, Em K w → RepL K w dvs dds) (hA : SA K (fun _ => E) tA al) : SE K (fun _ => E) (tMake (He.ga K c) (SpOf K n f) dvs E tA) (eMake c (fun ds => ar n f ds) (fun ro => bnd (al ro) fun ds => ret (ds ++ dds))) := fun w ro σ Q e h => by
  unfold eMake at h
  rw [bnd_assoc] at h
  exact hA w ro σ _ e (h.bind.mono (fun ds w1 x1 p1 m1 k vs rv x dx h1 h2 h3 => make_run m1 (rv.append (hd w1 m1)) k x dx h1 h2 h3) fun _ _ _ z => z)
end
/-! ### the rules -/
/-- a method, a class, that can be called -/
structure CalM (P : Program) (wd : World) (K : PySem.W.Frag) (mg : Str → Option Value) (base : Heap) (k : Nat) (c m : Str) (n : Nat) (f : List Da → Mo Da) (dvs : List V) : Prop where
  ex : ∃ (q : Addr) (fd : FuncData) (ps : List Str) (ds : List Value), Cls K (He.ga K c) ∧ Meth K (He.ga K c) m q ∧ Binds K fd ps ds ∧ Vals dvs ds ∧ FnOk P wd K mg base (L2.CX P wd) k q fd ps (SpOf K n f)
structure CalC (P : Program) (wd : World) (K : PySem.W.Frag) (mg : Str → Option Value) (base : Heap) (k : Nat) (c : Str) (n : Nat) (f : List Da → Mo Da) (dvs : List V) : Prop where
  ex : ∃ (q : Addr) (fd : FuncData) (ps : List Str) (ds : List Value), mg c = some (.ref (He.ga K c)) ∧ Mk K (He.ga K c) q ∧ Binds K fd ps ds ∧ Vals dvs ds ∧ FnOk P wd K mg base (L2.CX P wd) k q fd ps (SpOf K n f)
/-- .. with keywords ks behind n1 values and the instance -/
structure CalCK (P : Program) (wd : World) (K : PySem.W.Frag) (mg : Str → Option Value) (base : Heap) (k : Nat) (c : Str) (n1 : Nat) (ks : List Str) (n : Nat) (f : List Da → Mo Da) (gV : List V → List V → List V) (gD : List Da → List Da → List Da) : Prop where
  ex : ∃ (q : Addr) (fd : FuncData) (ps : List Str) (g : List Value → List Value → List Value), mg c = some (.ref (He.ga K c)) ∧ Mk K (He.ga K c) q ∧ KBn K fd ps (n1 + 1) ks g gV ∧ FnOk P wd K mg base (L2.CX P wd) k q fd ps (SpOf K n f)
  rep : ∀ (w : Wd) (vs zs : List V) (ds es : List Da), Em K w → RepL K w vs ds → RepL K w zs es → vs.length = n1 + 1 → zs.length = ks.length → RepL K w (gV vs zs) (gD ds es)
theorem passes_of' {X : Cx} {E : XK} (hx : ∀ σ, PassesAt (L2.CX X.prog X.w) X σ E) : Passes (L2.CX X.prog X.w) X E := fun pins σ H s e s' I c => hx σ pins H s e s' I c
structure QK (X : Cx) (E : St → XK) (kws : List Keyword) (ta : TA) (m : Sl → Mo (List Da)) : Prop where
  pk : PK X kws ta
  sa : SA X.K E ta m
/-- two lists, one behind another, then a new instance -/
def eMakeK (c : Str) (f : List Da → Mo Da) (n1 m : Nat) (gD : List Da → List Da → List Da) (al kl : Sl → Mo (List Da)) : Sl → Mo Da := fun ro => bnd (al ro) fun ds => bnd (kl ro) fun es st => if ds.length = n1 ∧ es.length = m then bnd (newI c) (fun _ => bnd (f (gD (.han st.length :: ds) es)) fun r => bnd (isNon r) fun _ => ret (.han st.length)) st else .bad
section
variable {X : Cx} {E : XK} {o v e : Expr} {es : List Expr} {to tv te : TE} {mo mv me : Sl → Mo Da} {tA tK : TA} {al kl : Sl → Mo (List Da)} {cs : List Str} {f m c : Str} {pos pos' apos : Pos} {E' : St → XK}
theorem q_fld {K : PySem.W.Frag} (hC : ClsF K cs f) (he : QE X E' o to mo) (hb : attributeBase o f X.env (eval o X.env) = eval o X.env := by rfl) (hK : X.K = K := by rfl) : QE X E' (.Attribute o f pos) (tFld K to f) (eFld cs f mo) := by
  subst hK
  exact ⟨pe_fld he.pe hb, s_fld hC he.se⟩
theorem qs_fld {K : PySem.W.Frag} (hC : ClsF K cs f) (hv : QE X E' v tv mv) (ho : QE X E' o to mo) (hs : swapsWith v (some (.Attribute o f pos')) pos.line X.env = pure false := by rfl) (hK : X.K = K := by rfl) : QS X E' (.Assign [.Attribute o f pos'] v pos) (sFld K to tv f) (mFld cs f mv mo) := by
  subst hK
  exact ⟨ps_fld ho.pe hv.pe hs, ss_fld hC hv.se ho.se⟩
theorem qs_fldadd {K : PySem.W.Frag} (hC : ClsF K [c] f) (ho : QE X E' o to mo) (hv : QE X E' v tv mv) (hK : X.K = K := by rfl) : QS X E' (.AugAssign (.Attribute o f pos') .Add v pos) (sFldAug K to tv L2.rAdd f) (mFldAug c f (fun i j => i + j) mo mv) := by
  subst hK
  exact ⟨ps_fldaug ho.pe hv.pe in_add, ss_fldaug (fun i j H Q h => ⟨i, j, rfl, rfl, h⟩) hC ho.se hv.se⟩
theorem q_meth {P : Program} {wd : World} {K : PySem.W.Frag} {mg : Str → Option Value} {base : Heap} {k n : Nat} {dvs : List V} {dds : List Da} {fm : List Da → Mo Da} {pl : Sem Bool} (F : CalM P wd K mg base k c m n fm dvs) (hr : Room k X.A) (hx : ∀ σ, PassesAt (L2.CX X.prog X.w) X σ E)
    (ho : QE X (fun _ => E) o to mo) (ha : QA X (fun _ => E) (e :: es) tA al) (hP : X.prog = P := by rfl) (hw : X.w = wd := by rfl) (hK : X.K = K := by rfl) (hmg : X.mg = mg := by rfl) (hbase : X.base = base := by rfl) (hdd : ∀ w, Em K w → RepL K w dvs dds := by intro w m; first | exact .nil | exact .cons (.int _) .nil)
    (hst : starEach (e :: es) X.env = (false, eval e X.env) :: starEach es X.env := by rfl) (hpl : (backTo pos (starEach es X.env)).any (·.1) = false := by rfl)
    (ht : eval (.Call (.Attribute o m apos) (e :: es) [] pos) X.env = (do
      let ov ← eval o X.env
      standAt apos.atName
      let (f, first) ← holding [ov] (getMethod ov m pl)
      callWith pos f first (backTo pos (starEach (e :: es) X.env)) (backToKw pos (keywordEach [] X.env))) := by rfl) :
    QE X (fun _ => E) (.Call (.Attribute o m apos) (e :: es) [] pos) (tMeth (He.ga K c) m (SpOf K n fm) dvs E to tA) (eMeth c m (fun ds => ar n fm (ds ++ dds)) mo al) := by
  subst hP hw hK hmg hbase
  obtain ⟨q, fd, ps, ds, hc, hm, hb, hd, F⟩ := F.ex
  exact ⟨pe_meth ho.pe hc hm F hr hb hd (passes_of' hx) ha.pa hst hpl ht, s_meth hdd ho.se ha.sa⟩
theorem q_meth0 {P : Program} {wd : World} {K : PySem.W.Frag} {mg : Str → Option Value} {base : Heap} {k n : Nat} {dvs : List V} {dds : List Da} {fm : List Da → Mo Da} {pl : Sem Bool} (F : CalM P wd K mg base k c m n fm dvs) (hr : Room k X.A) (hx : ∀ σ, PassesAt (L2.CX X.prog X.w) X σ E)
    (ho : QE X (fun _ => E) o to mo) (hP : X.prog = P := by rfl) (hw : X.w = wd := by rfl) (hK : X.K = K := by rfl) (hmg : X.mg = mg := by rfl) (hbase : X.base = base := by rfl) (hdd : ∀ w, Em K w → RepL K w dvs dds := by intro w m; first | exact .nil | exact .cons (.int _) .nil)
    (ht : eval (.Call (.Attribute o m apos) [] [] pos) X.env = (do
      let ov ← eval o X.env
      standAt apos.atName
      let (f, first) ← holding [ov] (getMethod ov m pl)
      callWith pos f first (backTo pos (starEach [] X.env)) (backToKw pos (keywordEach [] X.env))) := by rfl) :
    QE X (fun _ => E) (.Call (.Attribute o m apos) [] [] pos) (tMeth (He.ga K c) m (SpOf K n fm) dvs E to tNil) (eMeth c m (fun ds => ar n fm (ds ++ dds)) mo aNil) := by
  subst hP hw hK hmg hbase
  obtain ⟨q, fd, ps, ds, hc, hm, hb, hd, F⟩ := F.ex
  exact ⟨pe_meth0 ho.pe hc hm F hr hb hd (passes_of' hx) ht, s_meth hdd ho.se s_nil⟩
theorem q_make {P : Program} {wd : World} {K : PySem.W.Frag} {mg : Str → Option Value} {base : Heap} {k n : Nat} {dvs : List V} {dds : List Da} {fm : List Da → Mo Da} {p : Pos} (F : CalC P wd K mg base k c n fm dvs) (hr : Room (k + 1) X.A) (hx : ∀ σ, PassesAt (L2.CX X.prog X.w) X σ E)
    (ha : QA X (fun _ => E) (e :: es) tA al) (hP : X.prog = P := by rfl) (hw : X.w = wd := by rfl) (hK : X.K = K := by rfl) (hmg : X.mg = mg := by rfl) (hbase : X.base = base := by rfl) (hdd : ∀ w, Em K w → RepL K w dvs dds := by intro w m; first | exact .nil | exact .cons (.int _) .nil) (hg : Gl X c := by rfl) (hdb : (c == ("__debug__" : Str)) = false := by decide)
    (he : starEach (e :: es) X.env = (false, eval e X.env) :: starEach es X.env := by rfl) (hpl : (backTo pos (starEach es X.env)).any (·.1) = false := by rfl) :
    QE X (fun _ => E) (.Call (.Name c p) (e :: es) [] pos) (tMake (He.ga K c) (SpOf K n fm) dvs E tA) (eMake c (fun ds => ar n fm ds) (fun ro => bnd (al ro) fun ds => ret (ds ++ dds))) := by
  subst hP hw hK hmg hbase
  obtain ⟨q, fd, ps, ds, hm, M, hb, hd, F⟩ := F.ex
  exact ⟨pe_make M F hr hg hm hb hd (passes_of' hx) ha.pa hdb he hpl, s_make hdd ha.sa⟩
theorem qk_nil : QK X E' [] tNil aNil := ⟨pk_nil, s_nil⟩
theorem qk_cons {kws : List Keyword} {nm : Option Str} {kpos : Pos} (h : QE X E' e te me) (hr : QK X E' kws tA al) : QK X E' (⟨nm, e, kpos⟩ :: kws) (tCons te tA) (aCons me al) := ⟨pk_cons h.pe hr.pk, s_cons h.se hr.sa⟩
theorem makeK_run {K : PySem.W.Frag} {n : Nat} {fm : List Da → Mo Da} {w : Wd} {vs : List V} {ds : List Da} {Q : VK} {x dx : Addr} (m1 : Em K w) (h1 : w.H x = none) (h2 : w.H dx = none) (h3 : dx ≠ x)
    (hrep : ∀ w', Ext w w' → Em K w' → Rep K w' (.ref x) (.han w.st.length) → RepL K w' vs ds) (h : Run K w (bnd (newI c) (fun _ => bnd (ar n fm ds) fun r => bnd (isNon r) fun _ => ret (.han w.st.length)) w.st) (OkV K Q) (XP K E)) :
    SpOf K n fm vs (upd (upd w.H dx (.own x)) x (.ins (He.ga K c) dx [])) (fun v H2 => v = .non ∧ Q (.ref x) H2) E := by
  have m2 : Em K (w.new dx (.own x)) := m1.new h2
  have x2 : Ext w (w.new dx (.own x)) := Ext.new m1 h2
  have h1' : (w.new dx (.own x)).H x = none := by
    show upd w.H dx (.own x) x = none
    rw [upd_ne (Ne.symm h3)]
    exact h1
  have x3 : Ext (w.new dx (.own x)) ((w.new dx (.own x)).push x (.ins (He.ga K c) dx []) (.ins c [])) := Ext.push m2 h1'
  have m3 : Em K ((w.new dx (.own x)).push x (.ins (He.ga K c) dx []) (.ins c [])) := m2.push h1' ⟨dx, [], upd_same, .nil⟩
  have hat : ((w.new dx (.own x)).push x (.ins (He.ga K c) dx []) (.ins c [])).io[w.st.length]? = some x := push_at m2
  have h' : Run K ((w.new dx (.own x)).push x (.ins (He.ga K c) dx []) (.ins c [])) (bnd (ar n fm ds) (fun r => bnd (isNon r) fun _ => ret (.han w.st.length)) (w.st ++ [.ins c []])) (OkV K Q) (XP K E) := Run.ext h (x2.trans x3) rfl
  refine spOf_of (w := (w.new dx (.own x)).push x (.ins (He.ga K c) dx []) (.ins c [])) (ds := ds) m3 (hrep _ (x2.trans x3) m3 (.han hat)) (Run.bind h' |>.mono (fun r w4 x4 p4 m4 k v rv4 => ?_) fun _ _ _ z => z)
  have k2 := k.bind
  cases r with
  | non =>
    cases rv4
    exact ⟨rfl, Run.here m4 (Run.here m4 k2) _ (.han (x4.at hat))⟩
  | bl b => exact k2.elim
  | int i => exact k2.elim
  | str s => exact k2.elim
  | tup xs => exact k2.elim
  | lst xs => exact k2.elim
  | fro xs => exact k2.elim
  | han i => exact k2.elim
theorem q_makeK {P : Program} {wd : World} {K : PySem.W.Frag} {mg : Str → Option Value} {base : Heap} {k n n1 : Nat} {ks : List Str} {gV : List V → List V → List V} {gD : List Da → List Da → List Da} {fm : List Da → Mo Da} {p : Pos} {kws : List Keyword} (F : CalCK P wd K mg base k c n1 ks n fm gV gD) (hr : Room (k + 1) X.A) (hx : ∀ σ, PassesAt (L2.CX X.prog X.w) X σ E)
    (ha : QA X (fun _ => E) (e :: es) tA al) (hkw : QK X (fun _ => E) kws tK kl) (hP : X.prog = P := by rfl) (hw : X.w = wd := by rfl) (hK : X.K = K := by rfl) (hmg : X.mg = mg := by rfl) (hbase : X.base = base := by rfl) (hg : Gl X c := by rfl) (hdb : (c == ("__debug__" : Str)) = false := by decide)
    (hall : (backToKw pos (keywordEach kws X.env)).all (·.1.isSome) = true := by rfl) (hks : (backToKw pos (keywordEach kws X.env)).filterMap (·.1) = ks := by rfl)
    (he : starEach (e :: es) X.env = (false, eval e X.env) :: starEach es X.env := by rfl) (hpl : ((backTo pos (starEach (e :: es) X.env)).any (·.1) || (backToKw pos (keywordEach kws X.env)).any (·.1.isNone)) = false := by rfl) :
    QE X (fun _ => E) (.Call (.Name c p) (e :: es) kws pos) (tMakeK (He.ga K c) n1 ks.length (SpOf K n fm) gV E tA tK) (eMakeK c (fun ds => ar n fm ds) n1 ks.length gD al kl) := by
  subst hP hw hK hmg hbase
  obtain ⟨⟨q, fd, ps, g, hm, M, hb, F⟩, hrep⟩ := F
  refine ⟨pe_makeK M F hr hg hm hb (passes_of' hx) ha.pa hkw.pk hall hks hdb he hpl, fun w ro σ Q en h => ?_⟩
  refine ha.sa w ro σ _ en (h.bind.mono (fun ds w1 x1 p1 m1 k1 vs rv => hkw.sa w1 ro σ _ (en.mono x1 m1) (k1.bind.mono (fun es w2 x2 p2 m2 k2 zs rz => ?_) fun _ _ _ z => z)) fun _ _ _ z => z)
  dsimp only at k2
  split at k2
  · rename_i hl
    refine ⟨rv.length.trans hl.1, rz.length.trans hl.2, fun x dx h1 h2 h3 => ?_⟩
    refine makeK_run m2 h1 h2 h3 (fun w' x' m' rx => ?_) k2
    exact hrep w' _ _ _ _ m' (.cons rx (rv.mono m1 (x2.trans x'))) (rz.mono m2 x') (by rw [List.length_cons, rv.length, hl.1]) (rz.length.trans hl.2)
  · exact k2.elim
end
end CL
namespace CL
open PySem PySem.Spec L2
/-! ### range with a step; max and min of a list; sums -/
def rngC (lo c : Int) (n : Nat) : List Da := (List.range n).map fun (i : Nat) => Da.int (lo + (i : Int) * c)
def rgN (i j c : Int) : Nat := (Builtin.Range.rangeSize i j c : Int).toNat
def rgOk (i j c : Int) : Prop := c ≠ 0 ∧ c.natAbs < 1073741824 ∧ Builtin.Range.small i j c = true ∧ Builtin.Range.rangeSize i j c = rgN i j c
instance (i j c : Int) : Decidable (rgOk i j c) := by unfold rgOk; infer_instance
def srcR3 : List Da → Mo Src
  | [.int i, .int j, .int c] => if rgOk i j c then ret ⟨rngC i c (rgN i j c), none⟩ else nop
  | _ => nop
def iR3 (a : Sl → Mo (List Da)) : Sl → Mo Src := fun ro => bnd (a ro) srcR3
def maxL : List Int → Int
  | [] => 0
  | [x] => x
  | x :: y :: r => max x (maxL (y :: r))
def minL : List Int → Int
  | [] => 0
  | [x] => x
  | x :: y :: r => min x (minL (y :: r))
theorem maxL_is : ∀ {ns : List Int}, ns ≠ [] → maxL ns ∈ ns ∧ ∀ y ∈ ns, y ≤ maxL ns
  | [x], _ => by simp [maxL]
  | x :: y :: r, _ => by
    obtain ⟨h1, h2⟩ := maxL_is (ns := y :: r) (by simp)
    unfold maxL
    refine ⟨?_, fun z hz => ?_⟩
    · rcases Int.le_total x (maxL (y :: r)) with h | h
      · rw [Int.max_eq_right h]; exact List.mem_cons_of_mem _ h1
      · rw [Int.max_eq_left h]; exact List.mem_cons_self ..
    · rcases List.mem_cons.mp hz with rfl | hz
      · omega
      · have := h2 z hz; omega
theorem minL_is : ∀ {ns : List Int}, ns ≠ [] → minL ns ∈ ns ∧ ∀ y ∈ ns, minL ns ≤ y
  | [x], _ => by simp [minL]
  | x :: y :: r, _ => by
    obtain ⟨h1, h2⟩ := minL_is (ns := y :: r) (by simp)
    unfold minL
    refine ⟨?_, fun z hz => ?_⟩
    · rcases Int.le_total x (minL (y :: r)) with h | h
      · rw [Int.min_eq_left h]; exact List.mem_cons_self ..
      · rw [Int.min_eq_right h]; exact List.mem_cons_of_mem _ h1
    · rcases List.mem_cons.mp hz with rfl | hz
      · omega
      · have := h2 z hz; omega
def lsI (g : List Int → Option Int) (d : Da) : Mo Da := fun st => match lsOf st d with
  | some xs => (match intsOf xs with
    | some ns => (match g ns with
      | some i => .ok (.int i) st
      | none => .bad)
    | none => .bad)
  | none => .bad
def max1 : Da → Mo Da := lsI fun ns => if ns = [] then none else some (maxL ns)
def min1 : Da → Mo Da := lsI fun ns => if ns = [] then none else some (minL ns)
def sum1 : Da → Mo Da := lsI fun ns => some ns.sum
section
variable {K : PySem.W.Frag} {E : St → XK} {tA : TA} {al : Sl → Mo (List Da)} {w : Wd}
theorem rngC_get {lo c : Int} {n i : Nat} {x : Da} (h : (rngC lo c n)[i]? = some x) : i < n ∧ x = .int (lo + (i : Int) * c) := by
  unfold rngC at h
  rw [List.getElem?_map] at h
  by_cases hi : i < n
  · rw [List.getElem?_range hi] at h
    cases h
    exact ⟨hi, rfl⟩
  · rw [List.getElem?_eq_none (by simpa using hi)] at h
    cases h
theorem it_rngC {lo c : Int} {n : Nat} : ItOk K w (Itc lo c n) ⟨rngC lo c n, none⟩ := fun w' x m k => by
  refine ⟨fun i d hd => ?_, ?_⟩
  · obtain ⟨hi, rfl⟩ := rngC_get hd
    exact ⟨hi, fun v H' hy => ⟨w', hy.1.symm, rfl, rfl, Ext.refl _, m, by rw [hy.2]; exact .int _⟩⟩
  · show n ≤ (rngC lo c n).length
    unfold rngC
    simp
theorem si_r3 (ha : SA K E tA al) : SI K E (iRng3 tA) (iR3 al) := fun w ro σ R e h =>
  ha w ro σ _ e (h.bind.mono (fun ds w1 x1 p1 m1 k vs rv => by
    unfold srcR3 at k
    split at k
    · rename_i i j c
      split at k
      · rename_i hb
        cases rv with
        | cons r1 r2 =>
          cases r2 with
          | cons r2 r3 =>
            cases r3 with
            | cons r3 r4 =>
              cases r4
              cases r1
              cases r2
              cases r3
              exact ⟨i, j, c, rgN i j c, rfl, hb, k.here m1 _ it_rngC⟩
      · exact k.elim
    · exact k.elim) fun _ _ _ z => z)
theorem sc_lsI {g : List Int → Option Int} {r : List V → Hp → VK → Prop} (hr : ∀ a ns i H Q, SqL K H a (ns.map V.int) → g ns = some i → Q (.int i) H → r [.ref a] H Q) : SC K r (one (lsI g)) := fun w xs ds Q ex m rr h => by
  obtain ⟨v, d, rfl, rfl, rv, h⟩ := one_rep rr h
  unfold lsI at h
  split at h
  · rename_i ys hy
    obtain ⟨a, vs, rfl, hH, rl⟩ := ls_rep m rv hy
    split at h
    · rename_i ns hn
      have e := ints_rep rl hn
      subst e
      split at h
      · rename_i i hi
        exact hr a ns i _ _ (SqL.of hH) hi (h.here m _ (.int _))
      · exact h.elim
    · exact h.elim
  · exact h.elim
theorem sc_max1 : SC K (rMax K) (one max1) := sc_lsI fun a ns i H Q hs hi q => by
  split at hi
  · cases hi
  · rename_i hne
    cases hi
    refine ⟨a, ns, rfl, hs, List.length_pos_iff.mpr hne, fun m h1 h2 => ?_⟩
    have := maxL_is hne
    rw [show m = maxL ns from Int.le_antisymm (this.2 m h1) (h2 _ this.1)]
    exact q
theorem sc_min1 : SC K (rMin K) (one min1) := sc_lsI fun a ns i H Q hs hi q => by
  split at hi
  · cases hi
  · rename_i hne
    cases hi
    refine ⟨a, ns, rfl, hs, List.length_pos_iff.mpr hne, fun m h1 h2 => ?_⟩
    have := minL_is hne
    rw [show m = minL ns from Int.le_antisymm (h2 _ this.1) (this.2 m h1)]
    exact q
theorem sc_sum1 : SC K (rSum K) (one sum1) := sc_lsI fun a ns i H Q hs hi q => by
  cases hi
  exact ⟨a, ns, rfl, hs, q⟩
end
section
variable {X : Cx} {E : St → XK} {a b c tg : Expr} {tA : TA} {al : Sl → Mo (List Da)} {pos : Pos}
theorem qi_r3 {p : Pos} (hm : X.mg "range" = none) (h : QA X E [a, b, c] tA al) (hg : Gl X "range" := by rfl) (hs : starEach [a, b, c] X.env = (false, eval a X.env) :: starEach [b, c] X.env := by rfl) (hpl : (backTo pos (starEach [b, c] X.env)).any (·.1) = false := by rfl) : QI X E tg (.Call (.Name "range" p) [a, b, c] [] pos) (iRng3 tA) (iR3 al) := ⟨pi_range3 hg hm h.pa hs hpl, si_r3 h.sa⟩
end
end CL
namespace CL
open PySem PySem.Spec PyProof.Rows L2
/-- a law's walk by facts of the head; the law may call defs that raise -/
theorem walkE {l : PySem.W.OpenLaw} {n k : Nat} {qq : Program} {loose : List Str} {XP : (Str → Option Value) → Heap → Prop} {YP : World → Heap → Prop} {d : DefRec} {x : Str}
    (hn : l.most = some n) (hn2 : n ≤ sizeLine) (hdf : d.params.defaults = []) (hr : Room k callerA)
    (F : ∀ (w : World) (mg : Str → Option Value) (fa : Addr) (h : Heap), YP w h → h.Ns mainGlobals mg → mg d.name = some (.ref fa) →
      ∃ (K : PySem.W.Frag) (fd : FuncData) (sp : Sp), K.In h ∧ (∀ (s : Shared) (u : Value), BindsTo s fd ⟨[u], []⟩ [(x, u)]) ∧
        (∀ (H : Hp) (a : Addr) (ns : List Int), ns.length ≤ n → Only H → SqL K H a (ns.map V.int) → sp [.ref a] H (fun v _ => v = .bl true) fun _ _ _ => False) ∧
        ∀ base : Heap, K.In base → base.Ns mainGlobals mg → FnOk l.prog w K mg base (L2.CX l.prog w) k fa fd [x] sp) :
    PySem.W.WalkO qq loose XP YP l.row.toRowW d [] (fun f vs => PySem.call f vs) := by
  refine Att.attach_call hn hdf fun w s0 s1 mg mb fa o pm cd doc a vs ns G Y ho hd hcd hmg hobj hints hlen hg => ?_
  obtain ⟨K, fd, sp, KX, hb, hsp, hF⟩ := F w mg fa _ Y G.T.g hmg
  refine law_call KX G.T.g G.T.b G.T.builtins G.T.nolimit hg hobj hints (Nat.le_trans hlen hn2) hr hF hb (fun H hO hS => hsp H a ns hlen hO hS) fun H e s' z => ?_
  obtain ⟨_, _, _, _, _, _, _, _, _, _, _, _, z⟩ := z
  exact z
theorem repL_ints {K : PySem.W.Frag} {w : Wd} : ∀ ns : List Int, RepL K w (ns.map V.int) (ns.map Da.int)
  | [] => .nil
  | n :: r => .cons (.int n) (repL_ints r)
theorem law_start {K : PySem.W.Frag} {H : Hp} {a : Addr} {ns : List Int} {f : List Da → Mo Da} (hO : Only H) (hS : SqL K H a (ns.map V.int)) (h : ∃ st', f [.fro (ns.map Da.int)] [] = .ok (.bl true) st') :
    SpOf K 1 f [.ref a] H (fun v _ => v = .bl true) (fun _ _ _ => False) := by
  obtain ⟨st', h⟩ := h
  refine ⟨⟨[], [], H, []⟩, [.fro (ns.map Da.int)], rfl, ⟨rfl, List.nodup_nil, fun a h => absurd h (by simp), fun n a c h => absurd h (by simp), fun a h => absurd h (by simp)⟩, .cons (.fro ?_ (repL_ints ns)) .nil, rfl, ?_⟩
  · rcases hS with (hS | hS) | hS
    · rcases hO a with z | ⟨o, xs, z⟩
      · rw [z] at hS; cases hS
      · rw [z] at hS; cases hS
    · exact .inl hS
    · exact .inr hS
  · show Run K _ (f [.fro (ns.map Da.int)] []) _ _
    rw [h]
    intro io H' x m v r
    exact rep_bl r
end CL
namespace CL
open PySem L2
/-- what a mirror's run must bring -/
def Wp {A : Type} (m : Mo A) (st : Store) (post : A → Store → Prop) (ex : Str → List Da → Store → Prop) : Prop := match m st with
  | .ok a st' => post a st'
  | .exc c as st' => ex c as st'
  | .bad => False
abbrev noEx : Str → List Da → Store → Prop := fun _ _ _ => False
section
variable {A B : Type} {st : Store} {ex : Str → List Da → Store → Prop}
theorem Wp.mono {m : Mo A} {post post' : A → Store → Prop} (h : Wp m st post ex) (hp : ∀ a st', post a st' → post' a st') : Wp m st post' ex := by
  unfold Wp at h ⊢
  cases q : m st with
  | ok a st' => rw [q] at h; exact hp a st' h
  | exc c as st' => rw [q] at h; exact h
  | bad => rw [q] at h; exact h
theorem Wp.congr {m : Mo A} {post post' : A → Store → Prop} (hp : ∀ a st', post a st' ↔ post' a st') : Wp m st post ex ↔ Wp m st post' ex :=
  ⟨fun h => h.mono fun a s => (hp a s).mp, fun h => h.mono fun a s => (hp a s).mpr⟩
theorem Wp.ofNo {m : Mo A} {post post' : A → Store → Prop} (h : Wp m st post noEx) (hp : ∀ a st', post a st' → post' a st') : Wp m st post' ex := by
  unfold Wp at h ⊢
  cases q : m st with
  | ok a st' => rw [q] at h; exact hp a st' h
  | exc c as st' => rw [q] at h; exact h.elim
  | bad => rw [q] at h; exact h
theorem Wp.out {m : Mo A} {post : A → Store → Prop} (h : Wp m st post noEx) : ∃ a st', m st = .ok a st' ∧ post a st' := by
  unfold Wp at h
  cases q : m st with
  | ok a st' => rw [q] at h; exact ⟨a, st', rfl, h⟩
  | exc c as st' => rw [q] at h; exact h.elim
  | bad => rw [q] at h; exact h.elim
theorem Wp.of {m : Mo A} {post : A → Store → Prop} {a : A} {st' : Store} (h : m st = .ok a st') (hp : post a st') : Wp m st post ex := by
  unfold Wp; rw [h]; exact hp
@[simp] theorem wp_bnd {m : Mo A} {f : A → Mo B} {post : B → Store → Prop} : Wp (bnd m f) st post ex ↔ Wp m st (fun a st' => Wp (f a) st' post ex) ex := by
  unfold Wp bnd
  cases m st <;> rfl
@[simp] theorem wp_ret {a : A} {post : A → Store → Prop} : Wp (ret a) st post ex ↔ post a st := Iff.rfl
@[simp] theorem wp_nop {post : A → Store → Prop} : Wp (nop : Mo A) st post ex ↔ False := Iff.rfl
@[simp] theorem wp_noX {m : Mo A} {post : A → Store → Prop} : Wp (noX m) st post ex ↔ Wp m st post noEx := by
  unfold Wp noX
  cases m st <;> rfl
@[simp] theorem wp_ite {c : Prop} [Decidable c] {m n : Mo A} {post : A → Store → Prop} : Wp (if c then m else n) st post ex ↔ if c then Wp m st post ex else Wp n st post ex := by
  split <;> rfl
variable {a b c : Sl → Mo Da} {p q : Sl → Mo Bool} {al : Sl → Mo (List Da)} {ro : Sl} {post : Da → Store → Prop} {postB : Bool → Store → Prop} {postL : List Da → Store → Prop} {postF : Fl → Store → Prop}
theorem wp_var {i : Nat} {d : Da} (h : ro[i]? = some (some d)) : Wp (eVar i ro) st post ex ↔ post d st := by
  unfold Wp eVar; rw [h]
@[simp] theorem wp_var0 {d : Da} {r : Sl} : Wp (eVar 0 (some d :: r)) st post ex ↔ post d st := Iff.rfl
@[simp] theorem wp_varS {i : Nat} {o : Option Da} {r : Sl} : Wp (eVar (i + 1) (o :: r)) st post ex ↔ Wp (eVar i r) st post ex := Iff.rfl
@[simp] theorem wp_var1 {o0 : Option Da} {d : Da} {r : Sl} : Wp (eVar 1 (o0 :: some d :: r)) st post ex ↔ post d st := Iff.rfl
@[simp] theorem wp_var2 {o0 o1 : Option Da} {d : Da} {r : Sl} : Wp (eVar 2 (o0 :: o1 :: some d :: r)) st post ex ↔ post d st := Iff.rfl
@[simp] theorem wp_var3 {o0 o1 o2 : Option Da} {d : Da} {r : Sl} : Wp (eVar 3 (o0 :: o1 :: o2 :: some d :: r)) st post ex ↔ post d st := Iff.rfl
@[simp] theorem wp_var4 {o0 o1 o2 o3 : Option Da} {d : Da} {r : Sl} : Wp (eVar 4 (o0 :: o1 :: o2 :: o3 :: some d :: r)) st post ex ↔ post d st := Iff.rfl
@[simp] theorem wp_var5 {o0 o1 o2 o3 o4 : Option Da} {d : Da} {r : Sl} : Wp (eVar 5 (o0 :: o1 :: o2 :: o3 :: o4 :: some d :: r)) st post ex ↔ post d st := Iff.rfl
@[simp] theorem wp_var6 {o0 o1 o2 o3 o4 o5 : Option Da} {d : Da} {r : Sl} : Wp (eVar 6 (o0 :: o1 :: o2 :: o3 :: o4 :: o5 :: some d :: r)) st post ex ↔ post d st := Iff.rfl
@[simp] theorem wp_var7 {o0 o1 o2 o3 o4 o5 o6 : Option Da} {d : Da} {r : Sl} : Wp (eVar 7 (o0 :: o1 :: o2 :: o3 :: o4 :: o5 :: o6 :: some d :: r)) st post ex ↔ post d st := Iff.rfl
@[simp] theorem wp_var8 {o0 o1 o2 o3 o4 o5 o6 o7 : Option Da} {d : Da} {r : Sl} : Wp (eVar 8 (o0 :: o1 :: o2 :: o3 :: o4 :: o5 :: o6 :: o7 :: some d :: r)) st post ex ↔ post d st := Iff.rfl
@[simp] theorem wp_var9 {o0 o1 o2 o3 o4 o5 o6 o7 o8 : Option Da} {d : Da} {r : Sl} : Wp (eVar 9 (o0 :: o1 :: o2 :: o3 :: o4 :: o5 :: o6 :: o7 :: o8 :: some d :: r)) st post ex ↔ post d st := Iff.rfl
@[simp] theorem wp_var10 {o0 o1 o2 o3 o4 o5 o6 o7 o8 o9 : Option Da} {d : Da} {r : Sl} : Wp (eVar 10 (o0 :: o1 :: o2 :: o3 :: o4 :: o5 :: o6 :: o7 :: o8 :: o9 :: some d :: r)) st post ex ↔ post d st := Iff.rfl
@[simp] theorem wp_c {d : Da} : Wp (eC d ro) st post ex ↔ post d st := Iff.rfl
@[simp] theorem wp_e2 {f : Da → Da → Mo Da} : Wp (e2 f a b ro) st post ex ↔ Wp (a ro) st (fun x s1 => Wp (b ro) s1 (fun y s2 => Wp (f x y) s2 post ex) ex) ex := by unfold e2; simp only [wp_bnd]
@[simp] theorem wp_e1 {f : Da → Mo Da} : Wp (e1 f a ro) st post ex ↔ Wp (a ro) st (fun x s1 => Wp (f x) s1 post ex) ex := by unfold e1; simp only [wp_bnd]
@[simp] theorem wp_toB {k : Bool} : Wp (toB (.bl k)) st postB ex ↔ postB k st := Iff.rfl
@[simp] theorem wp_tst : Wp (tst a ro) st postB ex ↔ Wp (a ro) st (fun x s1 => Wp (toB x) s1 postB ex) ex := by unfold tst; simp only [wp_bnd]
@[simp] theorem wp_and : Wp (tAnd_ p q ro) st postB ex ↔ Wp (p ro) st (fun x s1 => if x = true then Wp (q ro) s1 postB ex else postB false s1) ex := by unfold tAnd_; simp only [wp_bnd, wp_ite, wp_ret]
@[simp] theorem wp_or : Wp (tOr_ p q ro) st postB ex ↔ Wp (p ro) st (fun x s1 => if x = true then postB true s1 else Wp (q ro) s1 postB ex) ex := by unfold tOr_; simp only [wp_bnd, wp_ite, wp_ret]
@[simp] theorem wp_not : Wp (tNot_ p ro) st postB ex ↔ Wp (p ro) st (fun x s1 => postB (!x) s1) ex := by unfold tNot_; simp only [wp_bnd, wp_ret]
@[simp] theorem wp_vAnd : Wp (vAnd a b ro) st post ex ↔ Wp (tst a ro) st (fun x s1 => if x = true then Wp (b ro) s1 post ex else post (.bl false) s1) ex := by unfold vAnd; simp only [wp_bnd, wp_ite, wp_ret]
@[simp] theorem wp_vOr : Wp (vOr a b ro) st post ex ↔ Wp (tst a ro) st (fun x s1 => if x = true then post (.bl true) s1 else Wp (b ro) s1 post ex) ex := by unfold vOr; simp only [wp_bnd, wp_ite, wp_ret]
@[simp] theorem wp_vNot : Wp (vNot a ro) st post ex ↔ Wp (tst a ro) st (fun x s1 => post (.bl (!x)) s1) ex := by unfold vNot; simp only [wp_bnd, wp_ret]
@[simp] theorem wp_eIf : Wp (eIf p a b ro) st post ex ↔ Wp (p ro) st (fun x s1 => if x = true then Wp (a ro) s1 post ex else Wp (b ro) s1 post ex) ex := by unfold eIf; simp only [wp_bnd, wp_ite]
@[simp] theorem wp_aNil : Wp (aNil ro) st postL ex ↔ postL [] st := Iff.rfl
@[simp] theorem wp_aCons : Wp (aCons a al ro) st postL ex ↔ Wp (a ro) st (fun x s1 => Wp (al ro) s1 (fun xs s2 => postL (x :: xs) s2) ex) ex := by unfold aCons; simp only [wp_bnd, wp_ret]
@[simp] theorem wp_eTup : Wp (eTup al ro) st post ex ↔ Wp (al ro) st (fun xs s1 => if xs.length ≤ 1000 then post (.tup xs) s1 else False) ex := by unfold eTup; simp only [wp_bnd, wp_ite, wp_ret, wp_nop]
@[simp] theorem wp_lDisp : Wp (lDisp al ro) st postL ex ↔ Wp (al ro) st (fun xs s1 => if xs.length ≤ 1000 then postL xs s1 else False) ex := by unfold lDisp; simp only [wp_bnd, wp_ite, wp_ret, wp_nop]
@[simp] theorem wp_eL : Wp (eL al ro) st post ex ↔ Wp (al ro) st (fun xs s1 => post (.lst xs) s1) ex := by unfold eL; simp only [wp_bnd, wp_ret]
theorem wp_H1 {xs : List Da} {post : Da → Store → Prop} : Wp (fun st => Res.ok (Da.han st.length) (st ++ [Cell.lst xs])) st post ex ↔ post (.han st.length) (st ++ [.lst xs]) := Iff.rfl
@[simp] theorem wp_eH : Wp (eH al ro) st post ex ↔ Wp (al ro) st (fun xs s1 => post (.han s1.length) (s1 ++ [.lst xs])) ex := by unfold eH; simp only [wp_bnd, wp_H1]
@[simp] theorem wp_eF : Wp (eF a ro) st post ex ↔ Wp (a ro) st (fun x s1 => Wp (fz x) s1 post ex) ex := by unfold eF; simp only [wp_bnd]
theorem wp_fz {n : Nat} {ds : List Da} (h : st[n]? = some (.lst ds)) : Wp (fz (.han n)) st post ex ↔ post (.lst ds) (st.set n .dead) := by unfold Wp fz; dsimp only; rw [h]
@[simp] theorem wp_eCall {f : List Da → Mo Da} : Wp (eCall f al ro) st post ex ↔ Wp (al ro) st (fun xs s1 => Wp (f xs) s1 post ex) ex := by unfold eCall; simp only [wp_bnd]
@[simp] theorem wp_lCall {f : List Da → Mo (List Da)} : Wp (lCall f al ro) st postL ex ↔ Wp (al ro) st (fun xs s1 => Wp (f xs) s1 postL ex) ex := by unfold lCall; simp only [wp_bnd]
@[simp] theorem wp_l2 {f : Da → Da → Mo (List Da)} : Wp (l2 f a b ro) st postL ex ↔ Wp (a ro) st (fun x s1 => Wp (b ro) s1 (fun y s2 => Wp (f x y) s2 postL ex) ex) ex := by unfold l2; simp only [wp_bnd]
@[simp] theorem wp_chain {f g : Da → Da → Mo Da} : Wp (eChain f g a b c ro) st post ex ↔ Wp (a ro) st (fun x s1 => Wp (b ro) s1 (fun y s2 => Wp (f x y) s2 (fun z s3 => Wp (toB z) s3 (fun k s4 => if k = true then Wp (c ro) s4 (fun z s5 => Wp (g y z) s5 post ex) ex else post (.bl false) s4) ex) ex) ex) ex := by
  unfold eChain; simp only [wp_bnd, wp_ite, wp_ret]
@[simp] theorem wp_ar {n : Nat} {f : List Da → Mo A} {ds : List Da} {post : A → Store → Prop} : Wp (ar n f ds) st post ex ↔ if ds.length = n then Wp (f ds) st post ex else False := by
  unfold ar; simp only [wp_ite, wp_nop]
@[simp] theorem wp_one {f : Da → Mo A} {d : Da} {post : A → Store → Prop} : Wp (one f [d]) st post ex ↔ Wp (f d) st post ex := Iff.rfl
@[simp] theorem wp_two {f : Da → Da → Mo A} {d e : Da} {post : A → Store → Prop} : Wp (two f [d, e]) st post ex ↔ Wp (f d e) st post ex := Iff.rfl
/-! operators -/
@[simp] theorem wp_add_i {i j : Int} : Wp (addD (.int i) (.int j)) st post ex ↔ post (.int (i + j)) st := Iff.rfl
@[simp] theorem wp_sub_i {i j : Int} : Wp (subD (.int i) (.int j)) st post ex ↔ post (.int (i - j)) st := Iff.rfl
@[simp] theorem wp_mul_i {i j : Int} : Wp (mulD (.int i) (.int j)) st post ex ↔ if CMul i j then post (.int (i * j)) st else False := by unfold mulD; simp only [wp_ite, wp_ret, wp_nop]
@[simp] theorem wp_fdiv_i {i j : Int} : Wp (fdivD (.int i) (.int j)) st post ex ↔ if CDivN i j then post (.int (i.fdiv j)) st else False := by unfold fdivD; simp only [wp_ite, wp_ret, wp_nop]
@[simp] theorem wp_mod_i {i j : Int} : Wp (modD (.int i) (.int j)) st post ex ↔ if j ≠ 0 then post (.int (i.fmod j)) st else False := by unfold modD; simp only [wp_ite, wp_ret, wp_nop]
@[simp] theorem wp_pow_i {i j : Int} : Wp (powD (.int i) (.int j)) st post ex ↔ if CPow i j then post (.int (i ^ j.toNat)) st else False := by unfold powD; simp only [wp_ite, wp_ret, wp_nop]
@[simp] theorem wp_lt_i {i j : Int} : Wp (ltD (.int i) (.int j)) st post ex ↔ post (.bl (decide (i < j))) st := Iff.rfl
@[simp] theorem wp_le_i {i j : Int} : Wp (leD (.int i) (.int j)) st post ex ↔ post (.bl (decide (i ≤ j))) st := Iff.rfl
@[simp] theorem wp_gt_i {i j : Int} : Wp (gtD (.int i) (.int j)) st post ex ↔ post (.bl (decide (j < i))) st := Iff.rfl
@[simp] theorem wp_ge_i {i j : Int} : Wp (geD (.int i) (.int j)) st post ex ↔ post (.bl (decide (j ≤ i))) st := Iff.rfl
@[simp] theorem wp_neg_i {i : Int} : Wp (negD (.int i)) st post ex ↔ post (.int (-i)) st := Iff.rfl
@[simp] theorem wp_max_i {i j : Int} : Wp (maxD (.int i) (.int j)) st post ex ↔ post (.int (if j > i then j else i)) st := Iff.rfl
@[simp] theorem wp_min_i {i j : Int} : Wp (minD (.int i) (.int j)) st post ex ↔ post (.int (if j < i then j else i)) st := Iff.rfl
theorem wp_isT {t u : Tn} {d : Da} (h : tyN st d = some u) : Wp (isT t d) st post ex ↔ post (.bl (isTn u t)) st := by unfold Wp isT; rw [h]
@[simp] theorem wp_isT_i {t : Tn} {i : Int} : Wp (isT t (.int i)) st post ex ↔ post (.bl (isTn .int t)) st := Iff.rfl
@[simp] theorem wp_isT_b {t : Tn} {i : Bool} : Wp (isT t (.bl i)) st post ex ↔ post (.bl (isTn .bool t)) st := Iff.rfl
@[simp] theorem wp_isT_s {t : Tn} {i : Str} : Wp (isT t (.str i)) st post ex ↔ post (.bl (isTn .str t)) st := Iff.rfl
@[simp] theorem wp_isT_n {t : Tn} : Wp (isT t .non) st post ex ↔ post (.bl (isTn .non t)) st := Iff.rfl
@[simp] theorem wp_isT_t {t : Tn} {xs : List Da} : Wp (isT t (.tup xs)) st post ex ↔ post (.bl (isTn .tuple t)) st := Iff.rfl
@[simp] theorem wp_isT_l {t : Tn} {xs : List Da} : Wp (isT t (.lst xs)) st post ex ↔ post (.bl (isTn .list t)) st := Iff.rfl
@[simp] theorem wp_is_non {b : Bool} : Wp (isB b .non .non) st post ex ↔ post (.bl (if b then false else true)) st := by cases b <;> exact Iff.rfl
@[simp] theorem wp_is_int {b : Bool} {i : Int} : Wp (isB b (.int i) .non) st post ex ↔ post (.bl (if b then true else false)) st := by cases b <;> exact Iff.rfl
@[simp] theorem wp_is_tup {b : Bool} {i : List Da} : Wp (isB b (.tup i) .non) st post ex ↔ post (.bl (if b then true else false)) st := by cases b <;> exact Iff.rfl
@[simp] theorem wp_is_lst {b : Bool} {i : List Da} : Wp (isB b (.lst i) .non) st post ex ↔ post (.bl (if b then true else false)) st := by cases b <;> exact Iff.rfl
@[simp] theorem wp_is_bl {b x y : Bool} : Wp (isB b (.bl x) (.bl y)) st post ex ↔ post (.bl (if b then !decide (x = y) else decide (x = y))) st := Iff.rfl
/-! sequences -/
theorem wp_len {d : Da} {xs : List Da} (h : sqOf st d = some xs) : Wp (lenD d) st post ex ↔ post (.int xs.length) st := by
  unfold Wp lenD
  cases d <;> first | (dsimp only; rw [h]) | (cases h)
@[simp] theorem wp_len_l {xs : List Da} : Wp (lenD (.lst xs)) st post ex ↔ post (.int xs.length) st := Iff.rfl
@[simp] theorem wp_len_t {xs : List Da} : Wp (lenD (.tup xs)) st post ex ↔ post (.int xs.length) st := Iff.rfl
theorem wp_ix {d x : Da} {xs : List Da} {i : Int} (hf : ∀ ys, d ≠ .fro ys) (h : sqOf st d = some xs) (hx : atI xs i = some x) : Wp (ixD d (.int i)) st post ex ↔ post x st := by
  unfold Wp ixD
  cases d with
  | fro ys => exact absurd rfl (hf ys)
  | str s => cases h
  | non => cases h
  | bl b => cases h
  | int i => cases h
  | tup ys => dsimp only; rw [h]; dsimp only; rw [hx]
  | lst ys => dsimp only; rw [h]; dsimp only; rw [hx]
  | han n => dsimp only; rw [h]; dsimp only; rw [hx]
theorem wp_ix_t {x : Da} {xs : List Da} {i : Int} (hx : atI xs i = some x) : Wp (ixD (.tup xs) (.int i)) st post ex ↔ post x st := wp_ix (fun _ z => nomatch z) rfl hx
theorem wp_ix_l {x : Da} {xs : List Da} {i : Int} (hx : atI xs i = some x) : Wp (ixD (.lst xs) (.int i)) st post ex ↔ post x st := wp_ix (fun _ z => nomatch z) rfl hx
theorem wp_ix_h {n : Nat} {x : Da} {xs : List Da} {i : Int} (h : st[n]? = some (.lst xs)) (hx : atI xs i = some x) : Wp (ixD (.han n) (.int i)) st post ex ↔ post x st :=
  wp_ix (fun _ z => nomatch z) (by unfold sqOf lsOf; dsimp only; rw [h]) hx
@[simp] theorem wp_ix_t0 {x0 : Da} {r : List Da} : Wp (ixD (.tup (x0 :: r)) (.int 0)) st post ex ↔ post x0 st := wp_ix_t (atI_nat (j := 0) rfl)
@[simp] theorem wp_ix_t1 {x0 x1 : Da} {r : List Da} : Wp (ixD (.tup (x0 :: x1 :: r)) (.int 1)) st post ex ↔ post x1 st := wp_ix_t (atI_nat (j := 1) rfl)
@[simp] theorem wp_ix_t2 {x0 x1 x2 : Da} {r : List Da} : Wp (ixD (.tup (x0 :: x1 :: x2 :: r)) (.int 2)) st post ex ↔ post x2 st := wp_ix_t (atI_nat (j := 2) rfl)
@[simp] theorem wp_ix_t3 {x0 x1 x2 x3 : Da} {r : List Da} : Wp (ixD (.tup (x0 :: x1 :: x2 :: x3 :: r)) (.int 3)) st post ex ↔ post x3 st := wp_ix_t (atI_nat (j := 3) rfl)
@[simp] theorem wp_ix_l0 {x0 : Da} {r : List Da} : Wp (ixD (.lst (x0 :: r)) (.int 0)) st post ex ↔ post x0 st := wp_ix_l (atI_nat (j := 0) rfl)
theorem wp_list {d : Da} {xs : List Da} (h : sqOf st d = some xs) : Wp (listD d) st postL ex ↔ postL xs st := by unfold Wp listD; rw [h]
@[simp] theorem wp_list_l {xs : List Da} : Wp (listD (.lst xs)) st postL ex ↔ postL xs st := Iff.rfl
@[simp] theorem wp_list_t {xs : List Da} : Wp (listD (.tup xs)) st postL ex ↔ postL xs st := Iff.rfl
@[simp] theorem wp_list_f {xs : List Da} : Wp (listD (.fro xs)) st postL ex ↔ postL xs st := Iff.rfl
@[simp] theorem wp_tuple_l {xs : List Da} : Wp (tupleD (.lst xs)) st post ex ↔ post (.tup xs) st := Iff.rfl
theorem wp_tuple_h {n : Nat} {xs : List Da} (h : st[n]? = some (.lst xs)) : Wp (tupleD (.han n)) st post ex ↔ post (.tup xs) st := by
  unfold Wp tupleD sqOf lsOf; dsimp only; rw [h]
@[simp] theorem wp_catL_l {xs ys : List Da} : Wp (catL (.lst xs) (.lst ys)) st postL ex ↔ if xs.length + ys.length ≤ 1000000 then postL (xs ++ ys) st else False := by
  unfold Wp catL lsOf
  dsimp only
  by_cases h : xs.length + ys.length ≤ szD
  · rw [if_pos h, if_pos h]
  · rw [if_neg h, if_neg h]
theorem blsOf_map (bs : List Bool) : blsOf (bs.map Da.bl) = some bs := by
  induction bs with
  | nil => rfl
  | cons b r ih => show (blsOf (r.map Da.bl)).map (b :: ·) = _; rw [ih]; rfl
theorem wp_all {xs : List Da} {bs : List Bool} (h : xs = bs.map Da.bl) : Wp (allD (.lst xs)) st post ex ↔ post (.bl (bs.all id)) st := by
  unfold Wp allD lsOf; dsimp only; rw [h, blsOf_map]
@[simp] theorem wp_all1 {x : Bool} : Wp (allD (.lst [.bl x])) st post ex ↔ post (.bl x) st := (wp_all (xs := [.bl x]) (bs := [x]) rfl).trans (by simp)
@[simp] theorem wp_all2 {x y : Bool} : Wp (allD (.lst [.bl x, .bl y])) st post ex ↔ post (.bl (x && y)) st := (wp_all (xs := [.bl x, .bl y]) (bs := [x, y]) rfl).trans (by simp)
theorem wp_len_h {n : Nat} {xs : List Da} (h : st[n]? = some (.lst xs)) : Wp (lenD (.han n)) st post ex ↔ post (.int xs.length) st := wp_len (by unfold sqOf lsOf; dsimp only; rw [h])
/-! things that change -/
theorem wp_setD {n : Nat} {k : Int} {x : Da} {xs : List Da} {j : Nat} {post : Unit → Store → Prop} (h : st[n]? = some (.lst xs)) (hj : ixN xs.length k = some j) : Wp (setD (.han n) (.int k) x) st post ex ↔ post () (st.set n (.lst (xs.set j x))) := by
  unfold Wp setD; dsimp only; rw [h]; dsimp only; rw [hj]
@[simp] theorem wp_eApp : Wp (eApp a b ro) st post ex ↔ Wp (a ro) st (fun d s1 => Wp (isLs d) s1 (fun _ s2 => Wp (b ro) s2 (fun x s3 => Wp (appD d x) s3 post ex) ex) ex) ex := by unfold eApp; simp only [wp_bnd]
theorem wp_isLs {d : Da} {xs : List Da} {post : Unit → Store → Prop} (h : lsOf st d = some xs) : Wp (isLs d) st post ex ↔ post () st := by unfold Wp isLs; rw [h]
theorem wp_isLs_h {n : Nat} {xs : List Da} {post : Unit → Store → Prop} (h : st[n]? = some (.lst xs)) : Wp (isLs (.han n)) st post ex ↔ post () st := wp_isLs (xs := xs) (by unfold lsOf; dsimp only; rw [h])
theorem wp_appD {n : Nat} {x : Da} {xs : List Da} (h : st[n]? = some (.lst xs)) (hl : xs.length < szD) : Wp (appD (.han n) x) st post ex ↔ post .non (st.set n (.lst (xs ++ [x]))) := by
  unfold Wp appD; dsimp only; rw [h]; dsimp only; rw [if_pos hl]
@[simp] theorem wp_ePopAt : Wp (ePopAt a b ro) st post ex ↔ Wp (a ro) st (fun d s1 => Wp (isLs d) s1 (fun _ s2 => Wp (b ro) s2 (fun x s3 => Wp (popAtD d x) s3 post ex) ex) ex) ex := by unfold ePopAt; simp only [wp_bnd]
theorem wp_popAt {n : Nat} {k : Int} {xs : List Da} {j : Nat} {x : Da} (h : st[n]? = some (.lst xs)) (hj : ixN xs.length k = some j) (hx : xs[j]? = some x) (hb : big k) : Wp (popAtD (.han n) (.int k)) st post ex ↔ post x (st.set n (.lst (xs.eraseIdx j))) := by
  unfold Wp popAtD; dsimp only; rw [h]; dsimp only; rw [hj]; dsimp only; rw [hx]; dsimp only; rw [if_pos hb]
@[simp] theorem wp_ePop : Wp (ePop a ro) st post ex ↔ Wp (a ro) st (fun d s1 => Wp (isLs d) s1 (fun _ s2 => Wp (popD d) s2 post ex) ex) ex := by unfold ePop; simp only [wp_bnd]
theorem wp_popD {n : Nat} {xs : List Da} {x : Da} (h : st[n]? = some (.lst xs)) (hx : xs[xs.length - 1]? = some x) : Wp (popD (.han n)) st post ex ↔ post x (st.set n (.lst xs.dropLast)) := by
  unfold Wp popD; dsimp only; rw [h]; dsimp only; rw [hx]
theorem wp_setSl {n : Nat} {a c : Int} {xs ys : List Da} {post : Unit → Store → Prop} (h : st[n]? = some (.lst xs)) (hc : 0 ≤ a ∧ a ≤ c ∧ c ≤ xs.length ∧ xs.length + ys.length ≤ 1000000) : Wp (setSlD (.han n) (some a) (some c) (.lst ys)) st post ex ↔ post () (st.set n (.lst (xs.take a.toNat ++ ys ++ xs.drop c.toNat))) := by
  unfold Wp setSlD; dsimp only; rw [h]; dsimp only; rw [if_pos hc]
@[simp] theorem wp_mSetSl {lo hi : Sl → Mo (Option Int)} : Wp (mSetSl a b lo hi ro) st postF ex ↔ Wp (a ro) st (fun x s1 => Wp (b ro) s1 (fun d s2 => Wp (lo ro) s2 (fun l s3 => Wp (hi ro) s3 (fun h s4 => Wp (setSlD d l h x) s4 (fun _ s5 => postF (.nx ro) s5) ex) ex) ex) ex) ex := by unfold mSetSl; simp only [wp_bnd, wp_ret]
/-! statements -/
variable {m n : Sl → Mo Fl}
@[simp] theorem wp_mNil : Wp (mNil ro) st postF ex ↔ postF (.nx ro) st := Iff.rfl
def seqK (n : Sl → Mo Fl) (postF : Fl → Store → Prop) (ex : Str → List Da → Store → Prop) (f : Fl) (st : Store) : Prop := match f with
  | .nx ro => Wp (n ro) st postF ex
  | .rt d => postF (.rt d) st
  | .bk ro => postF (.bk ro) st
  | .ct ro => postF (.ct ro) st
@[simp] theorem seqK_nx : seqK n postF ex (.nx ro) st ↔ Wp (n ro) st postF ex := Iff.rfl
@[simp] theorem seqK_rt {d : Da} : seqK n postF ex (.rt d) st ↔ postF (.rt d) st := Iff.rfl
@[simp] theorem seqK_bk : seqK n postF ex (.bk ro) st ↔ postF (.bk ro) st := Iff.rfl
@[simp] theorem seqK_ct : seqK n postF ex (.ct ro) st ↔ postF (.ct ro) st := Iff.rfl
@[simp] theorem wp_mSeq : Wp (mSeq m n ro) st postF ex ↔ Wp (m ro) st (seqK n postF ex) ex := by
  unfold mSeq
  rw [wp_bnd]
  exact Wp.congr fun f s => by cases f <;> exact Iff.rfl
@[simp] theorem wp_mSet {i : Nat} : Wp (mSet i a ro) st postF ex ↔ Wp (a ro) st (fun d s1 => postF (.nx (ro.set i (some d))) s1) ex := by unfold mSet; simp only [wp_bnd, wp_ret]
@[simp] theorem wp_mTgt {t : Tg} : Wp (mTgt t a ro) st postF ex ↔ Wp (a ro) st (fun d s1 => ∃ ro', t d ro = some ro' ∧ postF (.nx ro') s1) ex := by
  unfold mTgt
  rw [wp_bnd]
  refine Wp.congr fun d s => ?_
  cases q : t d ro with
  | none => simp
  | some r => simp
def parK (i j : Nat) (ro : Sl) (postF : Fl → Store → Prop) (ds : List Da) (st : Store) : Prop := match ds with
  | [d, e] => postF (.nx ((ro.set i (some d)).set j (some e))) st
  | _ => False
@[simp] theorem parK_two {i j : Nat} {d e : Da} : parK i j ro postF [d, e] st ↔ postF (.nx ((ro.set i (some d)).set j (some e))) st := Iff.rfl
@[simp] theorem wp_mPar {i j : Nat} : Wp (mPar i j al ro) st postF ex ↔ Wp (al ro) st (parK i j ro postF) ex := by
  unfold mPar
  rw [wp_bnd]
  refine Wp.congr fun ds s => ?_
  match ds with
  | [] => exact Iff.rfl
  | [d] => exact Iff.rfl
  | [d, e] => exact Iff.rfl
  | d :: e :: f :: r => exact Iff.rfl
@[simp] theorem wp_mRet : Wp (mRet a ro) st postF ex ↔ Wp (a ro) st (fun d s1 => postF (.rt d) s1) ex := by unfold mRet; simp only [wp_bnd, wp_ret]
@[simp] theorem wp_mRetN : Wp (mRetN ro) st postF ex ↔ postF (.rt .non) st := Iff.rfl
@[simp] theorem wp_mExpr : Wp (mExpr a ro) st postF ex ↔ Wp (a ro) st (fun d s1 => postF (.nx ro) s1) ex := by unfold mExpr; simp only [wp_bnd, wp_ret]
@[simp] theorem wp_mIf : Wp (mIf p m n ro) st postF ex ↔ Wp (p ro) st (fun x s1 => if x = true then Wp (m ro) s1 postF ex else Wp (n ro) s1 postF ex) ex := by unfold mIf; simp only [wp_bnd, wp_ite]
@[simp] theorem wp_mBrk : Wp (mBrk ro) st postF ex ↔ postF (.bk ro) st := Iff.rfl
@[simp] theorem wp_mNever : Wp (mNever ro) st postF ex ↔ False := Iff.rfl
@[simp] theorem wp_mSetI : Wp (mSetI a b c ro) st postF ex ↔ Wp (a ro) st (fun x s1 => Wp (b ro) s1 (fun d s2 => Wp (c ro) s2 (fun k s3 => Wp (setD d k x) s3 (fun _ s4 => postF (.nx ro) s4) ex) ex) ex) ex := by unfold mSetI; simp only [wp_bnd, wp_ret]
def fnK (post : Da → Store → Prop) (f : Fl) (st : Store) : Prop := match f with
  | .nx _ => post .non st
  | .rt d => post d st
  | _ => False
@[simp] theorem fnK_nx : fnK post (.nx ro) st ↔ post .non st := Iff.rfl
@[simp] theorem fnK_rt {d : Da} : fnK post (.rt d) st ↔ post d st := Iff.rfl
@[simp] theorem wp_fnM {k : Nat} {ds : List Da} : Wp (fnM k m ds) st post ex ↔ Wp (m (startS k ds)) st (fnK post) ex := by
  unfold fnM
  rw [wp_bnd]
  exact Wp.congr fun f s => by cases f <;> exact Iff.rfl
/-! loops -/
def loopP (I : Sl → Store → Prop) (postF : Fl → Store → Prop) (f : Fl) (st : Store) : Prop := match f with
  | .nx ro => I ro st
  | .ct ro => I ro st
  | .bk ro => postF (.nx ro) st
  | .rt d => postF (.rt d) st
@[simp] theorem loopP_nx {I : Sl → Store → Prop} : loopP I postF (.nx ro) st ↔ I ro st := Iff.rfl
@[simp] theorem loopP_ct {I : Sl → Store → Prop} : loopP I postF (.ct ro) st ↔ I ro st := Iff.rfl
@[simp] theorem loopP_bk {I : Sl → Store → Prop} : loopP I postF (.bk ro) st ↔ postF (.nx ro) st := Iff.rfl
@[simp] theorem loopP_rt {I : Sl → Store → Prop} {d : Da} : loopP I postF (.rt d) st ↔ postF (.rt d) st := Iff.rfl
theorem wp_loopK {go : Sl → Mo Fl} {f : Fl} (h : loopP (fun ro st => Wp (go ro) st postF ex) postF f st) : Wp (loopK go f) st postF ex := by
  cases f <;> exact h
theorem wp_forGo {all : List Da} {t : Tg} {body : Sl → Mo Fl} (I : Nat → Sl → Store → Prop) {xs : List Da} (hs : ∀ (i : Nat) (x : Da) (ro : Sl) (st : Store), xs[i]? = some x → I i ro st → ∃ ro1, t x ro = some ro1 ∧ Wp (body ro1) st (loopP (I (i + 1)) postF) ex)
    (hd : ∀ ro st, I xs.length ro st → postF (.nx ro) st) : ∀ (k : Nat) (ro : Sl) (st : Store), k ≤ xs.length → I k ro st → Wp (forGo none all t body (xs.drop k) ro) st postF ex := by
  intro k
  induction hn : xs.length - k generalizing k with
  | zero =>
    intro ro st hk h
    have e : k = xs.length := by omega
    subst e
    rw [List.drop_length]
    exact hd ro st h
  | succ n ih =>
    intro ro st hk h
    have hlt : k < xs.length := by omega
    rw [List.drop_eq_getElem_cons hlt]
    obtain ⟨ro1, h1, h2⟩ := hs k _ ro st (List.getElem?_eq_getElem hlt) h
    show Wp (fun st => if chk none all st = true then (match t xs[k] ro with | some ro1 => bnd (body ro1) (loopK (forGo none all t body (xs.drop (k + 1)))) st | none => .bad) else .bad) st postF ex
    rw [h1]
    show Wp (bnd (body ro1) (loopK (forGo none all t body (xs.drop (k + 1))))) st postF ex
    rw [wp_bnd]
    refine h2.mono fun f st' hf => wp_loopK ?_
    cases f with
    | nx ro' => exact ih (k + 1) (by omega) ro' st' hlt hf
    | ct ro' => exact ih (k + 1) (by omega) ro' st' hlt hf
    | bk ro' => exact hf
    | rt d => exact hf
theorem wp_for {s : Sl → Mo Src} {t : Tg} {body : Sl → Mo Fl} : Wp (mFor s t body ro) st postF ex ↔ Wp (s ro) st (fun s st' => Wp (forGo s.o s.xs t body s.xs ro) st' postF ex) ex := by unfold mFor; rw [wp_bnd]
/-- a for over data: what holds between the turns -/
theorem wp_forI {all : List Da} {t : Tg} {body : Sl → Mo Fl} {xs : List Da} (I : Nat → Sl → Store → Prop) (h0 : I 0 ro st)
    (hs : ∀ (i : Nat) (x : Da) (ro : Sl) (st : Store), xs[i]? = some x → I i ro st → ∃ ro1, t x ro = some ro1 ∧ Wp (body ro1) st (loopP (I (i + 1)) postF) ex)
    (hd : ∀ ro st, I xs.length ro st → postF (.nx ro) st) : Wp (forGo none all t body xs ro) st postF ex := wp_forGo I hs hd 0 ro st (Nat.zero_le _) h0
theorem wp_whileI {body : Sl → Mo Fl} (I : Nat → Sl → Store → Prop) (hs : ∀ (k : Nat) (ro : Sl) (st : Store), I k ro st → Wp (p ro) st (fun c s1 => if c = true then Wp (body ro) s1 (loopP (fun ro' s2 => ∃ j, j < k ∧ I j ro' s2) postF) ex else postF (.nx ro) s1) ex) :
    ∀ (fuel k : Nat) (ro : Sl) (st : Store), k < fuel → I k ro st → Wp (whileF p body fuel ro) st postF ex := by
  intro fuel
  induction fuel with
  | zero => intro k ro st h; omega
  | succ n ih =>
    intro k ro st hk h
    unfold whileF
    rw [wp_bnd]
    refine (hs k ro st h).mono fun c s1 hc => ?_
    rw [wp_ite]
    cases c with
    | true =>
      rw [if_pos rfl] at hc ⊢
      rw [wp_bnd]
      refine hc.mono fun f s2 hf => wp_loopK ?_
      cases f with
      | nx ro' => obtain ⟨j, hj, hI⟩ := hf; exact ih j ro' s2 (by omega) hI
      | ct ro' => obtain ⟨j, hj, hI⟩ := hf; exact ih j ro' s2 (by omega) hI
      | bk ro' => exact hf
      | rt d => exact hf
    | false =>
      rw [if_neg Bool.false_ne_true] at hc ⊢
      exact hc
theorem wp_compGo {all : List Da} {t : Tg} {p : Sl → Mo Bool} {e : Sl → Mo Da} {xs : List Da} (I : Nat → List Da → Store → Prop) (hl : ∀ i acc st, I i acc st → acc.length ≤ i) (hx : xs.length < szD)
    (hs : ∀ (i : Nat) (x : Da) (acc : List Da) (st : Store), xs[i]? = some x → I i acc st → ∃ ro1, t x ro = some ro1 ∧ Wp (p ro1) st (fun c s1 => if c = true then Wp (e ro1) s1 (fun y s2 => I (i + 1) (acc ++ [y]) s2) noEx else I (i + 1) acc s1) noEx)
    (hd : ∀ acc st, I xs.length acc st → postL acc st) : ∀ (k : Nat) (acc : List Da) (st : Store), k ≤ xs.length → I k acc st → Wp (compGo none all t p e ro (xs.drop k) acc) st postL ex := by
  intro k
  induction hn : xs.length - k generalizing k with
  | zero =>
    intro acc st hk h
    have e : k = xs.length := by omega
    subst e
    rw [List.drop_length]
    exact hd acc st h
  | succ n ih =>
    intro acc st hk h
    have hlt : k < xs.length := by omega
    rw [List.drop_eq_getElem_cons hlt]
    obtain ⟨ro1, h1, h2⟩ := hs k _ acc st (List.getElem?_eq_getElem hlt) h
    have hacc := hl k acc st h
    show Wp (fun st => if chk none all st = true then (match t xs[k] ro with | some ro1 => bnd (noX (p ro1)) (fun c => if c = true then bnd (noX (e ro1)) (fun y => if acc.length < szD then compGo none all t p e ro (xs.drop (k + 1)) (acc ++ [y]) else nop) else compGo none all t p e ro (xs.drop (k + 1)) acc) st | none => .bad) else .bad) st postL ex
    rw [h1]
    show Wp (bnd (noX (p ro1)) _) st postL ex
    rw [wp_bnd, wp_noX]
    refine h2.mono fun c s1 hc => ?_
    rw [wp_ite]
    cases c with
    | true =>
      rw [if_pos rfl] at hc ⊢
      rw [wp_bnd, wp_noX]
      refine hc.mono fun y s2 hy => ?_
      rw [wp_ite, if_pos (show acc.length < szD by omega)]
      exact ih (k + 1) (by omega) _ s2 hlt hy
    | false =>
      rw [if_neg Bool.false_ne_true] at hc ⊢
      exact ih (k + 1) (by omega) _ s1 hlt hc
@[simp] theorem wp_comp_nil {all : List Da} {t : Tg} {p : Sl → Mo Bool} {e : Sl → Mo Da} {acc : List Da} : Wp (compGo none all t p e ro [] acc) st postL ex ↔ postL acc st := Iff.rfl
@[simp] theorem wp_comp_cons {all : List Da} {t : Tg} {p : Sl → Mo Bool} {e : Sl → Mo Da} {acc r : List Da} {x : Da} : Wp (compGo none all t p e ro (x :: r) acc) st postL ex ↔ ∃ ro1, t x ro = some ro1 ∧ Wp (p ro1) st (fun c s1 => if c = true then Wp (e ro1) s1 (fun y s2 => if acc.length < 1000000 then Wp (compGo none all t p e ro r (acc ++ [y])) s2 postL ex else False) noEx else Wp (compGo none all t p e ro r acc) s1 postL ex) noEx := by
  cases q : t x ro with
  | none =>
    refine ⟨fun h => ?_, fun ⟨_, h, _⟩ => nomatch h⟩
    have h' : Wp (fun st => if chk none all st = true then (match t x ro with | some ro1 => bnd (noX (p ro1)) (fun c => if c = true then bnd (noX (e ro1)) (fun y => if acc.length < szD then compGo none all t p e ro r (acc ++ [y]) else nop) else compGo none all t p e ro r acc) st | none => .bad) else .bad) st postL ex := h
    rw [q] at h'
    exact h'.elim
  | some ro1 =>
    have hh : Wp (compGo none all t p e ro (x :: r) acc) st postL ex ↔ Wp (fun st => if chk none all st = true then (match t x ro with | some ro1 => bnd (noX (p ro1)) (fun c => if c = true then bnd (noX (e ro1)) (fun y => if acc.length < szD then compGo none all t p e ro r (acc ++ [y]) else nop) else compGo none all t p e ro r acc) st | none => .bad) else .bad) st postL ex := Iff.rfl
    rw [hh, q]
    have hk : Wp (fun st => if chk none all st = true then (match some ro1 with | some ro1 => bnd (noX (p ro1)) (fun c => if c = true then bnd (noX (e ro1)) (fun y => if acc.length < szD then compGo none all t p e ro r (acc ++ [y]) else nop) else compGo none all t p e ro r acc) st | none => .bad) else .bad) st postL ex ↔ Wp (bnd (noX (p ro1)) (fun c => if c = true then bnd (noX (e ro1)) (fun y => if acc.length < szD then compGo none all t p e ro r (acc ++ [y]) else nop) else compGo none all t p e ro r acc)) st postL ex := Iff.rfl
    rw [hk]
    simp only [wp_bnd, wp_noX, wp_ite, wp_nop, Option.some.injEq, exists_eq_left']
@[simp] theorem wp_for_nil {all : List Da} {t : Tg} {body : Sl → Mo Fl} : Wp (forGo none all t body [] ro) st postF ex ↔ postF (.nx ro) st := Iff.rfl
@[simp] theorem wipe_nil : wipeS ro [] = ro := rfl
@[simp] theorem wipe_cons {v : Nat} {vs : List Nat} : wipeS ro (v :: vs) = (wipeS ro vs).set v none := rfl
@[simp] theorem cut_to2 {x y : Da} {r : List Da} : cutD (x :: y :: r) none (some 2) = [x, y] := by
  unfold cutD
  show List.take (min 2 (r.length + 1 + 1) - 0) (x :: y :: r) = [x, y]
  rw [show min 2 (r.length + 1 + 1) - 0 = 2 by omega]
  rfl
theorem wp_lComp {s : Sl → Mo Src} {t : Tg} {p : Sl → Mo Bool} {e : Sl → Mo Da} {vs : List Nat} : Wp (lComp s t p e vs ro) st postL ex ↔ Wp (s ro) st (fun s st' => Wp (compGo s.o s.xs t p e (wipeS ro vs) s.xs []) st' postL ex) ex := by unfold lComp; rw [wp_bnd]
theorem wp_compI {all : List Da} {t : Tg} {p : Sl → Mo Bool} {e : Sl → Mo Da} {xs : List Da} (I : Nat → List Da → Store → Prop) (h0 : I 0 [] st) (hl : ∀ i acc st, I i acc st → acc.length ≤ i) (hx : xs.length < szD)
    (hs : ∀ (i : Nat) (x : Da) (acc : List Da) (st : Store), xs[i]? = some x → I i acc st → ∃ ro1, t x ro = some ro1 ∧ Wp (p ro1) st (fun c s1 => if c = true then Wp (e ro1) s1 (fun y s2 => I (i + 1) (acc ++ [y]) s2) noEx else I (i + 1) acc s1) noEx)
    (hd : ∀ acc st, I xs.length acc st → postL acc st) : Wp (compGo none all t p e ro xs []) st postL ex := wp_compGo I hl hx hs hd 0 [] st (Nat.zero_le _) h0
/-- a comprehension that changes nothing -/
theorem wp_compF {α : Type} {all : List Da} {t : Tg} {p : Sl → Mo Bool} {e : Sl → Mo Da} {rs : List α} {f g : α → Da} {P : α → Bool} (hx : rs.length < 1000000)
    (h : ∀ x ∈ rs, ∃ ro1, t (f x) ro = some ro1 ∧ Wp (p ro1) st (fun c s => c = P x ∧ s = st) noEx ∧ (P x = true → Wp (e ro1) st (fun d s => d = g x ∧ s = st) noEx))
    (hp : postL ((rs.filter P).map g) st) : Wp (compGo none all t p e ro (rs.map f) []) st postL ex := by
  refine wp_compI (fun i acc s => s = st ∧ acc = ((rs.take i).filter P).map g) ⟨rfl, rfl⟩ (fun i acc s q => ?_) (by simpa using hx) ?_ ?_
  · rw [q.2, List.length_map]
    exact Nat.le_trans (List.length_filter_le _ _) (by simp; omega)
  · rintro i x acc s hq ⟨rfl, rfl⟩
    rw [List.getElem?_map] at hq
    obtain ⟨y, hy, rfl⟩ := Option.map_eq_some_iff.mp hq
    obtain ⟨ro1, h1, h2, h3⟩ := h y (List.mem_of_getElem? hy)
    refine ⟨ro1, h1, h2.mono ?_⟩
    rintro c s1 ⟨rfl, rfl⟩
    have ht : rs.take (i + 1) = rs.take i ++ [y] := by rw [List.take_add_one, hy]; rfl
    cases q : P y with
    | true =>
      rw [if_pos rfl]
      refine (h3 q).mono ?_
      rintro d s2 ⟨rfl, rfl⟩
      refine ⟨rfl, ?_⟩
      rw [ht, List.filter_append, List.map_append]
      simp [q]
    | false =>
      rw [if_neg Bool.false_ne_true]
      refine ⟨rfl, ?_⟩
      rw [ht, List.filter_append, List.map_append]
      simp [q]
  · rintro acc s ⟨rfl, rfl⟩
    rw [List.take_of_length_le (by simp)]
    exact hp
variable {postS : Src → Store → Prop}
@[simp] theorem wp_iV : Wp (iV a ro) st postS ex ↔ Wp (a ro) st (fun d s1 => Wp (srcV d) s1 postS ex) ex := by unfold iV; rw [wp_bnd]
@[simp] theorem wp_srcV_l {xs : List Da} : Wp (srcV (.lst xs)) st postS ex ↔ postS ⟨xs, none⟩ st := Iff.rfl
@[simp] theorem wp_srcV_t {xs : List Da} : Wp (srcV (.tup xs)) st postS ex ↔ postS ⟨xs, none⟩ st := Iff.rfl
@[simp] theorem wp_iR1 : Wp (iR1 al ro) st postS ex ↔ Wp (al ro) st (fun d s1 => Wp (srcR1 d) s1 postS ex) ex := by unfold iR1; rw [wp_bnd]
@[simp] theorem wp_iR2 : Wp (iR2 al ro) st postS ex ↔ Wp (al ro) st (fun d s1 => Wp (srcR2 d) s1 postS ex) ex := by unfold iR2; rw [wp_bnd]
@[simp] theorem wp_srcR1 {j : Int} : Wp (srcR1 [.int j]) st postS ex ↔ if big j then postS ⟨rngL 0 j.toNat, none⟩ st else False := by unfold srcR1; simp only [wp_ite, wp_ret, wp_nop]
@[simp] theorem wp_srcR2 {i j : Int} : Wp (srcR2 [.int i, .int j]) st postS ex ↔ if big i ∧ big j then postS ⟨rngL i (j - i).toNat, none⟩ st else False := by unfold srcR2; simp only [wp_ite, wp_ret, wp_nop]
@[simp] theorem wp_yes : Wp (tYes_ ro) st postB ex ↔ postB true st := Iff.rfl
@[simp] theorem gN_eq {i : Nat} {d : Da} : gN i d ro = some (ro.set i (some d)) := rfl
@[simp] theorem gsN_eq : gsN [] ro = some ro := rfl
@[simp] theorem gsC_eq {t : Tg} {u : Tgs} {d : Da} {r : List Da} : gsC t u (d :: r) ro = (t d ro).bind fun ro1 => u r ro1 := rfl
@[simp] theorem gT_eq {k : Nat} {t : Tgs} {xs : List Da} : gT k t (.tup xs) ro = if xs.length = k then t xs ro else none := rfl
variable {postP : Option Int → Store → Prop}
@[simp] theorem wp_noP : Wp (noP ro) st postP ex ↔ postP none st := Iff.rfl
@[simp] theorem wp_soP : Wp (soP a ro) st postP ex ↔ Wp (a ro) st (fun d s1 => ∃ i, d = .int i ∧ postP (some i) s1) ex := by
  unfold soP
  rw [wp_bnd]
  refine Wp.congr fun d s => ?_
  cases d <;> simp
@[simp] theorem wp_eSl {f : Da → Option Int → Option Int → Mo Da} {lo hi : Sl → Mo (Option Int)} : Wp (eSl f a lo hi ro) st post ex ↔ Wp (a ro) st (fun d s1 => Wp (lo ro) s1 (fun l s2 => Wp (hi ro) s2 (fun h s3 => Wp (f d l h) s3 post ex) ex) ex) ex := by unfold eSl; simp only [wp_bnd]
@[simp] theorem wp_slA_t {xs : List Da} {lo hi : Option Int} : Wp (slA (.tup xs) lo hi) st post ex ↔ post (.tup (cutD xs lo hi)) st := Iff.rfl
@[simp] theorem wp_slA_l {xs : List Da} {lo hi : Option Int} : Wp (slA (.lst xs) lo hi) st post ex ↔ post (.lst (cutD xs lo hi)) st := Iff.rfl
end
/-! ### comparing data -/
theorem wp_eqB {neg : Bool} {d e : Da} {p q : PyData} {st : Store} {ex : Str → List Da → Store → Prop} {post : Da → Store → Prop} (h1 : pyD st d = some p) (h2 : pyD st e = some q) (s1 : SeqAt.shaped p = true) (s2 : SeqAt.shaped q = true) :
    Wp (eqB neg d e) st post ex ↔ post (.bl (if neg then !PyData.eqv p q else PyData.eqv p q)) st := by
  unfold Wp eqB
  rw [h1, h2]
  dsimp only
  rw [if_pos (by rw [s1, s2]; rfl)]
end CL
namespace CL
open PySem L2
/-! ### plain data of a depth, and how they compare -/
mutual
def toPy : Da → PyData
  | .non => .none
  | .bl b => .bool b
  | .int i => .int i
  | .str s => .str s
  | .tup xs => .tuple (toPyL xs)
  | .lst xs => .list (toPyL xs)
  | .fro xs => .list (toPyL xs)
  | .han _ => .none
def toPyL : List Da → List PyData
  | [] => []
  | x :: xs => toPy x :: toPyL xs
end
mutual
def pl : Nat → Da → Bool
  | _, .non => true
  | _, .bl _ => true
  | _, .int _ => true
  | _, .str s => PyData.strOk s
  | 0, .tup _ => false
  | n + 1, .tup xs => plL n xs
  | 0, .lst _ => false
  | n + 1, .lst xs => plL n xs
  | 0, .fro _ => false
  | n + 1, .fro xs => plL n xs
  | _, .han _ => false
def plL : Nat → List Da → Bool
  | _, [] => true
  | n, x :: xs => pl n x && plL n xs
end
section
variable {hf : Nat → Option PyData}
mutual
theorem pl_py : ∀ (n : Nat) (d : Da), pl n d = true → pyW hf d = some (toPy d) ∧ (toPy d).canLay0 = true ∧ (toPy d).depth ≤ n
  | n, .non, h => by simp [pyW, toPy, PyData.canLay0, PyData.depth]
  | n, .bl b, h => by simp [pyW, toPy, PyData.canLay0, PyData.depth]
  | n, .int i, h => by simp [pyW, toPy, PyData.canLay0, PyData.depth]
  | n, .str s, h => by
    have h' : PyData.strOk s = true := by simpa [pl] using h
    simp [pyW, toPy, PyData.canLay0, PyData.depth, h']
  | 0, .tup xs, h => by simp [pl] at h
  | n + 1, .tup xs, h => by
    obtain ⟨h1, h2, h3⟩ := plL_py n xs (by simpa [pl] using h)
    simp [pyW, toPy, PyData.canLay0, PyData.depth, h1, h2, h3]
  | 0, .lst xs, h => by simp [pl] at h
  | n + 1, .lst xs, h => by
    obtain ⟨h1, h2, h3⟩ := plL_py n xs (by simpa [pl] using h)
    simp [pyW, toPy, PyData.canLay0, PyData.depth, h1, h2, h3]
  | 0, .fro xs, h => by simp [pl] at h
  | n + 1, .fro xs, h => by
    obtain ⟨h1, h2, h3⟩ := plL_py n xs (by simpa [pl] using h)
    simp [pyW, toPy, PyData.canLay0, PyData.depth, h1, h2, h3]
  | n, .han k, h => by simp [pl] at h
theorem plL_py : ∀ (n : Nat) (ds : List Da), plL n ds = true → pyWL hf ds = some (toPyL ds) ∧ PyData.canLayAll0 (toPyL ds) = true ∧ PyData.depthAll (toPyL ds) ≤ n
  | n, [], h => by simp [pyWL, toPyL, PyData.canLayAll0, PyData.depthAll]
  | n, x :: xs, h => by
    have h' : pl n x = true ∧ plL n xs = true := by simpa [plL] using h
    obtain ⟨a1, a2, a3⟩ := pl_py n x h'.1
    obtain ⟨b1, b2, b3⟩ := plL_py n xs h'.2
    simp only [pyWL, toPyL, PyData.canLayAll0, PyData.depthAll, a1, a2, b1, b2]
    refine ⟨trivial, rfl, ?_⟩
    omega
end
end
theorem plL_all : ∀ (n : Nat) (ds : List Da), plL n ds = ds.all (pl n)
  | n, [] => by simp [plL]
  | n, x :: xs => by simp [plL, plL_all n xs]
theorem toPyL_map : ∀ ds : List Da, toPyL ds = ds.map toPy
  | [] => by simp [toPyL]
  | x :: xs => by simp [toPyL, toPyL_map xs]
mutual
theorem pl_le : ∀ (n m : Nat) (d : Da), n ≤ m → pl n d = true → pl m d = true
  | _, _, .non, _, _ => by simp [pl]
  | _, _, .bl _, _, _ => by simp [pl]
  | _, _, .int _, _, _ => by simp [pl]
  | _, _, .str _, _, h => by simpa [pl] using h
  | 0, _, .tup _, _, h => by simp [pl] at h
  | 0, _, .lst _, _, h => by simp [pl] at h
  | 0, _, .fro _, _, h => by simp [pl] at h
  | n + 1, 0, _, hl, _ => by omega
  | n + 1, m + 1, .tup xs, hl, h => by simp only [pl] at h ⊢; exact plL_le n m xs (by omega) h
  | n + 1, m + 1, .lst xs, hl, h => by simp only [pl] at h ⊢; exact plL_le n m xs (by omega) h
  | n + 1, m + 1, .fro xs, hl, h => by simp only [pl] at h ⊢; exact plL_le n m xs (by omega) h
  | _, _, .han _, _, h => by simp [pl] at h
theorem plL_le : ∀ (n m : Nat) (d : List Da), n ≤ m → plL n d = true → plL m d = true
  | _, _, [], _, _ => by simp [plL]
  | n, m, x :: xs, hl, h => by
    have h' : pl n x = true ∧ plL n xs = true := by simpa [plL] using h
    simp only [plL, pl_le n m x hl h'.1, plL_le n m xs hl h'.2]
    rfl
end
/-- how two data compare -/
def deq (d e : Da) : Bool := PyData.eqv (toPy d) (toPy e)
def deqL (d e : List Da) : Bool := PyData.eqvAll (toPyL d) (toPyL e)
structure PyIs (st : Store) (d : Da) (p : PyData) : Prop where
  py : pyD st d = some p
  sh : SeqAt.shaped p = true
theorem pl_is {st : Store} {d : Da} {n : Nat} (hn : n ≤ 64) (h : pl n d = true) : PyIs st d (toPy d) := by
  obtain ⟨h1, h2, h3⟩ := pl_py (hf := hfOf st) n d h
  refine ⟨h1, ?_⟩
  unfold SeqAt.shaped
  rw [h2, decide_eq_true (by omega)]
  rfl
theorem han_is {st : Store} {k n : Nat} {xs : List Da} (hn : n ≤ 63) (h : st[k]? = some (.lst xs)) (hp : plL n xs = true) : PyIs st (.han k) (.list (toPyL xs)) := by
  obtain ⟨h1, h2, h3⟩ := plL_py (hf := fun _ => none) n xs hp
  refine ⟨?_, ?_⟩
  · show pyW (hfOf st) (.han k) = _
    unfold pyW hfOf
    rw [h]
    dsimp only
    rw [show py0L xs = some (toPyL xs) from h1]
    rfl
  · unfold SeqAt.shaped
    rw [show PyData.canLay0 (.list (toPyL xs)) = true by simpa [PyData.canLay0] using h2, decide_eq_true (by simp only [PyData.depth]; omega)]
    rfl
theorem deq_refl {d : Da} {n : Nat} (h : pl n d = true) : deq d d = true := SeqAt.eqv_refl _ (pl_py (hf := fun _ => none) n d h).2.1
theorem deqL_refl {d : List Da} {n : Nat} (h : plL n d = true) : deqL d d = true := SeqAt.eqvAll_refl _ (plL_py (hf := fun _ => none) n d h).2.1
section
variable {st : Store} {ex : Str → List Da → Store → Prop} {post : Da → Store → Prop}
theorem wp_eqI {neg : Bool} {d e : Da} {p q : PyData} (h1 : PyIs st d p) (h2 : PyIs st e q) : Wp (eqB neg d e) st post ex ↔ post (.bl (if neg then !PyData.eqv p q else PyData.eqv p q)) st := wp_eqB h1.py h2.py h1.sh h2.sh
theorem wp_eq {d e : Da} (h1 : pl 60 d = true) (h2 : pl 60 e = true) : Wp (eqB false d e) st post ex ↔ post (.bl (deq d e)) st := wp_eqI (pl_is (by decide) h1) (pl_is (by decide) h2)
theorem wp_ne {d e : Da} (h1 : pl 60 d = true) (h2 : pl 60 e = true) : Wp (eqB true d e) st post ex ↔ post (.bl (!deq d e)) st := wp_eqI (pl_is (by decide) h1) (pl_is (by decide) h2)
@[simp] theorem wp_eq_i {i j : Int} : Wp (eqB false (.int i) (.int j)) st post ex ↔ post (.bl (decide (i = j))) st := by
  rw [wp_eq (by simp [pl]) (by simp [pl])]
  simp [deq, toPy, PyData.eqv, BEq.beq]
@[simp] theorem wp_ne_i {i j : Int} : Wp (eqB true (.int i) (.int j)) st post ex ↔ post (.bl (!decide (i = j))) st := by
  rw [wp_ne (by simp [pl]) (by simp [pl])]
  simp [deq, toPy, PyData.eqv, BEq.beq]
end
@[simp] theorem deq_int {i j : Int} : deq (.int i) (.int j) = decide (i = j) := by simp [deq, toPy, PyData.eqv, BEq.beq]
@[simp] theorem deq_non_int {j : Int} : deq .non (.int j) = false := by simp [deq, toPy, PyData.eqv]
@[simp] theorem deq_int_non {j : Int} : deq (.int j) .non = false := by simp [deq, toPy, PyData.eqv]
@[simp] theorem deq_non : deq .non .non = true := by simp [deq, toPy, PyData.eqv]
@[simp] theorem deq_bl {i j : Bool} : deq (.bl i) (.bl j) = (i == j) := by simp [deq, toPy, PyData.eqv]
@[simp] theorem deq_tup {i j : List Da} : deq (.tup i) (.tup j) = deqL i j := by simp [deq, deqL, toPy, PyData.eqv]
@[simp] theorem deq_lst {i j : List Da} : deq (.lst i) (.lst j) = deqL i j := by simp [deq, deqL, toPy, PyData.eqv]
@[simp] theorem deq_fro {i j : List Da} : deq (.fro i) (.lst j) = deqL i j := by simp [deq, deqL, toPy, PyData.eqv]
@[simp] theorem deq_tup_lst {i j : List Da} : deq (.tup i) (.lst j) = false := by simp [deq, toPy, PyData.eqv]
@[simp] theorem deq_lst_tup {i j : List Da} : deq (.lst i) (.tup j) = false := by simp [deq, toPy, PyData.eqv]
@[simp] theorem deqL_nil : deqL [] [] = true := by simp [deqL, toPyL, PyData.eqvAll]
@[simp] theorem deqL_cons {x y : Da} {xs ys : List Da} : deqL (x :: xs) (y :: ys) = (deq x y && deqL xs ys) := by simp [deqL, deq, toPyL, PyData.eqvAll]
@[simp] theorem deqL_nc {y : Da} {ys : List Da} : deqL [] (y :: ys) = false := by simp [deqL, toPyL, PyData.eqvAll]
@[simp] theorem deqL_cn {y : Da} {ys : List Da} : deqL (y :: ys) [] = false := by simp [deqL, toPyL, PyData.eqvAll]
theorem deqL_ne {xs : List Da} : deqL xs [] = decide (xs = []) := by cases xs <;> simp
section
variable {st : Store} {ex : Str → List Da → Store → Prop} {post : Da → Store → Prop}
@[simp] theorem wp_ne_nil : Wp (eqB true (.lst []) (.lst [])) st post ex ↔ post (.bl false) st := by
  rw [wp_ne (by simp [pl, plL]) (by simp [pl, plL])]; simp
@[simp] theorem wp_eq_nil : Wp (eqB false (.lst []) (.lst [])) st post ex ↔ post (.bl true) st := by
  rw [wp_eq (by simp [pl, plL]) (by simp [pl, plL])]; simp
theorem wp_ne_cons {x : Da} {xs : List Da} (h : plL 59 (x :: xs) = true) : Wp (eqB true (.lst (x :: xs)) (.lst [])) st post ex ↔ post (.bl true) st := by
  rw [wp_ne (by simp only [pl]; exact h) (by simp [pl, plL])]; simp
theorem wp_eq_cons {x : Da} {xs : List Da} (h : plL 59 (x :: xs) = true) : Wp (eqB false (.lst (x :: xs)) (.lst [])) st post ex ↔ post (.bl false) st := by
  rw [wp_eq (by simp only [pl]; exact h) (by simp [pl, plL])]; simp
end
theorem wp_eq_hnil {neg : Bool} {n m : Nat} {xs : List Da} {st : Store} {ex : Str → List Da → Store → Prop} {post : Da → Store → Prop} (hm : m ≤ 60) (h : st[n]? = some (.lst xs)) (hp : plL m xs = true) : Wp (eqB neg (.han n) (.lst [])) st post ex ↔ post (.bl (if neg then !decide (xs = []) else decide (xs = []))) st := by
  rw [wp_eqI (han_is (by omega) h hp) (pl_is (n := 1) (by decide) (by simp [pl, plL]))]
  have : PyData.eqv (.list (toPyL xs)) (toPy (.lst [])) = decide (xs = []) := by
    cases xs <;> simp [toPy, toPyL, PyData.eqv, PyData.eqvAll]
  rw [this]
theorem plL_ints (n : Nat) : ∀ ns : List Int, plL n (ns.map Da.int) = true
  | [] => by simp [plL]
  | x :: xs => by simp [plL, pl, plL_ints n xs]
end CL
namespace CL
open PySem L2
section
variable {st : Store} {ex : Str → List Da → Store → Prop} {post : Da → Store → Prop} {postF : Fl → Store → Prop} {postS : Src → Store → Prop} {a b : Sl → Mo Da} {al kl : Sl → Mo (List Da)} {ro : Sl} {cs : List Str} {f c m : Str}
@[simp] theorem wp_eFld : Wp (eFld cs f a ro) st post ex ↔ Wp (a ro) st (fun d s1 => Wp (fldD cs f d) s1 post ex) ex := by unfold eFld; simp only [wp_bnd]
theorem wp_fldD {n : Nat} {c : Str} {fs : List (Str × Da)} {x : Da} (h : st[n]? = some (.ins c fs)) (hc : c ∈ cs) (hx : fs.lookup f = some x) : Wp (fldD cs f (.han n)) st post ex ↔ post x st := by
  unfold Wp fldD; dsimp only; rw [h]; dsimp only; rw [if_pos hc, hx]
@[simp] theorem wp_mFld : Wp (mFld cs f a b ro) st postF ex ↔ Wp (a ro) st (fun x s1 => Wp (b ro) s1 (fun d s2 => Wp (setFD cs f d x) s2 (fun _ s3 => postF (.nx ro) s3) ex) ex) ex := by unfold mFld; simp only [wp_bnd, wp_ret]
theorem wp_setFD {n : Nat} {c : Str} {fs : List (Str × Da)} {x : Da} {post : Unit → Store → Prop} (h : st[n]? = some (.ins c fs)) (hc : c ∈ cs) (hl : fs.length < 1000) : Wp (setFD cs f (.han n) x) st post ex ↔ post () (st.set n (.ins c (putD f x fs))) := by
  unfold Wp setFD; dsimp only; rw [h]; dsimp only; rw [if_pos ⟨hc, hl⟩]
@[simp] theorem wp_eMeth {g : List Da → Mo Da} : Wp (eMeth c m g a al ro) st post ex ↔ Wp (a ro) st (fun d s1 => Wp (isIns c m d) s1 (fun _ s2 => Wp (al ro) s2 (fun ds s3 => Wp (g (d :: ds)) s3 post ex) ex) ex) ex := by unfold eMeth; simp only [wp_bnd]
theorem wp_isIns {n : Nat} {fs : List (Str × Da)} {post : Unit → Store → Prop} (h : st[n]? = some (.ins c fs)) (hl : fs.lookup m = none) : Wp (isIns c m (.han n)) st post ex ↔ post () st := by
  unfold Wp isIns; dsimp only; rw [h]; dsimp only; rw [if_pos ⟨rfl, hl⟩]
@[simp] theorem wp_eMake {g : List Da → Mo Da} : Wp (eMake c g al ro) st post ex ↔ Wp (al ro) st (fun ds s1 => Wp (makeD c g ds) s1 post ex) ex := by unfold eMake; simp only [wp_bnd]
@[simp] theorem wp_isNon {post : Unit → Store → Prop} : Wp (isNon .non) st post ex ↔ post () st := Iff.rfl
theorem wp_makeD {g : List Da → Mo Da} {ds : List Da} : Wp (makeD c g ds) st post ex ↔ Wp (g (.han st.length :: ds)) (st ++ [.ins c []]) (fun r s2 => Wp (isNon r) s2 (fun _ s3 => post (.han st.length) s3) ex) ex := by
  show Wp (bnd (newI c) (fun _ => bnd (g (.han st.length :: ds)) fun r => bnd (isNon r) fun _ => ret (.han st.length))) st post ex ↔ _
  rw [wp_bnd]
  show Wp (bnd (g (.han st.length :: ds)) fun r => bnd (isNon r) fun _ => ret (.han st.length)) (st ++ [.ins c []]) post ex ↔ _
  simp only [wp_bnd, wp_ret]
theorem wp_eMakeK {g : List Da → Mo Da} {n1 k : Nat} {gD : List Da → List Da → List Da} : Wp (eMakeK c g n1 k gD al kl ro) st post ex ↔ Wp (al ro) st (fun ds s1 => Wp (kl ro) s1 (fun es s2 => if ds.length = n1 ∧ es.length = k then Wp (g (gD (.han s2.length :: ds) es)) (s2 ++ [.ins c []]) (fun r s3 => Wp (isNon r) s3 (fun _ s4 => post (.han s2.length) s4) ex) ex else False) ex) ex := by
  unfold eMakeK
  rw [wp_bnd]
  refine Wp.congr fun ds s1 => ?_
  rw [wp_bnd]
  refine Wp.congr fun es s2 => ?_
  by_cases h : ds.length = n1 ∧ es.length = k
  · rw [if_pos h]
    show Wp (fun st => if ds.length = n1 ∧ es.length = k then bnd (newI c) (fun _ => bnd (g (gD (.han st.length :: ds) es)) fun r => bnd (isNon r) fun _ => ret (.han st.length)) st else .bad) s2 post ex ↔ _
    have e : Wp (fun st => if ds.length = n1 ∧ es.length = k then bnd (newI c) (fun _ => bnd (g (gD (.han st.length :: ds) es)) fun r => bnd (isNon r) fun _ => ret (.han st.length)) st else .bad) s2 post ex ↔ Wp (bnd (newI c) (fun _ => bnd (g (gD (.han s2.length :: ds) es)) fun r => bnd (isNon r) fun _ => ret (.han s2.length))) s2 post ex := by
      unfold Wp
      dsimp only
      rw [if_pos h]
    rw [e, wp_bnd]
    show Wp (bnd (g (gD (.han s2.length :: ds) es)) fun r => bnd (isNon r) fun _ => ret (.han s2.length)) (s2 ++ [.ins c []]) post ex ↔ _
    simp only [wp_bnd, wp_ret]
  · rw [if_neg h]
    unfold Wp
    dsimp only
    rw [if_neg h]
@[simp] theorem wp_iR3 : Wp (iR3 al ro) st postS ex ↔ Wp (al ro) st (fun d s1 => Wp (srcR3 d) s1 postS ex) ex := by unfold iR3; rw [wp_bnd]
@[simp] theorem wp_srcR3 {i j c : Int} : Wp (srcR3 [.int i, .int j, .int c]) st postS ex ↔ if rgOk i j c then postS ⟨rngC i c (rgN i j c), none⟩ st else False := by unfold srcR3; simp only [wp_ite, wp_ret, wp_nop]
end
theorem char_inj {a b : Char} (h : a.toNat = b.toNat) : a = b := by
  apply Char.ext
  apply UInt32.toNat_inj.mp
  exact h
@[simp] theorem str_inj {a b : String} : Str.ofString a = Str.ofString b ↔ a = b := by
  refine ⟨fun h => ?_, fun h => by rw [h]⟩
  rw [Str.ofString_eq_toList, Str.ofString_eq_toList] at h
  have h1 : a.toList.map Char.toNat = b.toList.map Char.toNat := by
    have := congrArg (fun s => s.cps.toList) h
    simpa using this
  have h2 : a.toList = b.toList := by
    have : ∀ x y : List Char, x.map Char.toNat = y.map Char.toNat → x = y := by
      intro x
      induction x with
      | nil => intro y e; cases y with
        | nil => rfl
        | cons c r => simp at e
      | cons c r ih => intro y e; cases y with
        | nil => simp at e
        | cons d s => simp at e; rw [char_inj e.1, ih s e.2]
    exact this _ _ h1
  exact String.toList_inj.mp h2
@[simp] theorem str_beq {a b : String} : (Str.ofString a == Str.ofString b) = (a == b) := by
  by_cases h : a = b
  · subst h; simp
  · rw [beq_eq_false_iff_ne.mpr h, beq_eq_false_iff_ne.mpr fun z => h (str_inj.mp z)]
/-! ### a loop over a thing -/
theorem beqD_refl_all : (∀ d : Da, beqD d d = true) ∧ ∀ ds : List Da, beqL ds ds = true := by
  have h : ∀ n, (∀ d : Da, sizeOf d < n → beqD d d = true) ∧ ∀ ds : List Da, sizeOf ds < n → beqL ds ds = true := by
    intro n
    induction n with
    | zero => exact ⟨fun d h => by omega, fun d h => by omega⟩
    | succ n ih =>
      refine ⟨fun d h => ?_, fun ds h => ?_⟩
      · cases d with
        | non => rfl
        | bl b => simp [beqD]
        | int i => simp [beqD]
        | str s => simp [beqD]
        | tup xs => unfold beqD; exact ih.2 xs (by simp at h; omega)
        | lst xs => unfold beqD; exact ih.2 xs (by simp at h; omega)
        | fro xs => unfold beqD; exact ih.2 xs (by simp at h; omega)
        | han n => simp [beqD]
      · cases ds with
        | nil => rfl
        | cons x r =>
          unfold beqL
          rw [ih.1 x (by simp at h; omega), ih.2 r (by simp at h; omega)]
          rfl
  exact ⟨fun d => (h (sizeOf d + 1)).1 d (by omega), fun ds => (h (sizeOf ds + 1)).2 ds (by omega)⟩
theorem beqL_refl (ds : List Da) : beqL ds ds = true := beqD_refl_all.2 ds
theorem chk_han {st : Store} {n : Nat} {xs : List Da} (h : st[n]? = some (.lst xs)) : chk (some n) xs st = true := by
  unfold chk; dsimp only; rw [h]; exact beqL_refl xs
section
variable {ex : Str → List Da → Store → Prop} {postF : Fl → Store → Prop}
theorem wp_forGoH {n : Nat} {all : List Da} {t : Tg} {body : Sl → Mo Fl} (I : Nat → Sl → Store → Prop) {xs : List Da} (hk : ∀ i ro st, I i ro st → st[n]? = some (.lst all)) (hs : ∀ (i : Nat) (x : Da) (ro : Sl) (st : Store), xs[i]? = some x → I i ro st → ∃ ro1, t x ro = some ro1 ∧ Wp (body ro1) st (loopP (I (i + 1)) postF) ex)
    (hd : ∀ ro st, I xs.length ro st → postF (.nx ro) st) : ∀ (k : Nat) (ro : Sl) (st : Store), k ≤ xs.length → I k ro st → Wp (forGo (some n) all t body (xs.drop k) ro) st postF ex := by
  intro k
  induction hn : xs.length - k generalizing k with
  | zero =>
    intro ro st hle h
    have e : k = xs.length := by omega
    subst e
    rw [List.drop_length]
    have hc := chk_han (hk _ _ _ h)
    show Wp (fun st => if chk (some n) all st = true then .ok (.nx ro) st else .bad) st postF ex
    unfold Wp
    dsimp only
    rw [if_pos hc]
    exact hd ro st h
  | succ m ih =>
    intro ro st hle h
    have hlt : k < xs.length := by omega
    rw [List.drop_eq_getElem_cons hlt]
    have hc := chk_han (hk _ _ _ h)
    obtain ⟨ro1, h1, h2⟩ := hs k _ ro st (List.getElem?_eq_getElem hlt) h
    have e : Wp (forGo (some n) all t body (xs[k] :: xs.drop (k + 1)) ro) st postF ex ↔ Wp (bnd (body ro1) (loopK (forGo (some n) all t body (xs.drop (k + 1))))) st postF ex := by
      show Wp (fun st => if chk (some n) all st = true then (match t xs[k] ro with | some ro1 => bnd (body ro1) (loopK (forGo (some n) all t body (xs.drop (k + 1)))) st | none => .bad) else .bad) st postF ex ↔ _
      unfold Wp
      dsimp only
      rw [if_pos hc, h1]
    rw [e, wp_bnd]
    refine h2.mono fun f st' hf => wp_loopK ?_
    cases f with
    | nx ro' => exact ih (k + 1) (by omega) ro' st' hlt hf
    | ct ro' => exact ih (k + 1) (by omega) ro' st' hlt hf
    | bk ro' => exact hf
    | rt d => exact hf
/-- a for over a thing that stands still -/
theorem wp_forIh {n : Nat} {t : Tg} {body : Sl → Mo Fl} {xs : List Da} {ro : Sl} {st : Store} (I : Nat → Sl → Store → Prop) (h0 : I 0 ro st) (hk : ∀ i ro st, I i ro st → st[n]? = some (.lst xs))
    (hs : ∀ (i : Nat) (x : Da) (ro : Sl) (st : Store), xs[i]? = some x → I i ro st → ∃ ro1, t x ro = some ro1 ∧ Wp (body ro1) st (loopP (I (i + 1)) postF) ex)
    (hd : ∀ ro st, I xs.length ro st → postF (.nx ro) st) : Wp (forGo (some n) xs t body xs ro) st postF ex := wp_forGoH I hk hs hd 0 ro st (Nat.zero_le _) h0
theorem wp_srcV_h {n : Nat} {xs : List Da} {st : Store} {postS : Src → Store → Prop} (h : st[n]? = some (.lst xs)) : Wp (srcV (.han n)) st postS ex ↔ postS ⟨xs, some n⟩ st := by
  unfold Wp srcV; dsimp only; rw [h]
end
/-- a comprehension over a thing, that changes nothing -/
theorem wp_compFh {α : Type} {n : Nat} {t : Tg} {p : Sl → Mo Bool} {e : Sl → Mo Da} {rs : List α} {f g : α → Da} {P : α → Bool} {ro : Sl} {st : Store} {ex : Str → List Da → Store → Prop} {postL : List Da → Store → Prop} (hn : st[n]? = some (.lst (rs.map f))) (hx : rs.length < 1000000)
    (h : ∀ x ∈ rs, ∃ ro1, t (f x) ro = some ro1 ∧ Wp (p ro1) st (fun c s => c = P x ∧ s = st) noEx ∧ (P x = true → Wp (e ro1) st (fun d s => d = g x ∧ s = st) noEx))
    (hp : postL ((rs.filter P).map g) st) : Wp (compGo (some n) (rs.map f) t p e ro (rs.map f) []) st postL ex := by
  have hc := chk_han hn
  have go : ∀ (r2 r1 : List α), r1 ++ r2 = rs → Wp (compGo (some n) (rs.map f) t p e ro (r2.map f) ((r1.filter P).map g)) st postL ex := by
    intro r2
    induction r2 with
    | nil =>
      intro r1 h1
      rw [List.append_nil] at h1
      subst h1
      show Wp (fun st => if chk (some n) _ st = true then .ok _ st else .bad) st postL ex
      unfold Wp
      dsimp only
      rw [if_pos hc]
      exact hp
    | cons y r2 ih =>
      intro r1 h1
      obtain ⟨ro1, q1, q2, q3⟩ := h y (by rw [← h1]; simp)
      have hl : ((r1.filter P).map g).length < szD := by
        have := List.length_filter_le P r1
        have : rs.length = r1.length + (r2.length + 1) := by rw [← h1]; simp
        show _ < 1000000
        rw [List.length_map]
        omega
      have e1 : Wp (compGo (some n) (rs.map f) t p e ro (f y :: r2.map f) ((r1.filter P).map g)) st postL ex ↔ Wp (bnd (noX (p ro1)) (fun c => if c = true then bnd (noX (e ro1)) (fun z => if ((r1.filter P).map g).length < szD then compGo (some n) (rs.map f) t p e ro (r2.map f) ((r1.filter P).map g ++ [z]) else nop) else compGo (some n) (rs.map f) t p e ro (r2.map f) ((r1.filter P).map g))) st postL ex := by
        show Wp (fun st => if chk (some n) (rs.map f) st = true then (match t (f y) ro with | some ro1 => bnd (noX (p ro1)) (fun c => if c = true then bnd (noX (e ro1)) (fun z => if ((r1.filter P).map g).length < szD then compGo (some n) (rs.map f) t p e ro (r2.map f) ((r1.filter P).map g ++ [z]) else nop) else compGo (some n) (rs.map f) t p e ro (r2.map f) ((r1.filter P).map g)) st | none => .bad) else .bad) st postL ex ↔ _
        unfold Wp
        dsimp only
        rw [if_pos hc, q1]
      rw [List.map_cons, e1, wp_bnd, wp_noX]
      refine q2.mono ?_
      rintro c s1 ⟨rfl, rfl⟩
      rw [wp_ite]
      have hh := ih (r1 ++ [y]) (by simpa using h1)
      rw [List.filter_append, List.map_append] at hh
      cases q : P y with
      | true =>
        rw [if_pos rfl, wp_bnd, wp_noX]
        refine (q3 q).mono ?_
        rintro d s2 ⟨rfl, rfl⟩
        rw [wp_ite, if_pos hl]
        simpa [q] using hh
      | false =>
        rw [if_neg Bool.false_ne_true]
        simpa [q] using hh
  exact go rs [] rfl
end CL
namespace CL
open PySem L2
/-! ### Wp once more, by name: simp does not look behind the step at which it stands (what follows is no bare lambda over Wq) -/
def Wq {A : Type} (m : Mo A) (st : Store) (post : A → Store → Prop) (ex : Str → List Da → Store → Prop) : Prop := Wp m st post ex
def kb {A B : Type} (f : A → Mo B) (post : B → Store → Prop) (ex : Str → List Da → Store → Prop) (a : A) (st : Store) : Prop := Wq (f a) st post ex
section
variable {A B : Type} {st : Store} {ex : Str → List Da → Store → Prop}
@[simp] theorem kb_app {f : A → Mo B} {post : B → Store → Prop} {a : A} : kb f post ex a st ↔ Wq (f a) st post ex := Iff.rfl
@[simp] theorem wq_bnd {m : Mo A} {f : A → Mo B} {post : B → Store → Prop} : Wq (bnd m f) st post ex ↔ Wq m st (kb f post ex) ex := wp_bnd
@[simp] theorem wq_ret {a : A} {post : A → Store → Prop} : Wq (ret a) st post ex ↔ post a st := Iff.rfl
@[simp] theorem wq_nop {post : A → Store → Prop} : Wq (nop : Mo A) st post ex ↔ False := Iff.rfl
@[simp] theorem wq_noX {m : Mo A} {post : A → Store → Prop} : Wq (noX m) st post ex ↔ Wq m st post noEx := wp_noX
theorem Wq.mono {m : Mo A} {post post' : A → Store → Prop} (h : Wq m st post ex) (hp : ∀ a st', post a st' → post' a st') : Wq m st post' ex := Wp.mono h hp
theorem Wq.ofNo {m : Mo A} {post post' : A → Store → Prop} (h : Wq m st post noEx) (hp : ∀ a st', post a st' → post' a st') : Wq m st post' ex := Wp.ofNo h hp
theorem Wp.q {m : Mo A} {post : A → Store → Prop} (h : Wp m st post ex) : Wq m st post ex := h
theorem Wq.p {m : Mo A} {post : A → Store → Prop} (h : Wq m st post ex) : Wp m st post ex := h
/-- a spec in the old word, taken at a step -/
theorem Wp.go {m : Mo A} {post post' : A → Store → Prop} (h : Wp m st post noEx) (hp : ∀ a st', post a st' → post' a st') : Wq m st post' ex := Wp.ofNo h hp
theorem Wq.go {m : Mo A} {post post' : A → Store → Prop} (h : Wq m st post noEx) (hp : ∀ a st', post a st' → post' a st') : Wq m st post' ex := Wp.ofNo h hp
/-- with what is raised -/
theorem Wq.con {m : Mo A} {post post' : A → Store → Prop} {ex' : Str → List Da → Store → Prop} (h : Wq m st post ex') (hp : ∀ a st', post a st' → post' a st') (he : ∀ c as st', ex' c as st' → ex c as st') : Wq m st post' ex := by
  unfold Wq Wp at h ⊢
  cases q : m st with
  | ok a st' => rw [q] at h; exact hp a st' h
  | exc c as st' => rw [q] at h; exact he c as st' h
  | bad => rw [q] at h; exact h
theorem Wq.of {m : Mo A} {post : A → Store → Prop} {a : A} {st' : Store} (h : m st = .ok a st') (hp : post a st') : Wq m st post ex := Wp.of h hp
@[simp] theorem wq_ar {n : Nat} {f : List Da → Mo A} {ds : List Da} {post : A → Store → Prop} (h : ds.length = n) : Wq (ar n f ds) st post ex ↔ Wq (f ds) st post ex := by
  unfold ar; rw [if_pos h]
@[simp] theorem wq_one {f : Da → Mo A} {d : Da} {post : A → Store → Prop} : Wq (one f [d]) st post ex ↔ Wq (f d) st post ex := Iff.rfl
@[simp] theorem wq_two {f : Da → Da → Mo A} {d e : Da} {post : A → Store → Prop} : Wq (two f [d, e]) st post ex ↔ Wq (f d e) st post ex := Iff.rfl
variable {a b c v o i' : Sl → Mo Da} {p q : Sl → Mo Bool} {al kl : Sl → Mo (List Da)} {ro : Sl} {post : Da → Store → Prop} {postB : Bool → Store → Prop} {postL : List Da → Store → Prop} {postF : Fl → Store → Prop} {postS : Src → Store → Prop} {postU : Unit → Store → Prop} {m n : Sl → Mo Fl}
theorem wq_var {i : Nat} {d : Da} (h : ro[i]? = some (some d)) : Wq (eVar i ro) st post ex ↔ post d st := wp_var h
@[simp] theorem wq_var0 {d : Da} {r : Sl} : Wq (eVar 0 (some d :: r)) st post ex ↔ post d st := Iff.rfl
@[simp] theorem wq_varS {i : Nat} {o : Option Da} {r : Sl} : Wq (eVar (i + 1) (o :: r)) st post ex ↔ Wq (eVar i r) st post ex := Iff.rfl
@[simp] theorem wq_var1 {o0 : Option Da} {d : Da} {r : Sl} : Wq (eVar 1 (o0 :: some d :: r)) st post ex ↔ post d st := Iff.rfl
@[simp] theorem wq_var2 {o0 o1 : Option Da} {d : Da} {r : Sl} : Wq (eVar 2 (o0 :: o1 :: some d :: r)) st post ex ↔ post d st := Iff.rfl
@[simp] theorem wq_var3 {o0 o1 o2 : Option Da} {d : Da} {r : Sl} : Wq (eVar 3 (o0 :: o1 :: o2 :: some d :: r)) st post ex ↔ post d st := Iff.rfl
@[simp] theorem wq_var4 {o0 o1 o2 o3 : Option Da} {d : Da} {r : Sl} : Wq (eVar 4 (o0 :: o1 :: o2 :: o3 :: some d :: r)) st post ex ↔ post d st := Iff.rfl
@[simp] theorem wq_var5 {o0 o1 o2 o3 o4 : Option Da} {d : Da} {r : Sl} : Wq (eVar 5 (o0 :: o1 :: o2 :: o3 :: o4 :: some d :: r)) st post ex ↔ post d st := Iff.rfl
@[simp] theorem wq_var6 {o0 o1 o2 o3 o4 o5 : Option Da} {d : Da} {r : Sl} : Wq (eVar 6 (o0 :: o1 :: o2 :: o3 :: o4 :: o5 :: some d :: r)) st post ex ↔ post d st := Iff.rfl
@[simp] theorem wq_var7 {o0 o1 o2 o3 o4 o5 o6 : Option Da} {d : Da} {r : Sl} : Wq (eVar 7 (o0 :: o1 :: o2 :: o3 :: o4 :: o5 :: o6 :: some d :: r)) st post ex ↔ post d st := Iff.rfl
@[simp] theorem wq_var8 {o0 o1 o2 o3 o4 o5 o6 o7 : Option Da} {d : Da} {r : Sl} : Wq (eVar 8 (o0 :: o1 :: o2 :: o3 :: o4 :: o5 :: o6 :: o7 :: some d :: r)) st post ex ↔ post d st := Iff.rfl
@[simp] theorem wq_var9 {o0 o1 o2 o3 o4 o5 o6 o7 o8 : Option Da} {d : Da} {r : Sl} : Wq (eVar 9 (o0 :: o1 :: o2 :: o3 :: o4 :: o5 :: o6 :: o7 :: o8 :: some d :: r)) st post ex ↔ post d st := Iff.rfl
@[simp] theorem wq_var10 {o0 o1 o2 o3 o4 o5 o6 o7 o8 o9 : Option Da} {d : Da} {r : Sl} : Wq (eVar 10 (o0 :: o1 :: o2 :: o3 :: o4 :: o5 :: o6 :: o7 :: o8 :: o9 :: some d :: r)) st post ex ↔ post d st := Iff.rfl
@[simp] theorem wq_var11 {o0 o1 o2 o3 o4 o5 o6 o7 o8 o9 o10 : Option Da} {d : Da} {r : Sl} : Wq (eVar 11 (o0 :: o1 :: o2 :: o3 :: o4 :: o5 :: o6 :: o7 :: o8 :: o9 :: o10 :: some d :: r)) st post ex ↔ post d st := Iff.rfl
@[simp] theorem wq_var12 {o0 o1 o2 o3 o4 o5 o6 o7 o8 o9 o10 o11 : Option Da} {d : Da} {r : Sl} : Wq (eVar 12 (o0 :: o1 :: o2 :: o3 :: o4 :: o5 :: o6 :: o7 :: o8 :: o9 :: o10 :: o11 :: some d :: r)) st post ex ↔ post d st := Iff.rfl
@[simp] theorem wq_var13 {o0 o1 o2 o3 o4 o5 o6 o7 o8 o9 o10 o11 o12 : Option Da} {d : Da} {r : Sl} : Wq (eVar 13 (o0 :: o1 :: o2 :: o3 :: o4 :: o5 :: o6 :: o7 :: o8 :: o9 :: o10 :: o11 :: o12 :: some d :: r)) st post ex ↔ post d st := Iff.rfl
@[simp] theorem wq_var14 {o0 o1 o2 o3 o4 o5 o6 o7 o8 o9 o10 o11 o12 o13 : Option Da} {d : Da} {r : Sl} : Wq (eVar 14 (o0 :: o1 :: o2 :: o3 :: o4 :: o5 :: o6 :: o7 :: o8 :: o9 :: o10 :: o11 :: o12 :: o13 :: some d :: r)) st post ex ↔ post d st := Iff.rfl
@[simp] theorem wq_var15 {o0 o1 o2 o3 o4 o5 o6 o7 o8 o9 o10 o11 o12 o13 o14 : Option Da} {d : Da} {r : Sl} : Wq (eVar 15 (o0 :: o1 :: o2 :: o3 :: o4 :: o5 :: o6 :: o7 :: o8 :: o9 :: o10 :: o11 :: o12 :: o13 :: o14 :: some d :: r)) st post ex ↔ post d st := Iff.rfl
@[simp] theorem wq_var16 {o0 o1 o2 o3 o4 o5 o6 o7 o8 o9 o10 o11 o12 o13 o14 o15 : Option Da} {d : Da} {r : Sl} : Wq (eVar 16 (o0 :: o1 :: o2 :: o3 :: o4 :: o5 :: o6 :: o7 :: o8 :: o9 :: o10 :: o11 :: o12 :: o13 :: o14 :: o15 :: some d :: r)) st post ex ↔ post d st := Iff.rfl
@[simp] theorem wq_var17 {o0 o1 o2 o3 o4 o5 o6 o7 o8 o9 o10 o11 o12 o13 o14 o15 o16 : Option Da} {d : Da} {r : Sl} : Wq (eVar 17 (o0 :: o1 :: o2 :: o3 :: o4 :: o5 :: o6 :: o7 :: o8 :: o9 :: o10 :: o11 :: o12 :: o13 :: o14 :: o15 :: o16 :: some d :: r)) st post ex ↔ post d st := Iff.rfl
@[simp] theorem wq_var18 {o0 o1 o2 o3 o4 o5 o6 o7 o8 o9 o10 o11 o12 o13 o14 o15 o16 o17 : Option Da} {d : Da} {r : Sl} : Wq (eVar 18 (o0 :: o1 :: o2 :: o3 :: o4 :: o5 :: o6 :: o7 :: o8 :: o9 :: o10 :: o11 :: o12 :: o13 :: o14 :: o15 :: o16 :: o17 :: some d :: r)) st post ex ↔ post d st := Iff.rfl
@[simp] theorem wq_var19 {o0 o1 o2 o3 o4 o5 o6 o7 o8 o9 o10 o11 o12 o13 o14 o15 o16 o17 o18 : Option Da} {d : Da} {r : Sl} : Wq (eVar 19 (o0 :: o1 :: o2 :: o3 :: o4 :: o5 :: o6 :: o7 :: o8 :: o9 :: o10 :: o11 :: o12 :: o13 :: o14 :: o15 :: o16 :: o17 :: o18 :: some d :: r)) st post ex ↔ post d st := Iff.rfl
@[simp] theorem wq_var20 {o0 o1 o2 o3 o4 o5 o6 o7 o8 o9 o10 o11 o12 o13 o14 o15 o16 o17 o18 o19 : Option Da} {d : Da} {r : Sl} : Wq (eVar 20 (o0 :: o1 :: o2 :: o3 :: o4 :: o5 :: o6 :: o7 :: o8 :: o9 :: o10 :: o11 :: o12 :: o13 :: o14 :: o15 :: o16 :: o17 :: o18 :: o19 :: some d :: r)) st post ex ↔ post d st := Iff.rfl
@[simp] theorem wq_var21 {o0 o1 o2 o3 o4 o5 o6 o7 o8 o9 o10 o11 o12 o13 o14 o15 o16 o17 o18 o19 o20 : Option Da} {d : Da} {r : Sl} : Wq (eVar 21 (o0 :: o1 :: o2 :: o3 :: o4 :: o5 :: o6 :: o7 :: o8 :: o9 :: o10 :: o11 :: o12 :: o13 :: o14 :: o15 :: o16 :: o17 :: o18 :: o19 :: o20 :: some d :: r)) st post ex ↔ post d st := Iff.rfl
@[simp] theorem wq_var22 {o0 o1 o2 o3 o4 o5 o6 o7 o8 o9 o10 o11 o12 o13 o14 o15 o16 o17 o18 o19 o20 o21 : Option Da} {d : Da} {r : Sl} : Wq (eVar 22 (o0 :: o1 :: o2 :: o3 :: o4 :: o5 :: o6 :: o7 :: o8 :: o9 :: o10 :: o11 :: o12 :: o13 :: o14 :: o15 :: o16 :: o17 :: o18 :: o19 :: o20 :: o21 :: some d :: r)) st post ex ↔ post d st := Iff.rfl
@[simp] theorem wq_var23 {o0 o1 o2 o3 o4 o5 o6 o7 o8 o9 o10 o11 o12 o13 o14 o15 o16 o17 o18 o19 o20 o21 o22 : Option Da} {d : Da} {r : Sl} : Wq (eVar 23 (o0 :: o1 :: o2 :: o3 :: o4 :: o5 :: o6 :: o7 :: o8 :: o9 :: o10 :: o11 :: o12 :: o13 :: o14 :: o15 :: o16 :: o17 :: o18 :: o19 :: o20 :: o21 :: o22 :: some d :: r)) st post ex ↔ post d st := Iff.rfl
@[simp] theorem wq_var24 {o0 o1 o2 o3 o4 o5 o6 o7 o8 o9 o10 o11 o12 o13 o14 o15 o16 o17 o18 o19 o20 o21 o22 o23 : Option Da} {d : Da} {r : Sl} : Wq (eVar 24 (o0 :: o1 :: o2 :: o3 :: o4 :: o5 :: o6 :: o7 :: o8 :: o9 :: o10 :: o11 :: o12 :: o13 :: o14 :: o15 :: o16 :: o17 :: o18 :: o19 :: o20 :: o21 :: o22 :: o23 :: some d :: r)) st post ex ↔ post d st := Iff.rfl
@[simp] theorem wq_var25 {o0 o1 o2 o3 o4 o5 o6 o7 o8 o9 o10 o11 o12 o13 o14 o15 o16 o17 o18 o19 o20 o21 o22 o23 o24 : Option Da} {d : Da} {r : Sl} : Wq (eVar 25 (o0 :: o1 :: o2 :: o3 :: o4 :: o5 :: o6 :: o7 :: o8 :: o9 :: o10 :: o11 :: o12 :: o13 :: o14 :: o15 :: o16 :: o17 :: o18 :: o19 :: o20 :: o21 :: o22 :: o23 :: o24 :: some d :: r)) st post ex ↔ post d st := Iff.rfl
@[simp] theorem wq_c {d : Da} : Wq (eC d ro) st post ex ↔ Wq (ret d) st post ex := Iff.rfl
@[simp] theorem wq_e2 {f : Da → Da → Mo Da} : Wq (e2 f a b ro) st post ex ↔ Wq (a ro) st (kb (fun x => bnd (b ro) fun y => f x y) post ex) ex := wq_bnd
@[simp] theorem wq_e1 {f : Da → Mo Da} : Wq (e1 f a ro) st post ex ↔ Wq (a ro) st (kb f post ex) ex := wq_bnd
@[simp] theorem wq_tst  : Wq (tst a ro) st postB ex ↔ Wq (a ro) st (kb toB postB ex) ex := wq_bnd
@[simp] theorem wq_and  : Wq (tAnd_ p q ro) st postB ex ↔ Wq (p ro) st (kb (fun c => if c = true then q ro else ret false) postB ex) ex := wq_bnd
@[simp] theorem wq_or  : Wq (tOr_ p q ro) st postB ex ↔ Wq (p ro) st (kb (fun c => if c = true then ret true else q ro) postB ex) ex := wq_bnd
@[simp] theorem wq_not  : Wq (tNot_ p ro) st postB ex ↔ Wq (p ro) st (kb (fun c => ret (!c)) postB ex) ex := wq_bnd
@[simp] theorem wq_vAnd  : Wq (vAnd a b ro) st post ex ↔ Wq (tst a ro) st (kb (fun c => if c = true then b ro else ret (.bl false)) post ex) ex := wq_bnd
@[simp] theorem wq_vOr  : Wq (vOr a b ro) st post ex ↔ Wq (tst a ro) st (kb (fun c => if c = true then ret (.bl true) else b ro) post ex) ex := wq_bnd
@[simp] theorem wq_vNot  : Wq (vNot a ro) st post ex ↔ Wq (tst a ro) st (kb (fun c => ret (.bl (!c))) post ex) ex := wq_bnd
@[simp] theorem wq_eIf  : Wq (eIf p a b ro) st post ex ↔ Wq (p ro) st (kb (fun c => if c = true then a ro else b ro) post ex) ex := wq_bnd
@[simp] theorem wq_aNil  : Wq (aNil ro) st postL ex ↔ Wq (ret []) st postL ex := Iff.rfl
@[simp] theorem wq_aCons  : Wq (aCons a al ro) st postL ex ↔ Wq (a ro) st (kb (fun x => bnd (al ro) fun xs => ret (x :: xs)) postL ex) ex := wq_bnd
@[simp] theorem wq_eTup  : Wq (eTup al ro) st post ex ↔ Wq (al ro) st (kb (fun xs => if xs.length ≤ 1000 then ret (.tup xs) else nop) post ex) ex := wq_bnd
@[simp] theorem wq_lDisp  : Wq (lDisp al ro) st postL ex ↔ Wq (al ro) st (kb (fun xs => if xs.length ≤ 1000 then ret xs else nop) postL ex) ex := wq_bnd
@[simp] theorem wq_eL  : Wq (eL al ro) st post ex ↔ Wq (al ro) st (kb (fun xs => ret (.lst xs)) post ex) ex := wq_bnd
@[simp] theorem wq_eF  : Wq (eF a ro) st post ex ↔ Wq (a ro) st (kb fz post ex) ex := wq_bnd
@[simp] theorem wq_eCall {f : List Da → Mo Da} : Wq (eCall f al ro) st post ex ↔ Wq (al ro) st (kb f post ex) ex := wq_bnd
@[simp] theorem wq_lCall {f : List Da → Mo (List Da)} : Wq (lCall f al ro) st postL ex ↔ Wq (al ro) st (kb f postL ex) ex := wq_bnd
@[simp] theorem wq_l2 {f : Da → Da → Mo (List Da)} : Wq (l2 f a b ro) st postL ex ↔ Wq (a ro) st (kb (fun x => bnd (b ro) fun y => f x y) postL ex) ex := wq_bnd
@[simp] theorem wq_chain {f g : Da → Da → Mo Da} : Wq (eChain f g a b c ro) st post ex ↔ Wq (a ro) st (kb (fun x => bnd (b ro) fun y => bnd (bnd (f x y) toB) fun k => if k = true then bnd (c ro) fun z => g y z else ret (.bl false)) post ex) ex := wq_bnd
@[simp] theorem wq_eApp  : Wq (eApp a b ro) st post ex ↔ Wq (a ro) st (kb (fun d => bnd (isLs d) fun _ => bnd (b ro) fun x => appD d x) post ex) ex := wq_bnd
@[simp] theorem wq_ePop  : Wq (ePop a ro) st post ex ↔ Wq (a ro) st (kb (fun d => bnd (isLs d) fun _ => popD d) post ex) ex := wq_bnd
@[simp] theorem wq_ePopAt  : Wq (ePopAt a b ro) st post ex ↔ Wq (a ro) st (kb (fun d => bnd (isLs d) fun _ => bnd (b ro) fun x => popAtD d x) post ex) ex := wq_bnd
@[simp] theorem wq_eIndex  : Wq (eIndex a b ro) st post ex ↔ Wq (a ro) st (kb (fun d => bnd (isLs d) fun _ => bnd (b ro) fun x => indexD d x) post ex) ex := wq_bnd
@[simp] theorem wq_mNil  : Wq (mNil ro) st postF ex ↔ Wq (ret (.nx ro)) st postF ex := Iff.rfl
@[simp] theorem wq_mSet {i : Nat} : Wq (mSet i a ro) st postF ex ↔ Wq (a ro) st (kb (fun d => ret (.nx (ro.set i (some d)))) postF ex) ex := wq_bnd
@[simp] theorem wq_mRet  : Wq (mRet a ro) st postF ex ↔ Wq (a ro) st (kb (fun d => ret (.rt d)) postF ex) ex := wq_bnd
@[simp] theorem wq_mRetN  : Wq (mRetN ro) st postF ex ↔ Wq (ret (.rt .non)) st postF ex := Iff.rfl
@[simp] theorem wq_mExpr  : Wq (mExpr a ro) st postF ex ↔ Wq (a ro) st (kb (fun _ => ret (.nx ro)) postF ex) ex := wq_bnd
@[simp] theorem wq_mIf  : Wq (mIf p m n ro) st postF ex ↔ Wq (p ro) st (kb (fun c => if c = true then m ro else n ro) postF ex) ex := wq_bnd
@[simp] theorem wq_mBrk  : Wq (mBrk ro) st postF ex ↔ Wq (ret (.bk ro)) st postF ex := Iff.rfl
@[simp] theorem wq_mCnt  : Wq (mCnt ro) st postF ex ↔ Wq (ret (.ct ro)) st postF ex := Iff.rfl
@[simp] theorem wq_mNever  : Wq (mNever ro) st postF ex ↔ Wq (nop) st postF ex := Iff.rfl
@[simp] theorem wq_mSetI  : Wq (mSetI v o i' ro) st postF ex ↔ Wq (v ro) st (kb (fun x => bnd (o ro) fun d => bnd (i' ro) fun k => bnd (setD d k x) fun _ => ret (.nx ro)) postF ex) ex := wq_bnd
@[simp] theorem wq_mFor {s : Sl → Mo Src} {t : Tg} : Wq (mFor s t m ro) st postF ex ↔ Wq (s ro) st (kb (fun s => forGo s.o s.xs t m s.xs ro) postF ex) ex := wq_bnd
@[simp] theorem wq_fnM {k : Nat} {ds : List Da} : Wq (fnM k m ds) st post ex ↔ Wq (m (startS k ds)) st (kb fnE post ex) ex := wq_bnd
@[simp] theorem wq_lComp {s : Sl → Mo Src} {t : Tg} {vs : List Nat} : Wq (lComp s t p a vs ro) st postL ex ↔ Wq (s ro) st (kb (fun s => compGo s.o s.xs t p a (wipeS ro vs) s.xs []) postL ex) ex := wq_bnd
@[simp] theorem wq_iV  : Wq (iV a ro) st postS ex ↔ Wq (a ro) st (kb srcV postS ex) ex := wq_bnd
@[simp] theorem wq_iR1  : Wq (iR1 al ro) st postS ex ↔ Wq (al ro) st (kb srcR1 postS ex) ex := wq_bnd
@[simp] theorem wq_iR2  : Wq (iR2 al ro) st postS ex ↔ Wq (al ro) st (kb srcR2 postS ex) ex := wq_bnd
@[simp] theorem wq_iR3  : Wq (iR3 al ro) st postS ex ↔ Wq (al ro) st (kb srcR3 postS ex) ex := wq_bnd
@[simp] theorem wq_yes  : Wq (tYes_ ro) st postB ex ↔ Wq (ret true) st postB ex := Iff.rfl
@[simp] theorem wq_eFld {cs : List Str} {f : Str} : Wq (eFld cs f a ro) st post ex ↔ Wq (a ro) st (kb (fldD cs f) post ex) ex := wq_bnd
@[simp] theorem wq_mFld {cs : List Str} {f : Str} : Wq (mFld cs f v o ro) st postF ex ↔ Wq (v ro) st (kb (fun x => bnd (o ro) fun d => bnd (setFD cs f d x) fun _ => ret (.nx ro)) postF ex) ex := wq_bnd
@[simp] theorem wq_eMeth {c m : Str} {f : List Da → Mo Da} : Wq (eMeth c m f a al ro) st post ex ↔ Wq (a ro) st (kb (fun d => bnd (isIns c m d) fun _ => bnd (al ro) fun ds => f (d :: ds)) post ex) ex := wq_bnd
@[simp] theorem wq_eMake {c : Str} {f : List Da → Mo Da} : Wq (eMake c f al ro) st post ex ↔ Wq (al ro) st (kb (makeD c f) post ex) ex := wq_bnd
@[simp] theorem wq_eH : Wq (eH al ro) st post ex ↔ Wq (al ro) st (kb (fun xs st => .ok (.han st.length) (st ++ [.lst xs])) post ex) ex := wq_bnd
@[simp] theorem wq_okf {f : Store → A} {g : Store → Store} {post : A → Store → Prop} : Wq (fun st => Res.ok (f st) (g st)) st post ex ↔ post (f st) (g st) := Iff.rfl
@[simp] theorem wq_mSeq : Wq (mSeq m n ro) st postF ex ↔ Wq (m ro) st (kb (fun f => match f with | .nx ro' => n ro' | f => ret f) postF ex) ex := wq_bnd
@[simp] theorem wq_mTgt {t : Tg} : Wq (mTgt t a ro) st postF ex ↔ Wq (a ro) st (kb (fun d => match t d ro with | some ro' => ret (.nx ro') | none => nop) postF ex) ex := wq_bnd
@[simp] theorem wq_mPar {i j : Nat} : Wq (mPar i j al ro) st postF ex ↔ Wq (al ro) st (kb (fun ds => match ds with | [d, e] => ret (.nx ((ro.set i (some d)).set j (some e))) | _ => nop) postF ex) ex := wq_bnd
@[simp] theorem wq_mAug {i : Nat} {f : Int → Int → Int} : Wq (mAug i f a ro) st postF ex ↔ Wq (eVar i ro) st (kb (fun x => bnd (a ro) fun y => match x, y with | .int p, .int q => ret (.nx (ro.set i (some (.int (f p q))))) | _, _ => nop) postF ex) ex := wq_bnd
@[simp] theorem wq_toB {k : Bool} : Wq (toB (.bl k)) st postB ex ↔ postB k st := Iff.rfl
@[simp] theorem fnE_nx {ro : Sl} : fnE (.nx ro) = ret .non := rfl
@[simp] theorem fnE_rt {d : Da} : fnE (.rt d) = ret d := rfl
theorem wq_fz {n : Nat} {ds : List Da} (h : st[n]? = some (.lst ds)) : Wq (fz (.han n)) st post ex ↔ post (.lst ds) (st.set n .dead) := wp_fz h
@[simp] theorem wq_noP {postP : Option Int → Store → Prop} : Wq (noP ro) st postP ex ↔ postP none st := Iff.rfl
@[simp] theorem wq_soP {postP : Option Int → Store → Prop} : Wq (soP a ro) st postP ex ↔ Wq (a ro) st (kb (fun d => match d with | .int i => ret (some i) | _ => nop) postP ex) ex := wq_bnd
@[simp] theorem wq_eSl {f : Da → Option Int → Option Int → Mo Da} {lo hi : Sl → Mo (Option Int)} : Wq (eSl f a lo hi ro) st post ex ↔ Wq (a ro) st (kb (fun d => bnd (lo ro) fun l => bnd (hi ro) fun h => f d l h) post ex) ex := wq_bnd
@[simp] theorem wq_lSl {lo hi : Sl → Mo (Option Int)} : Wq (lSl a lo hi ro) st postL ex ↔ Wq (a ro) st (kb (fun d => bnd (lo ro) fun l => bnd (hi ro) fun h => slL d l h) postL ex) ex := wq_bnd
@[simp] theorem wq_add_i {i j : Int} : Wq (addD (.int i) (.int j)) st post ex ↔ post (.int (i + j)) st := Iff.rfl
@[simp] theorem wq_sub_i {i j : Int} : Wq (subD (.int i) (.int j)) st post ex ↔ post (.int (i - j)) st := Iff.rfl
@[simp] theorem wq_lt_i {i j : Int} : Wq (ltD (.int i) (.int j)) st post ex ↔ post (.bl (decide (i < j))) st := Iff.rfl
@[simp] theorem wq_le_i {i j : Int} : Wq (leD (.int i) (.int j)) st post ex ↔ post (.bl (decide (i ≤ j))) st := Iff.rfl
@[simp] theorem wq_gt_i {i j : Int} : Wq (gtD (.int i) (.int j)) st post ex ↔ post (.bl (decide (j < i))) st := Iff.rfl
@[simp] theorem wq_ge_i {i j : Int} : Wq (geD (.int i) (.int j)) st post ex ↔ post (.bl (decide (j ≤ i))) st := Iff.rfl
@[simp] theorem wq_neg_i {i : Int} : Wq (negD (.int i)) st post ex ↔ post (.int (-i)) st := Iff.rfl
@[simp] theorem wq_max_i {i j : Int} : Wq (maxD (.int i) (.int j)) st post ex ↔ post (.int (if j > i then j else i)) st := Iff.rfl
@[simp] theorem wq_min_i {i j : Int} : Wq (minD (.int i) (.int j)) st post ex ↔ post (.int (if j < i then j else i)) st := Iff.rfl
@[simp] theorem wq_isT_i {t : Tn} {i : Int} : Wq (isT t (.int i)) st post ex ↔ post (.bl (isTn .int t)) st := Iff.rfl
@[simp] theorem wq_isT_b {t : Tn} {i : Bool} : Wq (isT t (.bl i)) st post ex ↔ post (.bl (isTn .bool t)) st := Iff.rfl
@[simp] theorem wq_isT_s {t : Tn} {i : Str} : Wq (isT t (.str i)) st post ex ↔ post (.bl (isTn .str t)) st := Iff.rfl
@[simp] theorem wq_isT_n {t : Tn} : Wq (isT t .non) st post ex ↔ post (.bl (isTn .non t)) st := Iff.rfl
@[simp] theorem wq_isT_t {t : Tn} {xs : List Da} : Wq (isT t (.tup xs)) st post ex ↔ post (.bl (isTn .tuple t)) st := Iff.rfl
@[simp] theorem wq_isT_l {t : Tn} {xs : List Da} : Wq (isT t (.lst xs)) st post ex ↔ post (.bl (isTn .list t)) st := Iff.rfl
@[simp] theorem wq_is_bl {b x y : Bool} : Wq (isB b (.bl x) (.bl y)) st post ex ↔ post (.bl (if b then !decide (x = y) else decide (x = y))) st := Iff.rfl
@[simp] theorem wq_len_l {xs : List Da} : Wq (lenD (.lst xs)) st post ex ↔ post (.int xs.length) st := Iff.rfl
@[simp] theorem wq_len_t {xs : List Da} : Wq (lenD (.tup xs)) st post ex ↔ post (.int xs.length) st := Iff.rfl
@[simp] theorem wq_list_l {xs : List Da} : Wq (listD (.lst xs)) st postL ex ↔ postL xs st := Iff.rfl
@[simp] theorem wq_list_t {xs : List Da} : Wq (listD (.tup xs)) st postL ex ↔ postL xs st := Iff.rfl
@[simp] theorem wq_list_f {xs : List Da} : Wq (listD (.fro xs)) st postL ex ↔ postL xs st := Iff.rfl
@[simp] theorem wq_tuple_l {xs : List Da} : Wq (tupleD (.lst xs)) st post ex ↔ post (.tup xs) st := Iff.rfl
@[simp] theorem wq_srcV_l {xs : List Da} : Wq (srcV (.lst xs)) st postS ex ↔ postS ⟨xs, none⟩ st := Iff.rfl
@[simp] theorem wq_srcV_t {xs : List Da} : Wq (srcV (.tup xs)) st postS ex ↔ postS ⟨xs, none⟩ st := Iff.rfl
@[simp] theorem wq_slA_t {xs : List Da} {lo hi : Option Int} : Wq (slA (.tup xs) lo hi) st post ex ↔ post (.tup (cutD xs lo hi)) st := Iff.rfl
@[simp] theorem wq_slA_l {xs : List Da} {lo hi : Option Int} : Wq (slA (.lst xs) lo hi) st post ex ↔ post (.lst (cutD xs lo hi)) st := Iff.rfl
@[simp] theorem wq_slL_l {xs : List Da} {lo hi : Option Int} : Wq (slL (.lst xs) lo hi) st postL ex ↔ postL (cutD xs lo hi) st := Iff.rfl
@[simp] theorem wq_isLs_l {xs : List Da} : Wq (isLs (.lst xs)) st postU ex ↔ postU () st := Iff.rfl
@[simp] theorem wq_isNon_n : Wq (isNon .non) st postU ex ↔ postU () st := Iff.rfl
@[simp] theorem wq_is_non {b : Bool}  : Wq (isB b (.non) .non) st post ex ↔ post (.bl (if b then false else true)) st := by cases b <;> exact Iff.rfl
@[simp] theorem wq_is_int {b : Bool} {i : Int} : Wq (isB b (.int i) .non) st post ex ↔ post (.bl b) st := by cases b <;> exact Iff.rfl
@[simp] theorem wq_is_tup {b : Bool} {l : List Da} : Wq (isB b (.tup l) .non) st post ex ↔ post (.bl b) st := by cases b <;> exact Iff.rfl
@[simp] theorem wq_is_lst {b : Bool} {l : List Da} : Wq (isB b (.lst l) .non) st post ex ↔ post (.bl b) st := by cases b <;> exact Iff.rfl
@[simp] theorem wq_is_str {b : Bool} {s : Str} : Wq (isB b (.str s) .non) st post ex ↔ post (.bl b) st := by cases b <;> exact Iff.rfl
@[simp] theorem wq_mul_i {i j : Int} (h : CMul i j) : Wq (mulD (.int i) (.int j)) st post ex ↔ post (.int (i * j)) st := by unfold mulD; dsimp only; rw [if_pos h]; exact Iff.rfl
@[simp] theorem wq_fdiv_i {i j : Int} (h : CDivN i j) : Wq (fdivD (.int i) (.int j)) st post ex ↔ post (.int (i.fdiv j)) st := by unfold fdivD; dsimp only; rw [if_pos h]; exact Iff.rfl
@[simp] theorem wq_mod_i {i j : Int} (h : j ≠ 0) : Wq (modD (.int i) (.int j)) st post ex ↔ post (.int (i.fmod j)) st := by unfold modD; dsimp only; rw [if_pos h]; exact Iff.rfl
@[simp] theorem wq_pow_i {i j : Int} (h : CPow i j) : Wq (powD (.int i) (.int j)) st post ex ↔ post (.int (i ^ j.toNat)) st := by unfold powD; dsimp only; rw [if_pos h]; exact Iff.rfl
@[simp] theorem wq_srcR1 {j : Int} (h : big j) : Wq (srcR1 [.int j]) st postS ex ↔ postS ⟨rngL 0 j.toNat, none⟩ st := by unfold srcR1; dsimp only; rw [if_pos h]; exact Iff.rfl
@[simp] theorem wq_srcR2 {i j : Int} (h : big i ∧ big j) : Wq (srcR2 [.int i, .int j]) st postS ex ↔ postS ⟨rngL i (j - i).toNat, none⟩ st := by unfold srcR2; dsimp only; rw [if_pos h]; exact Iff.rfl
@[simp] theorem wq_srcR3 {i j c : Int} (h : rgOk i j c) : Wq (srcR3 [.int i, .int j, .int c]) st postS ex ↔ postS ⟨rngC i c (rgN i j c), none⟩ st := by unfold srcR3; dsimp only; rw [if_pos h]; exact Iff.rfl
@[simp] theorem wq_catL_l {xs ys : List Da} (h : xs.length + ys.length ≤ 1000000) : Wq (catL (.lst xs) (.lst ys)) st postL ex ↔ postL (xs ++ ys) st := (wp_catL_l).trans (by rw [if_pos h])
@[simp] theorem wq_add_l {xs ys : List Da} (h : xs.length + ys.length ≤ 1000000) : Wq (addD (.tup xs) (.tup ys)) st post ex ↔ post (.tup (xs ++ ys)) st := by
  unfold Wq Wp addD; dsimp only; rw [if_pos h]; exact Iff.rfl
theorem wq_isT {t u : Tn} {d : Da} (h : tyN st d = some u) : Wq (isT t d) st post ex ↔ post (.bl (isTn u t)) st := wp_isT h
theorem wq_isT_h {n : Nat} {xs : List Da} {t : Tn} (h : st[n]? = some (.lst xs)) : Wq (isT t (.han n)) st post ex ↔ post (.bl (isTn .list t)) st := wp_isT (by unfold tyN; dsimp only; rw [h])
theorem wq_ix_t {x : Da} {xs : List Da} {i : Int} (hx : atI xs i = some x) : Wq (ixD (.tup xs) (.int i)) st post ex ↔ post x st := wp_ix_t hx
theorem wq_ix_l {x : Da} {xs : List Da} {i : Int} (hx : atI xs i = some x) : Wq (ixD (.lst xs) (.int i)) st post ex ↔ post x st := wp_ix_l hx
theorem wq_ix_h {n : Nat} {x : Da} {xs : List Da} {i : Int} (h : st[n]? = some (.lst xs)) (hx : atI xs i = some x) : Wq (ixD (.han n) (.int i)) st post ex ↔ post x st := wp_ix_h h hx
@[simp] theorem wq_ix_t0 {x0 : Da} {r : List Da} : Wq (ixD (.tup (x0 :: r)) (.int 0)) st post ex ↔ post x0 st := wp_ix_t0
@[simp] theorem wq_ix_t1 {x0 x1 : Da} {r : List Da} : Wq (ixD (.tup (x0 :: x1 :: r)) (.int 1)) st post ex ↔ post x1 st := wp_ix_t1
@[simp] theorem wq_ix_t2 {x0 x1 x2 : Da} {r : List Da} : Wq (ixD (.tup (x0 :: x1 :: x2 :: r)) (.int 2)) st post ex ↔ post x2 st := wp_ix_t2
@[simp] theorem wq_ix_t3 {x0 x1 x2 x3 : Da} {r : List Da} : Wq (ixD (.tup (x0 :: x1 :: x2 :: x3 :: r)) (.int 3)) st post ex ↔ post x3 st := wp_ix_t3
@[simp] theorem wq_ix_l0 {x0 : Da} {r : List Da} : Wq (ixD (.lst (x0 :: r)) (.int 0)) st post ex ↔ post x0 st := wp_ix_l0
@[simp] theorem wq_ix_l1 {x0 x1 : Da} {r : List Da} : Wq (ixD (.lst (x0 :: x1 :: r)) (.int 1)) st post ex ↔ post x1 st := wp_ix_l (atI_nat (j := 1) rfl)
@[simp] theorem wq_ix_l2 {x0 x1 x2 : Da} {r : List Da} : Wq (ixD (.lst (x0 :: x1 :: x2 :: r)) (.int 2)) st post ex ↔ post x2 st := wp_ix_l (atI_nat (j := 2) rfl)
theorem wq_len_h {n : Nat} {xs : List Da} (h : st[n]? = some (.lst xs)) : Wq (lenD (.han n)) st post ex ↔ post (.int xs.length) st := wp_len_h h
theorem wq_list_h {n : Nat} {xs : List Da} (h : st[n]? = some (.lst xs)) : Wq (listD (.han n)) st postL ex ↔ postL xs st := wp_list (by unfold sqOf lsOf; dsimp only; rw [h])
theorem wq_tuple_h {n : Nat} {xs : List Da} (h : st[n]? = some (.lst xs)) : Wq (tupleD (.han n)) st post ex ↔ post (.tup xs) st := wp_tuple_h h
theorem wq_all {xs : List Da} {bs : List Bool} (h : xs = bs.map Da.bl) : Wq (allD (.lst xs)) st post ex ↔ post (.bl (bs.all id)) st := wp_all h
@[simp] theorem wq_all1 {x : Bool} : Wq (allD (.lst [.bl x])) st post ex ↔ post (.bl x) st := wp_all1
@[simp] theorem wq_all2 {x y : Bool} : Wq (allD (.lst [.bl x, .bl y])) st post ex ↔ post (.bl (x && y)) st := wp_all2
theorem wq_setD {n : Nat} {k : Int} {x : Da} {xs : List Da} {j : Nat} (h : st[n]? = some (.lst xs)) (hj : ixN xs.length k = some j) : Wq (setD (.han n) (.int k) x) st postU ex ↔ postU () (st.set n (.lst (xs.set j x))) := wp_setD h hj
theorem wq_isLs_h {n : Nat} {xs : List Da} (h : st[n]? = some (.lst xs)) : Wq (isLs (.han n)) st postU ex ↔ postU () st := wp_isLs_h h
theorem wq_appD {n : Nat} {x : Da} {xs : List Da} (h : st[n]? = some (.lst xs)) (hl : xs.length < 1000000) : Wq (appD (.han n) x) st post ex ↔ post .non (st.set n (.lst (xs ++ [x]))) := wp_appD h hl
theorem wq_popD {n : Nat} {xs : List Da} {x : Da} (h : st[n]? = some (.lst xs)) (hx : xs[xs.length - 1]? = some x) : Wq (popD (.han n)) st post ex ↔ post x (st.set n (.lst xs.dropLast)) := wp_popD h hx
theorem wq_popAt {n : Nat} {k : Int} {xs : List Da} {j : Nat} {x : Da} (h : st[n]? = some (.lst xs)) (hj : ixN xs.length k = some j) (hx : xs[j]? = some x) (hb : big k) : Wq (popAtD (.han n) (.int k)) st post ex ↔ post x (st.set n (.lst (xs.eraseIdx j))) := wp_popAt h hj hx hb
theorem wq_fldD {cs : List Str} {f : Str} {n : Nat} {c : Str} {fs : List (Str × Da)} {x : Da} (h : st[n]? = some (.ins c fs)) (hc : c ∈ cs) (hx : fs.lookup f = some x) : Wq (fldD cs f (.han n)) st post ex ↔ post x st := wp_fldD h hc hx
theorem wq_setFD {cs : List Str} {f : Str} {n : Nat} {c : Str} {fs : List (Str × Da)} {x : Da} (h : st[n]? = some (.ins c fs)) (hc : c ∈ cs) (hl : fs.length < 1000) : Wq (setFD cs f (.han n) x) st postU ex ↔ postU () (st.set n (.ins c (putD f x fs))) := wp_setFD h hc hl
theorem wq_isIns {c m : Str} {n : Nat} {fs : List (Str × Da)} (h : st[n]? = some (.ins c fs)) (hl : fs.lookup m = none) : Wq (isIns c m (.han n)) st postU ex ↔ postU () st := wp_isIns h hl
@[simp] theorem wq_makeD {c : Str} {g : List Da → Mo Da} {ds : List Da} : Wq (makeD c g ds) st post ex ↔ Wq (g (.han st.length :: ds)) (st ++ [.ins c []]) (kb (fun r => bnd (isNon r) fun _ => ret (.han st.length)) post ex) ex := by
  show Wq (bnd (newI c) (fun _ => bnd (g (.han st.length :: ds)) fun r => bnd (isNon r) fun _ => ret (.han st.length))) st post ex ↔ _
  rw [wq_bnd]
  show Wq (bnd (g (.han st.length :: ds)) fun r => bnd (isNon r) fun _ => ret (.han st.length)) (st ++ [.ins c []]) post ex ↔ _
  rw [wq_bnd]
def makeK (c : Str) (g : List Da → Mo Da) (n1 k : Nat) (gD : List Da → List Da → List Da) (ds es : List Da) : Mo Da := fun st => if ds.length = n1 ∧ es.length = k then bnd (newI c) (fun _ => bnd (g (gD (.han st.length :: ds) es)) fun r => bnd (isNon r) fun _ => ret (.han st.length)) st else .bad
@[simp] theorem wq_eMakeK {c : Str} {g : List Da → Mo Da} {n1 k : Nat} {gD : List Da → List Da → List Da} : Wq (eMakeK c g n1 k gD al kl ro) st post ex ↔ Wq (al ro) st (kb (fun ds => bnd (kl ro) fun es => makeK c g n1 k gD ds es) post ex) ex := wq_bnd
@[simp] theorem wq_makeK {c : Str} {g : List Da → Mo Da} {n1 k : Nat} {gD : List Da → List Da → List Da} {ds es : List Da} (h : ds.length = n1 ∧ es.length = k) : Wq (makeK c g n1 k gD ds es) st post ex ↔ Wq (g (gD (.han st.length :: ds) es)) (st ++ [.ins c []]) (kb (fun r => bnd (isNon r) fun _ => ret (.han st.length)) post ex) ex := by
  have e : Wq (makeK c g n1 k gD ds es) st post ex ↔ Wq (bnd (newI c) (fun _ => bnd (g (gD (.han st.length :: ds) es)) fun r => bnd (isNon r) fun _ => ret (.han st.length))) st post ex := by
    unfold Wq Wp makeK; rw [if_pos h]
  rw [e, wq_bnd]
  show Wq (bnd (g (gD (.han st.length :: ds) es)) fun r => bnd (isNon r) fun _ => ret (.han st.length)) (st ++ [.ins c []]) post ex ↔ _
  rw [wq_bnd]
/-! comparing -/
theorem wq_eqI {neg : Bool} {d e : Da} {p q : PyData} (h1 : PyIs st d p) (h2 : PyIs st e q) : Wq (eqB neg d e) st post ex ↔ post (.bl (if neg then !PyData.eqv p q else PyData.eqv p q)) st := wp_eqI h1 h2
@[simp] theorem wq_eq {d e : Da} (h1 : pl 60 d = true) (h2 : pl 60 e = true) : Wq (eqB false d e) st post ex ↔ post (.bl (deq d e)) st := wp_eq h1 h2
@[simp] theorem wq_ne {d e : Da} (h1 : pl 60 d = true) (h2 : pl 60 e = true) : Wq (eqB true d e) st post ex ↔ post (.bl (!deq d e)) st := wp_ne h1 h2
@[simp] theorem wq_eq_i {i j : Int} : Wq (eqB false (.int i) (.int j)) st post ex ↔ post (.bl (decide (i = j))) st := wp_eq_i
@[simp] theorem wq_ne_i {i j : Int} : Wq (eqB true (.int i) (.int j)) st post ex ↔ post (.bl (!decide (i = j))) st := wp_ne_i
theorem wq_eq_hnil {neg : Bool} {n m : Nat} {xs : List Da} (hm : m ≤ 60) (h : st[n]? = some (.lst xs)) (hp : plL m xs = true) : Wq (eqB neg (.han n) (.lst [])) st post ex ↔ post (.bl (if neg then !decide (xs = []) else decide (xs = []))) st := wp_eq_hnil hm h hp
theorem wq_srcV_h {n : Nat} {xs : List Da} (h : st[n]? = some (.lst xs)) : Wq (srcV (.han n)) st postS ex ↔ postS ⟨xs, some n⟩ st := wp_srcV_h h
/-! loops -/
theorem wq_forI {all : List Da} {t : Tg} {body : Sl → Mo Fl} {xs : List Da} (I : Nat → Sl → Store → Prop) (h0 : I 0 ro st)
    (hs : ∀ (i : Nat) (x : Da) (ro : Sl) (st : Store), xs[i]? = some x → I i ro st → ∃ ro1, t x ro = some ro1 ∧ Wq (body ro1) st (loopP (I (i + 1)) postF) ex)
    (hd : ∀ ro st, I xs.length ro st → postF (.nx ro) st) : Wq (forGo none all t body xs ro) st postF ex := wp_forI I h0 hs hd
theorem wq_forIh {n : Nat} {t : Tg} {body : Sl → Mo Fl} {xs : List Da} (I : Nat → Sl → Store → Prop) (h0 : I 0 ro st) (hk : ∀ i ro st, I i ro st → st[n]? = some (.lst xs))
    (hs : ∀ (i : Nat) (x : Da) (ro : Sl) (st : Store), xs[i]? = some x → I i ro st → ∃ ro1, t x ro = some ro1 ∧ Wq (body ro1) st (loopP (I (i + 1)) postF) ex)
    (hd : ∀ ro st, I xs.length ro st → postF (.nx ro) st) : Wq (forGo (some n) xs t body xs ro) st postF ex := wp_forIh I h0 hk hs hd
theorem wq_whileI {body : Sl → Mo Fl} (I : Nat → Sl → Store → Prop) (hs : ∀ (k : Nat) (ro : Sl) (st : Store), I k ro st → Wq (p ro) st (fun c s1 => if c = true then Wq (body ro) s1 (loopP (fun ro' s2 => ∃ j, j < k ∧ I j ro' s2) postF) ex else postF (.nx ro) s1) ex)
    (fuel k : Nat) (hk : k < fuel) (h0 : I k ro st) : Wq (whileF p body fuel ro) st postF ex := wp_whileI I hs fuel k ro st hk h0
theorem wq_compI {all : List Da} {t : Tg} {p : Sl → Mo Bool} {e : Sl → Mo Da} {xs : List Da} (I : Nat → List Da → Store → Prop) (h0 : I 0 [] st) (hl : ∀ i acc st, I i acc st → acc.length ≤ i) (hx : xs.length < 1000000)
    (hs : ∀ (i : Nat) (x : Da) (acc : List Da) (st : Store), xs[i]? = some x → I i acc st → ∃ ro1, t x ro = some ro1 ∧ Wq (p ro1) st (fun c s1 => if c = true then Wq (e ro1) s1 (fun y s2 => I (i + 1) (acc ++ [y]) s2) noEx else I (i + 1) acc s1) noEx)
    (hd : ∀ acc st, I xs.length acc st → postL acc st) : Wq (compGo none all t p e ro xs []) st postL ex := wp_compI I h0 hl hx hs hd
theorem wq_compF {α : Type} {all : List Da} {t : Tg} {p : Sl → Mo Bool} {e : Sl → Mo Da} {rs : List α} {f g : α → Da} {P : α → Bool} (hx : rs.length < 1000000)
    (h : ∀ x ∈ rs, ∃ ro1, t (f x) ro = some ro1 ∧ Wq (p ro1) st (fun c s => c = P x ∧ s = st) noEx ∧ (P x = true → Wq (e ro1) st (fun d s => d = g x ∧ s = st) noEx))
    (hp : postL ((rs.filter P).map g) st) : Wq (compGo none all t p e ro (rs.map f) []) st postL ex := wp_compF hx h hp
/-- without a test -/
theorem wq_compM {α : Type} {all : List Da} {t : Tg} {e : Sl → Mo Da} {rs : List α} {f g : α → Da} (hx : rs.length < 1000000)
    (h : ∀ x ∈ rs, ∃ ro1, t (f x) ro = some ro1 ∧ Wq (e ro1) st (fun d s => d = g x ∧ s = st) noEx)
    (hp : postL (rs.map g) st) : Wq (compGo none all t tYes_ e ro (rs.map f) []) st postL ex := by
  refine wq_compF (P := fun _ => true) (g := g) hx (fun x hm => ?_) ?_
  · obtain ⟨ro1, h1, h2⟩ := h x hm
    exact ⟨ro1, h1, by simp, fun _ => h2⟩
  · rw [List.filter_eq_self.mpr (by simp)]
    exact hp
theorem wq_compFh {α : Type} {n : Nat} {t : Tg} {p : Sl → Mo Bool} {e : Sl → Mo Da} {rs : List α} {f g : α → Da} {P : α → Bool} (hn : st[n]? = some (.lst (rs.map f))) (hx : rs.length < 1000000)
    (h : ∀ x ∈ rs, ∃ ro1, t (f x) ro = some ro1 ∧ Wq (p ro1) st (fun c s => c = P x ∧ s = st) noEx ∧ (P x = true → Wq (e ro1) st (fun d s => d = g x ∧ s = st) noEx))
    (hp : postL ((rs.filter P).map g) st) : Wq (compGo (some n) (rs.map f) t p e ro (rs.map f) []) st postL ex := wp_compFh hn hx h hp
@[simp] theorem wq_comp_nil {all : List Da} {t : Tg} {p : Sl → Mo Bool} {e : Sl → Mo Da} {acc : List Da} : Wq (compGo none all t p e ro [] acc) st postL ex ↔ postL acc st := Iff.rfl
@[simp] theorem wq_for_nil {all : List Da} {t : Tg} {body : Sl → Mo Fl} : Wq (forGo none all t body [] ro) st postF ex ↔ postF (.nx ro) st := Iff.rfl
end
end CL
namespace CL
open PySem PySem.Spec L2
def g_Index___init___wide_ {α : Type} (us ms ws : List α) : List α := us ++ (match ms, ws with | [], [w0] => [w0] | _, _ => [])
def gD_Index___init___wide (ds es : List Da) : List Da := g_Index___init___wide_ ds [] es
def gV_Index___init___wide (ds es : List V) : List V := g_Index___init___wide_ ds [] es
def m_is_whole : Sl → Mo Fl := (mRet (vAnd (e1 (isT .int) (eVar 0)) (vAnd (vNot (e1 (isT .bool) (eVar 0))) (eChain leD leD (eVar 1) (eVar 0) (eVar 2)))))
def f_is_whole : List Da → Mo Da := fnM 3 m_is_whole
def m_is_chain (g_is_whole : List Da → Mo Da) : Sl → Mo Fl := (mSeq (mIf (tOr_ (tNot_ (tst (e1 (isT .tuple) (eVar 0)))) (tst (e2 eqD (eVar 0) (eTup aNil)))) (mRet (eC (.bl false))) mNil) (mSeq (mFor (iV (eVar 0)) (gN 1) (mSeq (mIf (tOr_ (tNot_ (tst (e1 (isT .tuple) (eVar 1)))) (tOr_ (tst (e2 neD (eCall (one lenD) (aCons (eVar 1) aNil)) (eC (.int 3)))) (tNot_ (tst (eCall (fun ds => ar 3 g_is_whole (ds ++ [])) (aCons (e2 ixD (eVar 1) (eC (.int 1))) (aCons (eC (.int 0)) (aCons (eC (.int 100000)) aNil)))))))) (mRet (eC (.bl false))) mNil) (mIf (tOr_ (tAnd_ (tst (e2 (isB true) (e2 ixD (eVar 1) (eC (.int 0))) (eC (.non)))) (tNot_ (tst (eCall (fun ds => ar 3 g_is_whole (ds ++ [])) (aCons (e2 ixD (eVar 1) (eC (.int 0))) (aCons (eC (.int 0)) (aCons (e2 subD (eC (.int 5)) (eC (.int 1))) aNil))))))) (tNot_ (tst (e1 (isT .bool) (e2 ixD (eVar 1) (eC (.int 2))))))) (mRet (eC (.bl false))) mNil))) (mRet (eC (.bl true)))))
def f_is_chain : List Da → Mo Da := fnM 2 (m_is_chain f_is_whole)
def m_is_table (g_is_chain g_is_whole : List Da → Mo Da) : Sl → Mo Fl := (mSeq (mIf (tNot_ (tst (e1 (isT .list) (eVar 0)))) (mRet (eC (.bl false))) mNil) (mSeq (mSet 1 (eC (.int 0))) (mSeq (mFor (iV (eVar 0)) (gN 2) (mSeq (mIf (tOr_ (tNot_ (tst (e1 (isT .tuple) (eVar 2)))) (tOr_ (tst (e2 neD (eCall (one lenD) (aCons (eVar 2) aNil)) (eC (.int 3)))) (tNot_ (tst (eCall (fun ds => ar 1 g_is_chain (ds ++ [])) (aCons (e2 ixD (eVar 2) (eC (.int 2))) aNil)))))) (mRet (eC (.bl false))) mNil) (mSeq (mIf (tOr_ (tNot_ (tst (eCall (one allD) (aCons (eL (lComp (iV (eSl slA (eVar 2) noP (soP (eC (.int 2))))) (gN 3) tYes_ (eCall (fun ds => ar 3 g_is_whole (ds ++ [])) (aCons (eVar 3) (aCons (eC (.int 0)) (aCons (eC (.int 100000)) aNil)))) [3])) aNil)))) (tOr_ (tst (e2 ltD (e2 ixD (eVar 2) (eC (.int 0))) (eVar 1))) (tst (e2 leD (e2 ixD (eVar 2) (eC (.int 1))) (e2 ixD (eVar 2) (eC (.int 0))))))) (mRet (eC (.bl false))) mNil) (mSet 1 (e2 ixD (eVar 2) (eC (.int 1))))))) (mRet (eC (.bl true))))))
def f_is_table : List Da → Mo Da := fnM 4 (m_is_table f_is_chain f_is_whole)
def m_look_table (g_is_table : List Da → Mo Da) : Sl → Mo Fl := (mIf (tNot_ (tst (eCall (fun ds => ar 1 g_is_table (ds ++ [])) (aCons (eVar 0) aNil)))) mNever mNil)
def f_look_table : List Da → Mo Da := fnM 1 (m_look_table f_is_table)
def m_look_number (g_is_whole : List Da → Mo Da) : Sl → Mo Fl := (mIf (tNot_ (tst (eCall (fun ds => ar 3 g_is_whole (ds ++ [])) (aCons (eVar 0) (aCons (eVar 1) (aCons (eVar 2) aNil)))))) mNever mNil)
def f_look_number : List Da → Mo Da := fnM 3 (m_look_number f_is_whole)
def m_Index___init__ (g_look_table g_look_number : List Da → Mo Da) : Sl → Mo Fl := (mSeq (mExpr (eCall (fun ds => ar 1 g_look_table (ds ++ [])) (aCons (eVar 1) aNil))) (mSeq (mExpr (eCall (fun ds => ar 3 g_look_number (ds ++ [])) (aCons (eVar 2) (aCons (eC (.int 1)) (aCons (eC (.int 10000)) aNil))))) (mSeq (mFld ["Index"] "table" (eL (lCall (one listD) (aCons (eVar 1) aNil))) (eVar 0)) (mSeq (mFld ["Index"] "wide" (eVar 2) (eVar 0)) (mSeq (mFld ["Index"] "firsts" (eH (lDisp aNil)) (eVar 0)) (mSeq (mSet 3 (eIf (tst (e2 neD (eVar 1) (eL (lDisp aNil)))) (e2 ixD (e2 ixD (eVar 1) (e1 negD (eC (.int 1)))) (eC (.int 1))) (eC (.int 0)))) (mSeq (mSet 4 (eC (.int 0))) (mFor (iR3 (aCons (eC (.int 0)) (aCons (eVar 3) (aCons (eVar 2) aNil)))) (gN 5) (mSeq (whileF (tst (e2 leD (e2 ixD (e2 ixD (eVar 1) (eVar 4)) (eC (.int 1))) (eVar 5))) (mAug 4 (fun i j => i + j) (eC (.int 1))) 1000000) (mExpr (eApp (eFld ["Index"] "firsts" (eVar 0)) (eVar 4))))))))))))
def f_Index___init__ : List Da → Mo Da := fnM 6 (m_Index___init__ f_look_table f_look_number)
def m_Index_find (g_is_whole : List Da → Mo Da) : Sl → Mo Fl := (mSeq (mIf (tNot_ (tst (eCall (fun ds => ar 3 g_is_whole (ds ++ [])) (aCons (eVar 1) (aCons (eC (.int 0)) (aCons (eC (.int 100000)) aNil)))))) mNever mNil) (mSeq (mSet 2 (e2 fdivD (eVar 1) (eFld ["Index"] "wide" (eVar 0)))) (mSeq (mIf (tst (e2 geD (eVar 2) (eCall (one lenD) (aCons (eFld ["Index"] "firsts" (eVar 0)) aNil)))) (mRet (eTup (aCons (eTup aNil) (aCons (eC (.int 0)) aNil)))) mNil) (mSeq (mSet 3 (eC (.int 0))) (mSeq (mFor (iV (eSl slA (eFld ["Index"] "table" (eVar 0)) (soP (e2 ixD (eFld ["Index"] "firsts" (eVar 0)) (eVar 2))) noP)) (gT 3 (gsC (gN 4) (gsC (gN 5) (gsC (gN 6) gsN)))) (mSeq (mAug 3 (fun i j => i + j) (eC (.int 1))) (mIf (tst (e2 ltD (eVar 1) (eVar 5))) (mRet (eTup (aCons (eIf (tst (e2 leD (eVar 4) (eVar 1))) (eVar 6) (eTup aNil)) (aCons (eVar 3) aNil)))) mNil))) (mRet (eTup (aCons (eTup aNil) (aCons (eVar 3) aNil)))))))))
def f_Index_find : List Da → Mo Da := fnM 7 (m_Index_find f_is_whole)
def m_Index_size : Sl → Mo Fl := (mRet (eCall (one lenD) (aCons (eFld ["Index"] "firsts" (eVar 0)) aNil)))
def f_Index_size : List Da → Mo Da := fnM 1 m_Index_size
def m_Index_most_looks (g_Index_find : List Da → Mo Da) : Sl → Mo Fl := (mSeq (mSet 1 (eL (lComp (iR1 (aCons (eCall (one lenD) (aCons (eFld ["Index"] "firsts" (eVar 0)) aNil)) aNil)) (gN 2) tYes_ (eCall (two minD) (aCons (eC (.int 100000)) (aCons (e2 subD (e2 mulD (e2 addD (eVar 2) (eC (.int 1))) (eFld ["Index"] "wide" (eVar 0))) (eC (.int 1))) aNil))) [2]))) (mRet (eCall (one max1) (aCons (eL (l2 catL (eL (lDisp (aCons (eC (.int 0)) aNil))) (eL (lComp (iV (eVar 1)) (gN 3) tYes_ (e2 ixD (eMeth "Index" "find" (fun ds => ar 2 g_Index_find (ds ++ [])) (eVar 0) (aCons (eVar 3) aNil)) (eC (.int 1))) [3])))) aNil))))
def f_Index_most_looks : List Da → Mo Da := fnM 4 (m_Index_most_looks f_Index_find)
def m_found_in : Sl → Mo Fl := (mSeq (mPar 2 3 (aCons (eC (.int 0)) (aCons (eCall (one lenD) (aCons (eVar 0) aNil)) aNil))) (mSeq (whileF (tst (e2 ltD (eVar 2) (eVar 3))) (mSeq (mSet 4 (e2 fdivD (e2 addD (eVar 2) (eVar 3)) (eC (.int 2)))) (mIf (tst (e2 leD (e2 ixD (e2 ixD (eVar 0) (eVar 4)) (eC (.int 1))) (eVar 1))) (mSet 2 (e2 addD (eVar 4) (eC (.int 1)))) (mSet 3 (eVar 4)))) 1000000) (mRet (eIf (tAnd_ (tst (e2 ltD (eVar 2) (eCall (one lenD) (aCons (eVar 0) aNil)))) (tst (e2 leD (e2 ixD (e2 ixD (eVar 0) (eVar 2)) (eC (.int 0))) (eVar 1)))) (e2 ixD (e2 ixD (eVar 0) (eVar 2)) (eC (.int 2))) (eTup aNil)))))
def f_found_in : List Da → Mo Da := fnM 5 m_found_in
def m_found_at (g_look_table g_is_whole g_found_in : List Da → Mo Da) : Sl → Mo Fl := (mSeq (mExpr (eCall (fun ds => ar 1 g_look_table (ds ++ [])) (aCons (eVar 0) aNil))) (mSeq (mIf (tNot_ (tst (eCall (fun ds => ar 3 g_is_whole (ds ++ [])) (aCons (eVar 1) (aCons (eC (.int 0)) (aCons (eC (.int 100000)) aNil)))))) mNever mNil) (mRet (eCall (fun ds => ar 2 g_found_in (ds ++ [])) (aCons (eVar 0) (aCons (eVar 1) aNil))))))
def f_found_at : List Da → Mo Da := fnM 2 (m_found_at f_look_table f_is_whole f_found_in)
def m__law_town : Sl → Mo Fl := (mRet (eH (lDisp (aCons (eIf (tst (e2 neD (eVar 0) (eL (lDisp aNil)))) (eH (lCall (one listD) (aCons (eVar 0) aNil))) (eH (lDisp (aCons (eC (.int 0)) aNil)))) (aCons (eC (.int 0)) aNil)))))
def f__law_town : List Da → Mo Da := fnM 1 m__law_town
def m__law_draw : Sl → Mo Fl := (mSeq (mSet 2 (e2 ixD (eVar 0) (eC (.int 0)))) (mSeq (mSetI (e2 addD (e2 ixD (eVar 0) (eC (.int 1))) (eC (.int 1))) (eVar 0) (eC (.int 1))) (mSeq (mSet 3 (e2 modD (e2 ixD (eVar 0) (eC (.int 1))) (eCall (one lenD) (aCons (eVar 2) aNil)))) (mSeq (mSet 4 (e2 ixD (eVar 2) (eVar 3))) (mSeq (mIf (tst (e2 geD (eVar 4) (eC (.int 1000000000000000000)))) (mSeq (mSetI (e2 fdivD (eVar 4) (eVar 1)) (eVar 2) (eVar 3)) (mRet (e2 modD (eVar 4) (eVar 1)))) mNil) (mSeq (mSet 5 (e2 modD (e2 addD (eVar 4) (e2 mulD (eC (.int 104729)) (e2 ixD (eVar 0) (eC (.int 1))))) (eC (.int 4294967291)))) (mSeq (mSet 5 (e2 modD (e2 powD (eVar 5) (eC (.int 5))) (eC (.int 4294967279)))) (mRet (e2 modD (e2 fdivD (e2 modD (e2 addD (e2 mulD (e2 fdivD (eVar 5) (eC (.int 64))) (eC (.int 69621))) (eVar 5)) (eC (.int 4294967231))) (eC (.int 8))) (eVar 1))))))))))
def f__law_draw : List Da → Mo Da := fnM 6 m__law_draw
def m__law_pick (g__law_draw : List Da → Mo Da) : Sl → Mo Fl := (mRet (e2 ixD (eVar 1) (eCall (fun ds => ar 2 g__law_draw (ds ++ [])) (aCons (eVar 0) (aCons (eCall (one lenD) (aCons (eVar 1) aNil)) aNil)))))
def f__law_pick : List Da → Mo Da := fnM 2 (m__law_pick f__law_draw)
def m__law_chain (g__law_draw g__law_pick : List Da → Mo Da) : Sl → Mo Fl := (mSeq (mSet 1 (eH (lDisp aNil))) (mSeq (mFor (iR1 (aCons (e2 addD (eC (.int 1)) (eCall (fun ds => ar 2 g__law_draw (ds ++ [])) (aCons (eVar 0) (aCons (eC (.int 3)) aNil)))) aNil)) (gN 2) (mExpr (eApp (eVar 1) (eTup (aCons (eCall (fun ds => ar 2 g__law_pick (ds ++ [])) (aCons (eVar 0) (aCons (eL (lDisp (aCons (eC (.non)) (aCons (eC (.int 0)) (aCons (eC (.int 1)) (aCons (eC (.int 4)) aNil)))))) aNil))) (aCons (eCall (fun ds => ar 2 g__law_pick (ds ++ [])) (aCons (eVar 0) (aCons (eL (lDisp (aCons (eC (.int 0)) (aCons (eC (.int 5)) (aCons (eC (.int 300)) (aCons (eC (.int 100000)) aNil)))))) aNil))) (aCons (e2 eqD (eCall (fun ds => ar 2 g__law_draw (ds ++ [])) (aCons (eVar 0) (aCons (eC (.int 2)) aNil))) (eC (.int 1))) aNil))))))) (mRet (eCall (one tupleD) (aCons (eVar 1) aNil)))))
def f__law_chain : List Da → Mo Da := fnM 3 (m__law_chain f__law_draw f__law_pick)
def m__law_table (g__law_draw g__law_chain g__law_pick : List Da → Mo Da) : Sl → Mo Fl := (mSeq (mSet 1 (eL (lComp (iR1 (aCons (e2 addD (eC (.int 1)) (eCall (fun ds => ar 2 g__law_draw (ds ++ [])) (aCons (eVar 0) (aCons (eC (.int 3)) aNil)))) aNil)) (gN 4) tYes_ (eCall (fun ds => ar 1 g__law_chain (ds ++ [])) (aCons (eVar 0) aNil)) [4]))) (mSeq (mSet 2 (eH (lDisp aNil))) (mSeq (mSet 3 (eC (.int 0))) (mSeq (mFor (iR1 (aCons (eCall (fun ds => ar 2 g__law_draw (ds ++ [])) (aCons (eVar 0) (aCons (eC (.int 9)) aNil))) aNil)) (gN 4) (mSeq (mSet 5 (e2 addD (eVar 3) (eCall (fun ds => ar 2 g__law_pick (ds ++ [])) (aCons (eVar 0) (aCons (eL (lDisp (aCons (eC (.int 0)) (aCons (eC (.int 1)) (aCons (eC (.int 5)) (aCons (eC (.int 127)) (aCons (eC (.int 128)) (aCons (eCall (fun ds => ar 2 g__law_draw (ds ++ [])) (aCons (eVar 0) (aCons (eC (.int 3000)) aNil))) aNil)))))))) aNil))))) (mSeq (mSet 3 (e2 addD (e2 addD (eVar 5) (eC (.int 1))) (eCall (fun ds => ar 2 g__law_pick (ds ++ [])) (aCons (eVar 0) (aCons (eL (lDisp (aCons (eC (.int 0)) (aCons (eC (.int 1)) (aCons (eC (.int 126)) (aCons (eC (.int 127)) (aCons (eCall (fun ds => ar 2 g__law_draw (ds ++ [])) (aCons (eVar 0) (aCons (eC (.int 3000)) aNil))) aNil))))))) aNil))))) (mExpr (eApp (eVar 2) (eTup (aCons (eVar 5) (aCons (eVar 3) (aCons (eCall (fun ds => ar 2 g__law_pick (ds ++ [])) (aCons (eVar 0) (aCons (eVar 1) aNil))) aNil))))))))) (mRet (eVar 2))))))
def f__law_table : List Da → Mo Da := fnM 6 (m__law_table f__law_draw f__law_chain f__law_pick)
def m__law_found : Sl → Mo Fl := (mSeq (mFor (iV (eVar 0)) (gT 3 (gsC (gN 2) (gsC (gN 3) (gsC (gN 4) gsN)))) (mIf (tAnd_ (tst (e2 leD (eVar 2) (eVar 1))) (tst (e2 ltD (eVar 1) (eVar 3)))) (mRet (eVar 4)) mNil)) (mRet (eTup aNil)))
def f__law_found : List Da → Mo Da := fnM 5 m__law_found
def m__law_looks : Sl → Mo Fl := (mSeq (mSet 3 (eIf (tst (e2 neD (eVar 0) (eL (lDisp aNil)))) (e2 ixD (e2 ixD (eVar 0) (e1 negD (eC (.int 1)))) (eC (.int 1))) (eC (.int 0)))) (mSeq (mSet 4 (e2 fdivD (eVar 2) (eVar 1))) (mSeq (mIf (tst (e2 geD (e2 mulD (eVar 4) (eVar 1)) (eVar 3))) (mRet (eC (.int 0))) mNil) (mSeq (mSet 5 (eL (lComp (iV (eVar 0)) (gN 7) (tst (e2 gtD (e2 ixD (eVar 7) (eC (.int 1))) (e2 mulD (eVar 4) (eVar 1)))) (eVar 7) [7]))) (mSeq (mSet 6 (eL (lComp (iV (eVar 5)) (gN 7) (tst (e2 leD (e2 ixD (eVar 7) (eC (.int 1))) (eVar 2))) (eVar 7) [7]))) (mRet (eCall (two minD) (aCons (eCall (one lenD) (aCons (eVar 5) aNil)) (aCons (e2 addD (eCall (one lenD) (aCons (eVar 6) aNil)) (eC (.int 1))) aNil)))))))))
def f__law_looks : List Da → Mo Da := fnM 8 m__law_looks
def m_law (g__law_town g__law_table g__law_pick g_Index___init__ g_Index_size g__law_draw g_Index_find g__law_looks g__law_found g_Index_most_looks g_found_at : List Da → Mo Da) : Sl → Mo Fl := (mSeq (mSet 1 (eCall (fun ds => ar 1 g__law_town (ds ++ [])) (aCons (eVar 0) aNil))) (mSeq (mSet 2 (eCall (fun ds => ar 1 g__law_table (ds ++ [])) (aCons (eVar 1) aNil))) (mSeq (mSet 3 (eL (lCall (one listD) (aCons (eVar 2) aNil)))) (mSeq (mSet 4 (vOr (e2 eqD (eVar 2) (eL (lDisp aNil))) (e2 ltD (e2 ixD (e2 ixD (eVar 2) (e1 negD (eC (.int 1)))) (eC (.int 1))) (eC (.int 400))))) (mSeq (mSet 5 (eCall (fun ds => ar 2 g__law_pick (ds ++ [])) (aCons (eVar 1) (aCons (eL (lDisp (aCons (eIf (tst (eVar 4)) (eC (.int 1)) (eC (.int 90))) (aCons (eIf (tst (eVar 4)) (eC (.int 7)) (eC (.int 200))) (aCons (eC (.int 64)) (aCons (eC (.int 64)) (aCons (eC (.int 500)) (aCons (eC (.int 10000)) aNil)))))))) aNil)))) (mSeq (mSet 6 (eIf (tst (e2 eqD (eVar 5) (eC (.int 64)))) (eMake "Index" (fun ds => ar 3 g_Index___init__ ds) (fun ro => bnd ((aCons (eVar 2) aNil) ro) fun ds => ret (ds ++ [.int 64]))) (eMakeK "Index" (fun ds => ar 3 g_Index___init__ ds) 1 1 (gD_Index___init___wide) (aCons (eVar 2) aNil) (aCons (eVar 5) aNil)))) (mSeq (mExpr (eApp (eVar 2) (eC (.str "late")))) (mSeq (mExpr (ePop (eVar 2))) (mSeq (mSet 7 (eIf (tst (e2 neD (eVar 2) (eL (lDisp aNil)))) (e2 ixD (e2 ixD (eVar 2) (e1 negD (eC (.int 1)))) (eC (.int 1))) (eC (.int 0)))) (mSeq (mIf (tOr_ (tst (e2 neD (eMeth "Index" "size" (fun ds => ar 1 g_Index_size (ds ++ [])) (eVar 6) aNil) (e2 fdivD (e2 subD (e2 addD (eVar 7) (eVar 5)) (eC (.int 1))) (eVar 5)))) (tst (e2 neD (eVar 2) (eVar 3)))) (mRet (eC (.bl false))) mNil) (mSeq (mSet 8 (eL (lDisp (aCons (eC (.int 0)) (aCons (eC (.int 100000)) (aCons (eCall (fun ds => ar 2 g__law_draw (ds ++ [])) (aCons (eVar 1) (aCons (eC (.int 30000)) aNil))) aNil)))))) (mSeq (mFor (iV (eVar 2)) (gT 3 (gsC (gN 9) (gsC (gN 10) (gsC (gN 11) gsN)))) (mSet 8 (eL (l2 catL (eVar 8) (eL (lDisp (aCons (eCall (two maxD) (aCons (eC (.int 0)) (aCons (e2 subD (eVar 9) (eC (.int 1))) aNil))) (aCons (eVar 9) (aCons (e2 subD (eVar 10) (eC (.int 1))) (aCons (eVar 10) (aCons (e2 subD (e2 mulD (e2 addD (e2 fdivD (eVar 10) (eVar 5)) (eC (.int 1))) (eVar 5)) (eC (.int 1))) aNil))))))))))) (mSeq (mSet 12 (eC (.int 0))) (mSeq (mFor (iV (eL (lComp (iV (eVar 8)) (gN 13) (tst (e2 leD (eVar 13) (eC (.int 100000)))) (eVar 13) [13]))) (gN 13) (mSeq (mSet 15 (eMeth "Index" "find" (fun ds => ar 2 g_Index_find (ds ++ [])) (eVar 6) (aCons (eVar 13) aNil))) (mSeq (mSet 16 (eTup (aCons (eCall (fun ds => ar 2 g__law_found (ds ++ [])) (aCons (eVar 2) (aCons (eVar 13) aNil))) (aCons (eCall (fun ds => ar 3 g__law_looks (ds ++ [])) (aCons (eVar 2) (aCons (eVar 5) (aCons (eVar 13) aNil)))) aNil)))) (mSeq (mIf (tOr_ (tst (e2 neD (eVar 15) (eVar 16))) (tNot_ (tst (e1 (isT .tuple) (eVar 15))))) (mRet (eC (.bl false))) mNil) (mSet 12 (eCall (two maxD) (aCons (eVar 12) (aCons (e2 ixD (eVar 15) (eC (.int 1))) aNil)))))))) (mSeq (mIf (tOr_ (tst (e2 gtD (eVar 12) (eMeth "Index" "most_looks" (fun ds => ar 1 g_Index_most_looks (ds ++ [])) (eVar 6) aNil))) (tst (e2 neD (eCall (fun ds => ar 2 g_found_at (ds ++ [])) (aCons (eVar 2) (aCons (e2 ixD (eVar 8) (eC (.int 2))) aNil))) (e2 ixD (eMeth "Index" "find" (fun ds => ar 2 g_Index_find (ds ++ [])) (eVar 6) (aCons (e2 ixD (eVar 8) (eC (.int 2))) aNil)) (eC (.int 0)))))) (mRet (eC (.bl false))) mNil) (mSeq (mFor (iR1 (aCons (eCall (two minD) (aCons (eC (.int 60)) (aCons (eMeth "Index" "size" (fun ds => ar 1 g_Index_size (ds ++ [])) (eVar 6) aNil) aNil))) aNil)) (gN 14) (mSet 12 (eCall (two maxD) (aCons (eVar 12) (aCons (e2 ixD (eMeth "Index" "find" (fun ds => ar 2 g_Index_find (ds ++ [])) (eVar 6) (aCons (eCall (two minD) (aCons (eC (.int 100000)) (aCons (e2 subD (e2 mulD (e2 addD (eVar 14) (eC (.int 1))) (eVar 5)) (eC (.int 1))) aNil))) aNil)) (eC (.int 1))) aNil))))) (mRet (vOr (e2 eqD (eMeth "Index" "most_looks" (fun ds => ar 1 g_Index_most_looks (ds ++ [])) (eVar 6) aNil) (eVar 12)) (e2 gtD (eMeth "Index" "size" (fun ds => ar 1 g_Index_size (ds ++ [])) (eVar 6) aNil) (eC (.int 60)))))))))))))))))))))
def f_law : List Da → Mo Da := fnM 17 (m_law f__law_town f__law_table f__law_pick f_Index___init__ f_Index_size f__law_draw f_Index_find f__law_looks f__law_found f_Index_most_looks f_found_at)
end CL
namespace CL
open PySem L2
/-- the town of a law: its row and its count -/
def Tw (t r : Nat) (st : Store) : Prop := t ≠ r ∧ (∃ k : Int, st[t]? = some (.lst [.han r, .int k])) ∧ ∃ xs : List Int, xs ≠ [] ∧ st[r]? = some (.lst (xs.map .int))
/-- all but the town stays -/
def Kp (t r : Nat) (st st' : Store) : Prop := st.length ≤ st'.length ∧ ∀ n, n ≠ t → n ≠ r → n < st.length → st'[n]? = st[n]?
structure Dr (t r : Nat) (st st' : Store) : Prop where
  tw : Tw t r st'
  kp : Kp t r st st'
theorem Kp.trans {t r : Nat} {a b c : Store} (h : Kp t r a b) (k : Kp t r b c) : Kp t r a c :=
  ⟨Nat.le_trans h.1 k.1, fun n h1 h2 h3 => (k.2 n h1 h2 (Nat.lt_of_lt_of_le h3 h.1)).trans (h.2 n h1 h2 h3)⟩
theorem Dr.trans {t r : Nat} {a b c : Store} (h : Dr t r a b) (k : Dr t r b c) : Dr t r a c := ⟨k.tw, h.kp.trans k.kp⟩
theorem Dr.refl {t r : Nat} {a : Store} (h : Tw t r a) : Dr t r a a := ⟨h, Nat.le_refl _, fun _ _ _ _ => rfl⟩
theorem some_lt {st : Store} {n : Nat} {c : Cell} (h : st[n]? = some c) : n < st.length := by
  by_cases z : n < st.length
  · exact z
  · rw [List.getElem?_eq_none (by omega)] at h; cases h
theorem fmod_rng (i : Int) {m : Int} (h : 1 ≤ m) : 0 ≤ i.fmod m ∧ i.fmod m < m := ⟨Int.fmod_nonneg_of_pos _ (by omega), Int.fmod_lt_of_pos _ (by omega)⟩
theorem fdiv_nn {i m : Int} (h : 0 ≤ i) (hm : 1 ≤ m) : 0 ≤ i.fdiv m := Int.fdiv_nonneg h (by omega)
theorem atI_int {α : Type} {xs : List α} {i : Int} {v : α} (h0 : 0 ≤ i) (h : xs[i.toNat]? = some v) : atI xs i = some v := by
  have := atI_nat h
  rwa [Int.toNat_of_nonneg h0] at this
theorem ixN_int {n : Nat} {i : Int} (h0 : 0 ≤ i) (h : i < n) : ixN n i = some i.toNat := by
  unfold ixN
  rw [if_pos h0, if_pos h]
theorem draw_ok {t r : Nat} {st : Store} {m : Int} (h : Tw t r st) (h1 : 1 ≤ m) (h2 : m < 1073741824) :
    Wp (f__law_draw [.han t, .int m]) st (fun d st' => ∃ v, d = .int v ∧ 0 ≤ v ∧ v < m ∧ Dr t r st st') noEx := by
  obtain ⟨hne, ⟨k, hk⟩, xs, hx, hr⟩ := h
  have hlt := some_lt hk
  have hrlt := some_lt hr
  obtain ⟨st1, hs1⟩ : ∃ st1, st1 = st.set t (.lst [.han r, .int (k + 1)]) := ⟨_, rfl⟩
  have a1 : st1[t]? = some (.lst [.han r, .int (k + 1)]) := by subst hs1; simp [hlt]
  have a2 : st1[r]? = some (.lst (xs.map .int)) := by subst hs1; rw [List.getElem?_set_ne hne]; exact hr
  have hpos : (1 : Int) ≤ xs.length := by
    cases xs with
    | nil => exact absurd rfl hx
    | cons x r => simp; omega
  obtain ⟨f0, f1⟩ := fmod_rng (k + 1) hpos
  generalize hat : (k + 1).fmod xs.length = at' at f0 f1
  have hj : at'.toNat < xs.length := by omega
  obtain ⟨c, hc⟩ : ∃ c, xs[at'.toNat]? = some c := ⟨_, List.getElem?_eq_getElem hj⟩
  have a3 : atI (xs.map Da.int) at' = some (.int c) := atI_int f0 (by rw [List.getElem?_map, hc]; rfl)
  have hl0 : (xs.length : Int) ≠ 0 := by omega
  have e1 : ∀ {post : Da → Store → Prop} {ex : Str → List Da → Store → Prop}, Wp (ixD (.han t) (.int 0)) st post ex ↔ post (.han r) st := wp_ix_h hk (atI_nat (j := 0) rfl)
  have e2 : ∀ {post : Da → Store → Prop} {ex : Str → List Da → Store → Prop}, Wp (ixD (.han t) (.int 1)) st post ex ↔ post (.int k) st := wp_ix_h hk (atI_nat (j := 1) rfl)
  have e3 : ∀ {post : Unit → Store → Prop} {ex : Str → List Da → Store → Prop}, Wp (setD (.han t) (.int 1) (.int (k + 1))) st post ex ↔ post () st1 := by subst hs1; exact wp_setD hk (j := 1) rfl
  have e4 : ∀ {post : Da → Store → Prop} {ex : Str → List Da → Store → Prop}, Wp (ixD (.han t) (.int 1)) st1 post ex ↔ post (.int (k + 1)) st1 := wp_ix_h a1 (atI_nat (j := 1) rfl)
  have e5 : ∀ {post : Da → Store → Prop} {ex : Str → List Da → Store → Prop}, Wp (lenD (.han r)) st1 post ex ↔ post (.int xs.length) st1 := by
    intro post ex
    rw [wp_len (xs := xs.map .int) (by unfold sqOf lsOf; dsimp only; rw [a2]), List.length_map]
  have e6 : ∀ {post : Da → Store → Prop} {ex : Str → List Da → Store → Prop}, Wp (ixD (.han r) (.int at')) st1 post ex ↔ post (.int c) st1 := wp_ix_h a2 a3
  have e7 : ∀ {post : Unit → Store → Prop} {ex : Str → List Da → Store → Prop} {y : Da}, Wp (setD (.han r) (.int at') y) st1 post ex ↔ post () (st1.set r (.lst ((xs.map .int).set at'.toNat y))) := wp_setD a2 (ixN_int f0 (by simpa using f1))
  unfold f__law_draw m__law_draw
  simp [startS, e1, e2, e3, e4, e5, e6, e7, hat, hl0]
  refine ⟨hx, ?_⟩
  have kp1 : Kp t r st st1 := by
    subst hs1
    refine ⟨by simp, fun n h3 h4 _ => by rw [List.getElem?_set_ne (Ne.symm h3)]⟩
  split
  · refine ⟨⟨by omega, by omega⟩, by omega, (fmod_rng c h1).1, (fmod_rng c h1).2, ⟨hne, ⟨k + 1, by rw [List.getElem?_set_ne (Ne.symm hne)]; exact a1⟩, xs.set at'.toNat (c.fdiv m), by simpa using hx, ?_⟩, by rw [List.length_set]; exact kp1.1, fun n h3 h4 h5 => by rw [List.getElem?_set_ne (Ne.symm h4)]; exact kp1.2 n h3 h4 h5⟩
    rw [List.getElem?_set_self (some_lt a2), List.map_set]
  · obtain ⟨g1, g2⟩ := fmod_rng (c + 104729 * (k + 1)) (show (1 : Int) ≤ 4294967291 by decide)
    refine ⟨.inl ⟨by decide, by decide⟩, ⟨by decide, by decide, by omega⟩, ⟨by decide, by decide⟩, .inr ⟨by decide, by decide⟩, ⟨by decide, by decide⟩, by omega, (fmod_rng _ h1).1, (fmod_rng _ h1).2, ⟨hne, ⟨k + 1, a1⟩, xs, hx, a2⟩, kp1⟩
theorem atI_mem {α : Type} {xs : List α} {i : Int} (h0 : 0 ≤ i) (h : i < xs.length) : ∃ x, atI xs i = some x ∧ x ∈ xs := by
  have hl : i.toNat < xs.length := by omega
  exact ⟨_, atI_int h0 (List.getElem?_eq_getElem hl), List.getElem_mem hl⟩
theorem pick_ok {t r : Nat} {st : Store} {xs : List Da} (h : Tw t r st) (h1 : xs ≠ []) (h2 : xs.length < 1000000) :
    Wp (f__law_pick [.han t, .lst xs]) st (fun d st' => d ∈ xs ∧ Dr t r st st') noEx := by
  have h3 : 1 ≤ xs.length := by
    cases xs with
    | nil => exact absurd rfl h1
    | cons x r => simp
  unfold f__law_pick m__law_pick
  simp [startS]
  refine (draw_ok h (by omega) (by omega)).mono fun d st' ⟨v, e, v0, v1, hd⟩ => ?_
  subst e
  obtain ⟨x, hx, hm⟩ := atI_mem v0 v1
  rw [wp_ix_l hx]
  exact ⟨hm, hd⟩
theorem new_at (st : Store) (c : Cell) : (st ++ [c])[st.length]? = some c := by simp
theorem old_at {st : Store} {c d : Cell} {n : Nat} (h : st[n]? = some d) : (st ++ [c])[n]? = some d := by
  rw [List.getElem?_append_left (some_lt h)]; exact h
theorem Tw.push {t r : Nat} {st : Store} {c : Cell} (h : Tw t r st) : Tw t r (st ++ [c]) := by
  obtain ⟨hne, ⟨k, hk⟩, xs, hx, hr⟩ := h
  exact ⟨hne, ⟨k, old_at hk⟩, xs, hx, old_at hr⟩
theorem Dr.push {t r : Nat} {st st' : Store} {c : Cell} (h : Dr t r st st') : Dr t r st (st' ++ [c]) :=
  ⟨h.tw.push, by simp; have := h.kp.1; omega, fun n h1 h2 h3 => by
    rw [List.getElem?_append_left (Nat.lt_of_lt_of_le h3 h.kp.1)]
    exact h.kp.2 n h1 h2 h3⟩
theorem Tw.set {t r n : Nat} {st : Store} {c : Cell} (h : Tw t r st) (h1 : n ≠ t) (h2 : n ≠ r) : Tw t r (st.set n c) := by
  obtain ⟨hne, ⟨k, hk⟩, xs, hx, hr⟩ := h
  exact ⟨hne, ⟨k, by rw [List.getElem?_set_ne h1]; exact hk⟩, xs, hx, by rw [List.getElem?_set_ne h2]; exact hr⟩
theorem Tw.lt {t r : Nat} {st : Store} (h : Tw t r st) : t < st.length ∧ r < st.length := by
  obtain ⟨hne, ⟨k, hk⟩, xs, hx, hr⟩ := h
  exact ⟨some_lt hk, some_lt hr⟩
/-- a cell of one's own, beyond the store one began with -/
theorem Dr.set {t r n : Nat} {st st' : Store} {c : Cell} (h : Dr t r st st') (hn : st.length ≤ n) (ht : Tw t r st) : Dr t r st (st'.set n c) := by
  have := ht.lt
  exact ⟨h.tw.set (by omega) (by omega), by rw [List.length_set]; exact h.kp.1, fun m h1 h2 h3 => by
    rw [List.getElem?_set_ne (by omega)]
    exact h.kp.2 m h1 h2 h3⟩
theorem Dr.at {t r n : Nat} {st st' : Store} {c : Cell} (h : Dr t r st st') (hn : st[n]? = some c) (h1 : n ≠ t) (h2 : n ≠ r) : st'[n]? = some c := by
  rw [h.kp.2 n h1 h2 (some_lt hn)]; exact hn
theorem town_ok (ns : List Int) : Wp (f__law_town [.fro (ns.map Da.int)]) [] (fun d st' => d = .han 1 ∧ Tw 1 0 st') noEx := by
  unfold f__law_town m__law_town
  simp [startS]
  rw [wp_ne (by simp [pl, plL_ints]) (by simp [pl, plL])]
  simp
  rw [deqL_ne]
  by_cases h : ns = []
  · subst h
    simp
    exact ⟨by decide, ⟨0, rfl⟩, [0], by simp, rfl⟩
  · simp [h]
    exact ⟨by decide, ⟨0, rfl⟩, ns, h, rfl⟩
end CL
namespace CL
open PySem L2
section
variable {st : Store} {ex : Str → List Da → Store → Prop} {post : Da → Store → Prop}
@[simp] theorem wp_whole {i lo hi : Int} : Wp (f_is_whole [.int i, .int lo, .int hi]) st post ex ↔ post (.bl (decide (lo ≤ i ∧ i ≤ hi))) st := by
  unfold f_is_whole m_is_whole
  simp [startS, isTn]
  by_cases h1 : lo ≤ i
  · by_cases h2 : i ≤ hi <;> simp [h1, h2]
  · simp [h1]
end
def IsLink (d : Da) : Prop := ∃ (a : Da) (b : Int) (c : Bool), d = .tup [a, .int b, .bl c] ∧ (a = .non ∨ ∃ k : Int, a = .int k ∧ 0 ≤ k ∧ k ≤ 4) ∧ 0 ≤ b ∧ b ≤ 100000
def Thin (d : Da) : Prop := ∃ xs : List Da, d = .tup xs ∧ xs.length ≤ 3
def IsCh (d : Da) : Prop := ∃ xs : List Da, d = .tup xs ∧ xs ≠ [] ∧ xs.length ≤ 1000 ∧ ∀ x ∈ xs, IsLink x
abbrev Row := Int × Int × Da
def rowD (r : Row) : Da := .tup [.int r.1, .int r.2.1, r.2.2]
def Rows : Int → List Row → Prop
  | _, [] => True
  | at_, (b, e, c) :: r => at_ ≤ b ∧ b < e ∧ e ≤ 100000 ∧ IsCh c ∧ Rows e r
theorem IsLink.pl {d : Da} (h : IsLink d) : pl 1 d = true := by
  obtain ⟨a, b, c, rfl, h, _⟩ := h
  rcases h with rfl | ⟨k, rfl, _⟩ <;> simp [CL.pl, plL]
theorem IsCh.pl {d : Da} (h : IsCh d) : pl 2 d = true := by
  obtain ⟨xs, rfl, _, _, h⟩ := h
  simp only [CL.pl]
  rw [plL_all, List.all_eq_true]
  exact fun x hx => (h x hx).pl
section
variable {st : Store} {ex : Str → List Da → Store → Prop} {post : Da → Store → Prop}
theorem chain_ok {d : Da} (h : IsCh d) (hp : post (.bl true) st) : Wp (f_is_chain [d]) st post ex := by
  have hpl := h.pl
  obtain ⟨xs, rfl, hne, _, h⟩ := h
  unfold f_is_chain m_is_chain
  simp [startS, isTn]
  rw [wp_eq (pl_le _ _ _ (by decide) hpl) (by simp [CL.pl, plL])]
  simp [deqL_ne, hne, wp_for]
  refine wp_forI (fun i ro s => (∃ o, ro = [some (.tup xs), o]) ∧ s = st) ⟨⟨_, rfl⟩, rfl⟩ ?_ ?_
  · intro i x ro s hx ⟨⟨o, e⟩, e2⟩
    subst e e2
    obtain ⟨a, b, c, rfl, ha, hb⟩ := h x (List.mem_of_getElem? hx)
    refine ⟨_, rfl, ?_⟩
    rcases ha with rfl | ⟨k, rfl, hk⟩
    · simp [isTn, hb]
    · simp [isTn, hb, hk]
  · intro ro s ⟨_, e⟩
    subst e
    exact hp
theorem Rows.mem : ∀ {at_ : Int} {rs : List Row}, Rows at_ rs → 0 ≤ at_ → ∀ r ∈ rs, 0 ≤ r.1 ∧ r.1 < r.2.1 ∧ r.2.1 ≤ 100000 ∧ IsCh r.2.2
  | _, [], _, _, r, hr => nomatch hr
  | at_, (b, e, c) :: rs, h, h0, r, hr => by
    obtain ⟨h1, h2, h3, h4, h5⟩ := h
    rcases List.mem_cons.mp hr with rfl | hr
    · exact ⟨by simp; omega, h2, h3, h4⟩
    · exact Rows.mem h5 (by omega) r hr
theorem Rows.drop : ∀ {at_ : Int} {rs : List Row}, Rows at_ rs → ∀ (i : Nat), ∃ at2, Rows at2 (rs.drop i) ∧ (at2 = if i = 0 then at_ else match rs[i - 1]? with | some r => r.2.1 | none => at2)
  | at_, rs, h, 0 => ⟨at_, h, rfl⟩
  | at_, [], h, i + 1 => ⟨0, trivial, by simp⟩
  | at_, (b, e, c) :: rs, h, i + 1 => by
    obtain ⟨a2, h1, h2⟩ := Rows.drop h.2.2.2.2 i
    refine ⟨a2, h1, ?_⟩
    cases i with
    | zero => simpa using h2
    | succ i => simpa using h2
theorem tab_ok {rs : List Row} (h : Rows 0 rs) (hp : post (.bl true) st) : Wp (f_is_table [.lst (rs.map rowD)]) st post ex := by
  unfold f_is_table m_is_table
  simp [startS, isTn, wp_for]
  refine wp_forI (fun i ro s => (∃ (a : Int) (o1 o2 : Option Da), ro = [some (.lst (rs.map rowD)), some (.int a), o1, o2] ∧ 0 ≤ a ∧ Rows a (rs.drop i)) ∧ s = st) ⟨⟨0, _, _, rfl, by decide, h⟩, rfl⟩ ?_ ?_
  · intro i x ro s hx ⟨⟨a, o1, o2, e, ha, hr⟩, e2⟩
    subst e e2
    rw [List.getElem?_map] at hx
    obtain ⟨⟨b, e, c⟩, hq, rfl⟩ := Option.map_eq_some_iff.mp hx
    refine ⟨_, rfl, ?_⟩
    have hlt : i < rs.length := by
      by_cases z : i < rs.length
      · exact z
      · rw [List.getElem?_eq_none (by omega)] at hq; cases hq
    have hg : rs[i] = (b, e, c) := by
      rw [List.getElem?_eq_getElem hlt] at hq
      exact Option.some.inj hq
    rw [List.drop_eq_getElem_cons hlt, hg] at hr
    obtain ⟨h1, h2, h3, h4, h5⟩ := hr
    simp [isTn, rowD]
    refine chain_ok h4 ?_
    simp [wp_lComp]
    rw [if_pos (by omega), if_neg (by omega), if_neg (by omega)]
    exact ⟨by omega, h5⟩
  · intro ro s ⟨_, e⟩
    subst e
    exact hp
theorem look_ok {rs : List Row} (h : Rows 0 rs) (hp : post .non st) : Wp (f_look_table [.lst (rs.map rowD)]) st post ex := by
  unfold f_look_table m_look_table
  simp [startS]
  refine tab_ok h ?_
  simpa using hp
end
theorem Rows.sorted : ∀ {at_ : Int} {rs : List Row}, Rows at_ rs → (∀ r ∈ rs, at_ ≤ r.1) ∧ rs.Pairwise (fun r s => r.2.1 ≤ s.1)
  | _, [], _ => ⟨fun r h => absurd h (by simp), List.Pairwise.nil⟩
  | at_, (b, e, c) :: rs, h => by
    obtain ⟨h1, h2, h3, h4, h5⟩ := h
    obtain ⟨k1, k2⟩ := Rows.sorted h5
    refine ⟨fun r hr => ?_, List.Pairwise.cons k1 k2⟩
    rcases List.mem_cons.mp hr with rfl | hr
    · exact h1
    · have := k1 r hr; omega
def holds (p : Int) (r : Row) : Bool := decide (r.1 ≤ p ∧ p < r.2.1)
def fnd (rs : List Row) (p : Int) : Da := match rs.find? (holds p) with
  | some r => r.2.2
  | none => .tup []
theorem fnd_mid {rs : List Row} {p : Int} {i : Nat} (h : Rows 0 rs) (hi : i < rs.length) (h1 : ∀ (j : Nat) (hj : j < rs.length), j < i → rs[j].2.1 ≤ p) (h2 : p < rs[i].2.1) :
    fnd rs p = if rs[i].1 ≤ p then rs[i].2.2 else .tup [] := by
  obtain ⟨_, hs⟩ := h.sorted
  rw [List.pairwise_iff_getElem] at hs
  unfold fnd
  by_cases hb : rs[i].1 ≤ p
  · rw [if_pos hb, List.find?_eq_some_iff_getElem.mpr ⟨by simp [holds]; omega, i, hi, rfl, fun j hj => ?_⟩]
    have := h1 j (by omega) hj
    simp [holds]
    omega
  · rw [if_neg hb, List.find?_eq_none.mpr fun r hr => ?_]
    obtain ⟨j, hj, rfl⟩ := List.mem_iff_getElem.mp hr
    simp [holds]
    intro hq
    by_cases z : j < i
    · exact h1 j hj z
    · by_cases z2 : j = i
      · subst z2; omega
      · have a1 := hs i j hi hj (by omega)
        have a2 := (h.mem (by decide) rs[i] (List.getElem_mem hi)).2.1
        omega
theorem fnd_end {rs : List Row} {p : Int} (h1 : ∀ (j : Nat) (hj : j < rs.length), rs[j].2.1 ≤ p) : fnd rs p = .tup [] := by
  unfold fnd
  rw [List.find?_eq_none.mpr]
  intro r hr
  obtain ⟨j, hj, rfl⟩ := List.mem_iff_getElem.mp hr
  have := h1 j hj
  simp [holds]
  omega
section
variable {st : Store} {ex : Str → List Da → Store → Prop} {post : Da → Store → Prop}
theorem row_at {rs : List Row} {i : Nat} (hi : i < rs.length) : atI (rs.map rowD) (i : Int) = some (rowD rs[i]) := atI_nat (by rw [List.getElem?_map, List.getElem?_eq_getElem hi]; rfl)
theorem found_in_ok {rs : List Row} {p : Int} (h : Rows 0 rs) (hl : rs.length < 1000000) (hp : post (fnd rs p) st) : Wp (f_found_in [.lst (rs.map rowD), .int p]) st post ex := by
  unfold f_found_in m_found_in
  simp [startS]
  refine wp_whileI (fun k ro s => s = st ∧ ∃ (lo hi : Nat) (o : Option Da), ro = [some (.lst (rs.map rowD)), some (.int p), some (.int lo), some (.int hi), o] ∧ lo ≤ hi ∧ hi ≤ rs.length ∧ k = hi - lo ∧
    (∀ (j : Nat) (hj : j < rs.length), j < lo → rs[j].2.1 ≤ p) ∧ ∀ (j : Nat) (hj : j < rs.length), hi ≤ j → p < rs[j].2.1) ?_ _ rs.length _ _ hl ⟨rfl, 0, rs.length, _, rfl, by omega, by omega, by omega, fun j _ h => by omega, fun j _ h => by omega⟩
  rintro k ro s ⟨rfl, lo, hi, o, rfl, h1, h2, rfl, h3, h4⟩
  simp
  by_cases hlt : lo < hi
  · rw [if_pos hlt]
    refine ⟨⟨by decide, by decide⟩, ?_⟩
    have hm : ((lo : Int) + hi).fdiv 2 = ((lo + hi) / 2 : Nat) := by
      rw [Int.fdiv_eq_ediv_of_nonneg _ (by decide)]
      omega
    rw [hm]
    generalize hg : (lo + hi) / 2 = mid
    have hmid : mid < rs.length := by omega
    rw [wp_ix_l (row_at hmid)]
    simp [rowD]
    obtain ⟨_, hs⟩ := h.sorted
    rw [List.pairwise_iff_getElem] at hs
    by_cases hc : rs[mid].2.1 ≤ p
    · simp [hc]
      refine ⟨hi - (mid + 1), by omega, mid + 1, hi, ⟨by simp, rfl⟩, by omega, h2, rfl, fun j hj z => ?_, h4⟩
      by_cases z2 : j = mid
      · subst z2; exact hc
      · have a1 := hs j mid hj hmid (by omega)
        have a2 := (h.mem (by decide) rs[mid] (List.getElem_mem hmid)).2.1
        omega
    · simp [hc]
      refine ⟨mid - lo, by omega, lo, mid, ⟨rfl, rfl⟩, by omega, by omega, rfl, h3, fun j hj z => ?_⟩
      by_cases z2 : j = mid
      · subst z2; omega
      · have a1 := hs mid j hmid hj (by omega)
        have a2 := (h.mem (by decide) rs[j] (List.getElem_mem hj)).2.1
        omega
  · have e : lo = hi := by omega
    subst e
    simp
    by_cases hn : lo < rs.length
    · rw [wp_ix_l (row_at hn)]
      simp [rowD, hn]
      rw [fnd_mid h hn (fun j hj z => h3 j hj z) (h4 lo hn (Nat.le_refl _))] at hp
      by_cases hb : rs[lo].1 ≤ p
      · simp [hb]
        rw [wp_ix_l (row_at hn)]
        simpa [hb, rowD] using hp
      · simpa [hb] using hp
    · rw [fnd_end fun j hj => h3 j hj (by omega)] at hp
      simpa [hn] using hp
end
theorem app_h {n : Nat} {x : Da} {xs : List Da} {st : Store} {ex : Str → List Da → Store → Prop} {post : Da → Store → Prop} (h : st[n]? = some (.lst xs)) (hl : xs.length < 1000000) (hp : post .non (st.set n (.lst (xs ++ [x])))) : Wp (appD (.han n) x) st post ex := (wp_appD h hl).mpr hp
theorem law_chain_ok {t r : Nat} {st : Store} (h : Tw t r st) : Wp (f__law_chain [.han t]) st (fun d st' => IsCh d ∧ Thin d ∧ Dr t r st st') noEx := by
  unfold f__law_chain m__law_chain
  simp [startS, wp_for]
  have hlt := h.lt
  refine (draw_ok h.push (by decide) (by decide)).mono fun d st1 ⟨v, e, v0, v1, hd⟩ => ?_
  subst e
  simp
  have hn : (1 + v).toNat = v.toNat + 1 := by omega
  refine ⟨⟨by omega, by omega⟩, ?_⟩
  refine wp_forI (fun i ro s => (∃ o, ro = [some (.han t), some (.han st.length), o]) ∧ (∃ xs : List Da, s[st.length]? = some (.lst xs) ∧ xs.length = i ∧ ∀ x ∈ xs, IsLink x) ∧ Dr t r st s) ?_ ?_ ?_
  · refine ⟨⟨_, rfl⟩, ⟨[], hd.at (new_at _ _) (by omega) (by omega), rfl, fun x hx => nomatch hx⟩, (Dr.refl h).push.trans hd⟩
  · rintro i x ro s hx ⟨⟨o, rfl⟩, ⟨xs, hxs, hlen, hal⟩, hdr⟩
    obtain ⟨hi, rfl⟩ := rng_get hx
    refine ⟨_, rfl, ?_⟩
    simp
    rw [wp_isLs_h hxs]
    refine (pick_ok hdr.tw (by simp) (by simp)).mono fun d1 s1 ⟨m1, k1⟩ => ?_
    refine (pick_ok k1.tw (by simp) (by simp)).mono fun d2 s2 ⟨m2, k2⟩ => ?_
    refine (draw_ok k2.tw (by decide) (by decide)).mono fun d3 s3 ⟨v3, e3, a3, b3, k3⟩ => ?_
    subst e3
    simp
    have hxs3 : s3[st.length]? = some (.lst xs) := k3.at (k2.at (k1.at hxs (by omega) (by omega)) (by omega) (by omega)) (by omega) (by omega)
    refine app_h hxs3 (by omega) ?_
    refine ⟨⟨_, List.getElem?_set_self (some_lt hxs3), by simp [hlen], fun x hx => ?_⟩, ((hdr.trans k1).trans (k2.trans k3)).set (Nat.le_refl _) h⟩
    rcases List.mem_append.mp hx with hx | hx
    · exact hal x hx
    · rw [List.mem_singleton] at hx
      subst hx
      simp at m1 m2
      refine ⟨d1, ?_⟩
      rcases m2 with rfl | rfl | rfl | rfl <;> refine ⟨_, _, rfl, ?_, by decide, by decide⟩ <;> (rcases m1 with rfl | rfl | rfl | rfl <;> simp)
  · rintro ro s ⟨⟨o, rfl⟩, ⟨xs, hxs, hlen, hal⟩, hdr⟩
    simp
    rw [wp_tuple_h hxs]
    simp [rngL] at hlen
    refine ⟨⟨xs, rfl, ?_, by omega, hal⟩, ⟨xs, rfl, by omega⟩, hdr⟩
    intro z; subst z; simp at hlen; omega
theorem Rows.snoc {b e : Int} {c : Da} : ∀ {a : Int} {rs : List Row}, Rows a rs → (∀ r ∈ rs, r.2.1 ≤ b) → a ≤ b → b < e → e ≤ 100000 → IsCh c → Rows a (rs ++ [(b, e, c)])
  | a, [], _, _, h1, h2, h3, h4 => ⟨h1, h2, h3, h4, trivial⟩
  | a, (b', e', c') :: rs, h, hal, h1, h2, h3, h4 => by
    obtain ⟨k1, k2, k3, k4, k5⟩ := h
    exact ⟨k1, k2, k3, k4, Rows.snoc k5 (fun r hr => hal r (List.mem_cons_of_mem _ hr)) (hal _ (List.mem_cons_self ..)) h2 h3 h4⟩
end CL
namespace CL
open PySem L2
/-! ### plain: counting ranges -/
def cnt (rs : List Row) (b : Int) : Nat := (rs.filter fun r => decide (r.2.1 ≤ b)).length
def lastE (rs : List Row) : Int := match rs.getLast? with
  | some r => r.2.1
  | none => 0
theorem Rows.above {a : Int} {rs : List Row} (h : Rows a rs) (h0 : 0 ≤ a) : ∀ r ∈ rs, a < r.2.1 := fun r hr => by
  have h1 := h.sorted.1 r hr
  have h2 := (h.mem h0 r hr).2.1
  omega
theorem cnt_le (rs : List Row) (b : Int) : cnt rs b ≤ rs.length := List.length_filter_le _ _
theorem cnt_iff {b : Int} : ∀ {a : Int} {rs : List Row}, Rows a rs → 0 ≤ a → ∀ (j : Nat) (hj : j < rs.length), rs[j].2.1 ≤ b ↔ j < cnt rs b
  | _, [], _, _, j, hj => by simp at hj
  | a, (b0, e, c) :: rs, h, h0, j, hj => by
    obtain ⟨h1, h2, h3, h4, h5⟩ := h
    have h0' : 0 ≤ e := by omega
    by_cases he : e ≤ b
    · have hc : cnt ((b0, e, c) :: rs) b = cnt rs b + 1 := by unfold cnt; rw [List.filter_cons_of_pos (by simpa using he)]; rfl
      rw [hc]
      cases j with
      | zero => simp [he]
      | succ j =>
        have := cnt_iff (b := b) h5 h0' j (by simpa using hj)
        simp only [List.getElem_cons_succ]
        omega
    · have hz : cnt rs b = 0 := by
        unfold cnt
        rw [List.length_eq_zero_iff, List.filter_eq_nil_iff]
        intro r hr
        have := h5.above h0' r hr
        simp
        omega
      have hc : cnt ((b0, e, c) :: rs) b = 0 := by
        unfold cnt at hz ⊢
        rw [List.filter_cons_of_neg (by simpa using he)]
        exact hz
      rw [hc]
      cases j with
      | zero => simp; omega
      | succ j =>
        have := h5.above h0' _ (List.getElem_mem (show j < rs.length by simpa using hj))
        simp only [List.getElem_cons_succ]
        omega
theorem cnt_mono {rs : List Row} {a b : Int} (h : a ≤ b) : cnt rs a ≤ cnt rs b := by
  unfold cnt
  induction rs with
  | nil => simp
  | cons r rs ih =>
    by_cases h1 : r.2.1 ≤ a
    · rw [List.filter_cons_of_pos (by simpa using h1), List.filter_cons_of_pos (by simp; omega)]
      simpa using ih
    · rw [List.filter_cons_of_neg (by simpa using h1)]
      by_cases h2 : r.2.1 ≤ b
      · rw [List.filter_cons_of_pos (by simpa using h2)]; simp; omega
      · rw [List.filter_cons_of_neg (by simpa using h2)]; exact ih
theorem cnt_gt (rs : List Row) (b : Int) : (rs.filter fun r => decide (b < r.2.1)).length + cnt rs b = rs.length := by
  unfold cnt
  induction rs with
  | nil => rfl
  | cons r rs ih =>
    by_cases h : r.2.1 ≤ b
    · rw [List.filter_cons_of_neg (by simp; omega), List.filter_cons_of_pos (by simpa using h)]
      simp; omega
    · rw [List.filter_cons_of_pos (by simp; omega), List.filter_cons_of_neg (by simpa using h)]
      simp; omega
theorem cnt_btw {rs : List Row} {b p : Int} (h : b ≤ p) : ((rs.filter fun r => decide (b < r.2.1)).filter fun r => decide (r.2.1 ≤ p)).length + cnt rs b = cnt rs p := by
  unfold cnt
  induction rs with
  | nil => rfl
  | cons r rs ih =>
    by_cases h1 : r.2.1 ≤ b
    · have e1 : decide (b < r.2.1) = false := by simp; omega
      have e2 : decide (r.2.1 ≤ b) = true := by simpa using h1
      have e3 : decide (r.2.1 ≤ p) = true := by simp; omega
      simp only [List.filter_cons, e1, e2, e3, if_true, Bool.false_eq_true, if_false, List.length_cons]
      omega
    · have e1 : decide (b < r.2.1) = true := by simp; omega
      have e2 : decide (r.2.1 ≤ b) = false := by simpa using h1
      by_cases h2 : r.2.1 ≤ p
      · have e3 : decide (r.2.1 ≤ p) = true := by simpa using h2
        simp only [List.filter_cons, e1, e2, e3, if_true, Bool.false_eq_true, if_false, List.length_cons]
        omega
      · have e3 : decide (r.2.1 ≤ p) = false := by simpa using h2
        simp only [List.filter_cons, e1, e2, e3, if_true, Bool.false_eq_true, if_false, List.length_cons]
        omega
theorem lastE_nil : lastE [] = 0 := rfl
theorem lastE_at {rs : List Row} (h : rs ≠ []) : ∃ hl : rs.length - 1 < rs.length, lastE rs = rs[rs.length - 1].2.1 := by
  have hp : 0 < rs.length := List.length_pos_iff.mpr h
  refine ⟨by omega, ?_⟩
  unfold lastE
  rw [List.getLast?_eq_getElem?, List.getElem?_eq_getElem (by omega)]
theorem cnt_lt_last {rs : List Row} {b : Int} (h : Rows 0 rs) (hb : b < lastE rs) (h0 : 0 ≤ b) : cnt rs b < rs.length := by
  have hne : rs ≠ [] := by intro z; subst z; simp [lastE] at hb; omega
  obtain ⟨hl, e⟩ := lastE_at hne
  have := (cnt_iff (b := b) h (by decide) _ hl).mpr
  by_cases z : cnt rs b < rs.length
  · exact z
  · have := this (by omega)
    omega
/-- how many stretches -/
def strN (l w : Int) : Nat := ((l + w - 1) / w).toNat
theorem strN_iff {l w k : Int} (hw : 1 ≤ w) (hk : 0 ≤ k) (hl : 0 ≤ l) : k < strN l w ↔ k * w < l := by
  unfold strN
  have hq : 0 ≤ (l + w - 1) / w := Int.ediv_nonneg (by omega) (by omega)
  rw [Int.toNat_of_nonneg hq, Int.lt_iff_add_one_le, Int.le_ediv_iff_mul_le (by omega), Int.add_mul]
  omega
def looksP (rs : List Row) (w p : Int) : Int := if lastE rs ≤ p / w * w then 0 else min ((rs.length - cnt rs (p / w * w) : Nat) : Int) ((cnt rs p - cnt rs (p / w * w) : Nat) + 1)
def placeP (w k : Int) : Int := min 100000 ((k + 1) * w - 1)
def mostP (rs : List Row) (w : Int) : Int := maxL ((0 : Int) :: (List.range (strN (lastE rs) w)).map fun (k : Nat) => looksP rs w (placeP w (k : Int)))
theorem looks_nn {rs : List Row} {w p : Int} : 0 ≤ looksP rs w p := by
  unfold looksP; split <;> omega
theorem place_of {l w k : Int} (hw : 1 ≤ w) (hw2 : w ≤ 10000) (hk : 0 ≤ k) (hl : l ≤ 50000) (h : k * w < l) : placeP w k = (k + 1) * w - 1 ∧ placeP w k / w = k ∧ 0 ≤ placeP w k ∧ placeP w k ≤ 100000 := by
  have e : placeP w k = (k + 1) * w - 1 := by
    unfold placeP
    rw [Int.add_mul]; omega
  have h0 : 0 ≤ k * w := Int.mul_nonneg hk (by omega)
  rw [e]
  refine ⟨rfl, ?_, by rw [Int.add_mul]; omega, by rw [Int.add_mul]; omega⟩
  have : (k + 1) * w - 1 = k * w + (w - 1) := by rw [Int.add_mul]; omega
  rw [this, Int.mul_comm k w, Int.mul_add_ediv_left _ _ (by omega), Int.ediv_eq_zero_of_lt (by omega) (by omega)]
  omega
theorem looks_most {rs : List Row} {w p : Int} (h : Rows 0 rs) (hl : lastE rs ≤ 50000) (h0 : 0 ≤ lastE rs) (hw : 1 ≤ w) (hw2 : w ≤ 10000) (hp : 0 ≤ p) : looksP rs w p ≤ mostP rs w := by
  have hm := (maxL_is (ns := (0 : Int) :: (List.range (strN (lastE rs) w)).map fun (k : Nat) => looksP rs w (placeP w (k : Int))) (by simp)).2
  by_cases hs : lastE rs ≤ p / w * w
  · unfold looksP
    rw [if_pos hs]
    exact hm 0 (by simp)
  · have hq : 0 ≤ p / w := Int.ediv_nonneg hp (by omega)
    have hlt : p / w * w < lastE rs := by omega
    have hk := (strN_iff (k := p / w) hw hq h0).mpr hlt
    obtain ⟨e1, e2, _, _⟩ := place_of hw hw2 hq hl hlt
    have hmem := hm (looksP rs w (placeP w (p / w))) (List.mem_cons_of_mem _ (List.mem_map.mpr ⟨(p / w).toNat, List.mem_range.mpr (by omega), by rw [Int.toNat_of_nonneg hq]⟩))
    refine Int.le_trans ?_ hmem
    unfold looksP
    rw [e2, if_neg hs, if_neg hs]
    have hple : p ≤ placeP w (p / w) := by
      rw [e1]
      have := Int.lt_ediv_add_one_mul_self p (show (0 : Int) < w by omega)
      omega
    have := cnt_mono (rs := rs) hple
    omega
theorem most_is {rs : List Row} {w best : Int} (hb : best ≤ mostP rs w) (h0 : 0 ≤ best) (hal : ∀ j : Nat, j < strN (lastE rs) w → looksP rs w (placeP w j) ≤ best) : mostP rs w = best := by
  have hm := (maxL_is (ns := (0 : Int) :: (List.range (strN (lastE rs) w)).map fun (k : Nat) => looksP rs w (placeP w (k : Int))) (by simp)).1
  rcases List.mem_cons.mp hm with h | h
  · have : mostP rs w = 0 := h
    omega
  · obtain ⟨j, hj, e⟩ := List.mem_map.mp h
    have h1 := hal j (List.mem_range.mp hj)
    have : mostP rs w = looksP rs w (placeP w j) := e.symm
    omega
end CL
namespace CL
open PySem L2
theorem rows_pl {rs : List Row} {a : Int} (h : Rows a rs) (h0 : 0 ≤ a) : plL 3 (rs.map rowD) = true := by
  rw [plL_all, List.all_eq_true]
  intro x hx
  obtain ⟨r, hr, rfl⟩ := List.mem_map.mp hx
  have := (h.mem h0 r hr).2.2.2
  simp [rowD, pl, plL, this.pl]
theorem IsCh.pl60 {d : Da} (h : IsCh d) : CL.pl 50 d = true := pl_le _ _ _ (by decide) h.pl
theorem fnd_pl {rs : List Row} {p : Int} (h : Rows 0 rs) : pl 50 (fnd rs p) = true := by
  unfold fnd
  cases q : rs.find? (holds p) with
  | none => simp [pl, plL]
  | some r => exact (h.mem (by decide) r (List.mem_of_find?_eq_some q)).2.2.2.pl60
section
variable {st : Store} {ex : Str → List Da → Store → Prop} {post : Da → Store → Prop}
/-! ### tables that may change -/
theorem tab_h {n : Nat} {rs : List Row} (hn : st[n]? = some (.lst (rs.map rowD))) (h : Rows 0 rs) (hp : post (.bl true) st) : Wp (f_is_table [.han n]) st post ex := by
  unfold f_is_table m_is_table
  simp [startS, wp_for]
  rw [wp_isT (u := .list) (by unfold tyN; dsimp only; rw [hn])]
  simp [isTn]
  rw [wp_srcV_h hn]
  dsimp only
  refine wp_forIh (fun i ro s => (∃ (a : Int) (o1 o2 : Option Da), ro = [some (.han n), some (.int a), o1, o2] ∧ 0 ≤ a ∧ Rows a (rs.drop i)) ∧ s = st) ⟨⟨0, _, _, rfl, by decide, h⟩, rfl⟩ (fun i ro s q => by rw [q.2]; exact hn) ?_ ?_
  · intro i x ro s hx ⟨⟨a, o1, o2, e, ha, hr⟩, e2⟩
    subst e e2
    rw [List.getElem?_map] at hx
    obtain ⟨⟨b, e, c⟩, hq, rfl⟩ := Option.map_eq_some_iff.mp hx
    refine ⟨_, rfl, ?_⟩
    have hlt : i < rs.length := by
      by_cases z : i < rs.length
      · exact z
      · rw [List.getElem?_eq_none (by omega)] at hq; cases hq
    have hg : rs[i] = (b, e, c) := by
      rw [List.getElem?_eq_getElem hlt] at hq
      exact Option.some.inj hq
    rw [List.drop_eq_getElem_cons hlt, hg] at hr
    obtain ⟨h1, h2, h3, h4, h5⟩ := hr
    simp [isTn, rowD]
    refine chain_ok h4 ?_
    simp [wp_lComp]
    rw [if_pos (by omega), if_neg (by omega), if_neg (by omega)]
    exact ⟨by omega, h5⟩
  · intro ro s ⟨_, e⟩
    subst e
    exact hp
theorem look_h {n : Nat} {rs : List Row} (hn : st[n]? = some (.lst (rs.map rowD))) (h : Rows 0 rs) (hp : post .non st) : Wp (f_look_table [.han n]) st post ex := by
  unfold f_look_table m_look_table
  simp [startS]
  refine tab_h hn h ?_
  simpa using hp
theorem found_in_h {n : Nat} {rs : List Row} {p : Int} (hn : st[n]? = some (.lst (rs.map rowD))) (h : Rows 0 rs) (hl : rs.length < 1000000) (hp : post (fnd rs p) st) : Wp (f_found_in [.han n, .int p]) st post ex := by
  unfold f_found_in m_found_in
  simp [startS]
  rw [wp_len_h hn]
  simp
  refine wp_whileI (fun k ro s => s = st ∧ ∃ (lo hi : Nat) (o : Option Da), ro = [some (.han n), some (.int p), some (.int lo), some (.int hi), o] ∧ lo ≤ hi ∧ hi ≤ rs.length ∧ k = hi - lo ∧
    (∀ (j : Nat) (hj : j < rs.length), j < lo → rs[j].2.1 ≤ p) ∧ ∀ (j : Nat) (hj : j < rs.length), hi ≤ j → p < rs[j].2.1) ?_ _ rs.length _ _ hl ⟨rfl, 0, rs.length, _, rfl, by omega, by omega, by omega, fun j _ h => by omega, fun j _ h => by omega⟩
  rintro k ro s ⟨rfl, lo, hi, o, rfl, h1, h2, rfl, h3, h4⟩
  simp
  by_cases hlt : lo < hi
  · rw [if_pos hlt]
    refine ⟨⟨by decide, by decide⟩, ?_⟩
    have hm : ((lo : Int) + hi).fdiv 2 = ((lo + hi) / 2 : Nat) := by
      rw [Int.fdiv_eq_ediv_of_nonneg _ (by decide)]
      omega
    rw [hm]
    generalize hg : (lo + hi) / 2 = mid
    have hmid : mid < rs.length := by omega
    rw [wp_ix_h hn (row_at hmid)]
    simp [rowD]
    obtain ⟨_, hs⟩ := h.sorted
    rw [List.pairwise_iff_getElem] at hs
    by_cases hc : rs[mid].2.1 ≤ p
    · simp [hc]
      refine ⟨hi - (mid + 1), by omega, mid + 1, hi, ⟨by simp, rfl⟩, by omega, h2, rfl, fun j hj z => ?_, h4⟩
      by_cases z2 : j = mid
      · subst z2; exact hc
      · have a1 := hs j mid hj hmid (by omega)
        have a2 := (h.mem (by decide) rs[mid] (List.getElem_mem hmid)).2.1
        omega
    · simp [hc]
      refine ⟨mid - lo, by omega, lo, mid, ⟨rfl, rfl⟩, by omega, by omega, rfl, h3, fun j hj z => ?_⟩
      by_cases z2 : j = mid
      · subst z2; omega
      · have a1 := hs mid j hmid hj (by omega)
        have a2 := (h.mem (by decide) rs[j] (List.getElem_mem hj)).2.1
        omega
  · have e : lo = hi := by omega
    subst e
    simp
    rw [wp_len_h hn]
    simp
    by_cases hn' : lo < rs.length
    · rw [wp_ix_h hn (row_at hn')]
      simp [rowD, hn']
      rw [fnd_mid h hn' (fun j hj z => h3 j hj z) (h4 lo hn' (Nat.le_refl _))] at hp
      by_cases hb : rs[lo].1 ≤ p
      · simp [hb]
        rw [wp_ix_h hn (row_at hn')]
        simpa [hb, rowD] using hp
      · simpa [hb] using hp
    · rw [fnd_end fun j hj => h3 j hj (by omega)] at hp
      simpa [hn'] using hp
theorem found_at_h {n : Nat} {rs : List Row} {p : Int} (hn : st[n]? = some (.lst (rs.map rowD))) (h : Rows 0 rs) (hl : rs.length < 1000000) (h0 : 0 ≤ p) (h1 : p ≤ 100000) (hp : post (fnd rs p) st) : Wp (f_found_at [.han n, .int p]) st post ex := by
  unfold f_found_at m_found_at
  simp [startS]
  refine look_h hn h ?_
  simp [h0, h1]
  exact found_in_h hn h hl hp
end
theorem at_last {α : Type} {xs : List α} {x : α} (h : xs.getLast? = some x) : atI xs (-1) = some x := by
  have hne : xs ≠ [] := by intro z; subst z; simp at h
  have hp : 0 < xs.length := List.length_pos_iff.mpr hne
  rw [List.getLast?_eq_getElem?] at h
  unfold atI ixN
  rw [if_neg (by decide), if_pos (by omega)]
  show xs[((-1 : Int) + xs.length).toNat]? = _
  rw [show ((-1 : Int) + xs.length).toNat = xs.length - 1 by omega]
  exact h
theorem last_row {rs : List Row} (hne : rs ≠ []) : ∃ r : Row, r ∈ rs ∧ r.2.1 = lastE rs ∧ atI (rs.map rowD) (-1) = some (rowD r) := by
  obtain ⟨r, hr⟩ : ∃ r, rs.getLast? = some r := ⟨_, List.getLast?_eq_some_getLast hne⟩
  refine ⟨r, List.mem_of_getLast? hr, by unfold lastE; rw [hr], at_last ?_⟩
  rw [List.getLast?_map, hr]; rfl
theorem lastE_nn {rs : List Row} (h : Rows 0 rs) : 0 ≤ lastE rs := by
  by_cases hne : rs = []
  · subst hne; simp [lastE]
  · obtain ⟨r, hr, e, _⟩ := last_row hne
    have := h.mem (by decide) r hr
    omega
/-! ### the index -/
def idxF (rs : List Row) (w : Int) (m : Nat) : List (Str × Da) := [("table", .lst (rs.map rowD)), ("wide", .int w), ("firsts", .han m)]
def firsts (rs : List Row) (w : Int) (n : Nat) : List Da := (List.range n).map fun (k : Nat) => Da.int (cnt rs ((k : Int) * w))
structure IdxAt (rs : List Row) (w : Int) (n m : Nat) (st : Store) : Prop where
  ins : st[n]? = some (.ins "Index" (idxF rs w m))
  fst : st[m]? = some (.lst (firsts rs w (strN (lastE rs) w)))
theorem rg_ok {l w : Int} (h0 : 0 ≤ l) (h1 : l ≤ 50000) (hw : 1 ≤ w) (hw2 : w ≤ 10000) : rgOk 0 l w ∧ rgN 0 l w = strN l w := by
  have hs : Builtin.Range.rangeSize 0 l w = (strN l w : Int) := by
    unfold Builtin.Range.rangeSize strN
    rw [if_pos (by omega)]
    have hq : 0 ≤ (l + w - 1) / w := Int.ediv_nonneg (by omega) (by omega)
    rw [Int.toNat_of_nonneg hq]
    by_cases z : 0 < l
    · rw [if_pos z]
      have : l + w - 1 = (l - 0 - 1) + w := by omega
      rw [this, Int.add_ediv_of_dvd_right (Int.dvd_refl w), Int.ediv_self (by omega)]
    · rw [if_neg z]
      have : l = 0 := by omega
      subst this
      rw [Int.ediv_eq_zero_of_lt (by omega) (by omega)]
  have hq2 : (strN l w : Int) ≤ 60000 := by
    unfold strN
    have hq : 0 ≤ (l + w - 1) / w := Int.ediv_nonneg (by omega) (by omega)
    rw [Int.toNat_of_nonneg hq]
    exact Int.le_trans (Int.ediv_le_self _ (by omega)) (by omega)
  have hn : rgN 0 l w = strN l w := by unfold rgN; rw [hs]; simp
  refine ⟨⟨by omega, by omega, ?_, by rw [hn]; exact hs⟩, hn⟩
  unfold Builtin.Range.small
  rw [hs]
  simp [Builtin.Range.rangeFitsLong]
  refine ⟨⟨⟨⟨?_, ?_⟩, ?_⟩, ?_⟩, .inr ?_⟩
  all_goals first | omega | (split <;> omega) | skip
theorem strN_le {l w : Int} (h0 : 0 ≤ l) (hl : l ≤ 50000) (hw : 1 ≤ w) : strN l w ≤ 50000 := by
  by_cases z : strN l w = 0
  · omega
  · have := (strN_iff (k := (strN l w - 1 : Nat)) hw (by omega) h0).mp (by omega)
    have h2 : ((strN l w - 1 : Nat) : Int) * 1 ≤ ((strN l w - 1 : Nat) : Int) * w := Int.mul_le_mul_of_nonneg_left hw (by omega)
    omega
section
variable {st : Store} {ex : Str → List Da → Store → Prop} {post : Da → Store → Prop}
theorem init_ok {tn : Nat} {rs : List Row} {w : Int} (hn : st[tn]? = some (.lst (rs.map rowD))) (h : Rows 0 rs) (hlen : rs.length ≤ 8) (hl : lastE rs ≤ 50000) (hw : 1 ≤ w) (hw2 : w ≤ 10000)
    (hp : post .non (st ++ [.ins "Index" (idxF rs w (st.length + 1)), .lst (firsts rs w (strN (lastE rs) w))])) : Wp (f_Index___init__ [.han st.length, .han tn, .int w]) (st ++ [.ins "Index" []]) post ex := by
  have h0 := lastE_nn h
  have htn := some_lt hn
  have hk : ∀ c : List Cell, (st ++ c)[tn]? = some (.lst (rs.map rowD)) := fun c => by rw [List.getElem?_append_left htn]; exact hn
  have hset : ∀ (c d : Cell) (r : List Cell), (st ++ c :: r).set st.length d = st ++ d :: r := fun c d r => by simp [List.set_append]
  have hget : ∀ (c : Cell) (r : List Cell), (st ++ c :: r)[st.length]? = some c := fun c r => by simp
  unfold f_Index___init__ m_Index___init__
  simp [startS]
  refine look_h (hk _) h ?_
  unfold f_look_number m_look_number
  simp [startS, hw, hw2]
  rw [wp_list (xs := rs.map rowD) (by unfold sqOf lsOf; dsimp only; rw [hk]), wp_setFD (hget _ _) (by simp) (by simp)]
  simp [hset, putD]
  rw [wp_setFD (hget _ _) (by simp) (by simp)]
  simp [hset, putD]
  rw [wp_setFD (hget _ _) (by simp) (by simp)]
  simp [hset, putD]
  rw [wp_eq_hnil (m := 3) (by decide) (hk _) (rows_pl h (by decide))]
  simp
  suffices hh : Wp (mFor (iR3 (aCons (eC (Da.int 0)) (aCons (eVar 3) (aCons (eVar 2) aNil)))) (gN 5) (mSeq (whileF (tst (e2 leD (e2 ixD (e2 ixD (eVar 1) (eVar 4)) (eC (Da.int 1))) (eVar 5))) (mAug 4 (fun i j => i + j) (eC (Da.int 1))) 1000000) (mExpr (eApp (eFld ["Index"] "firsts" (eVar 0)) (eVar 4)))) [some (.han st.length), some (.han tn), some (.int w), some (.int (lastE rs)), some (.int 0), none]) (st ++ [.ins "Index" (idxF rs w (st.length + 1)), .lst []]) (fnK post) ex by
    by_cases hne : rs = []
    · subst hne
      simpa [idxF, lastE] using hh
    · rw [if_neg hne]
      obtain ⟨r, hr, e, ha⟩ := last_row hne
      rw [wp_ix_h (hk _) ha]
      simp [rowD, e]
      exact hh
  obtain ⟨hg, hN⟩ := rg_ok h0 hl hw hw2
  simp [wp_for, hg]
  rw [hN]
  refine wp_forI (fun i ro s => ∃ (a : Nat) (o : Option Da), ro = [some (.han st.length), some (.han tn), some (.int w), some (.int (lastE rs)), some (.int a), o] ∧ a ≤ cnt rs ((i : Int) * w) ∧ s = st ++ [.ins "Index" (idxF rs w (st.length + 1)), .lst (firsts rs w i)]) ⟨0, _, rfl, by omega, by simp [firsts]⟩ ?_ ?_
  · rintro i x ro s hx ⟨a, o, rfl, hle, rfl⟩
    obtain ⟨hi, rfl⟩ := rngC_get hx
    refine ⟨_, rfl, ?_⟩
    have hb : (i : Int) * w < lastE rs := (strN_iff hw (by omega) h0).mp (by omega)
    have hb0 : 0 ≤ (i : Int) * w := Int.mul_nonneg (by omega) (by omega)
    have hcl := cnt_lt_last h hb hb0
    simp
    refine wp_whileI (fun k ro s => ∃ a : Nat, ro = [some (.han st.length), some (.han tn), some (.int w), some (.int (lastE rs)), some (.int a), some (.int (i * w))] ∧ a ≤ cnt rs ((i : Int) * w) ∧ k = cnt rs ((i : Int) * w) - a ∧ s = st ++ [.ins "Index" (idxF rs w (st.length + 1)), .lst (firsts rs w i)]) ?_ _ (cnt rs ((i : Int) * w) - a) _ _ (by omega) ⟨a, rfl, hle, rfl, rfl⟩
    rintro k ro s ⟨a, rfl, hle, rfl, rfl⟩
    have hal : a < rs.length := by omega
    simp
    rw [wp_ix_h (hk _) (row_at hal)]
    simp [rowD]
    have hc := cnt_iff (b := (i : Int) * w) h (by decide) a hal
    by_cases z : rs[a].2.1 ≤ (i : Int) * w
    · simp [z, mAug]
      have := hc.mp z
      exact ⟨_, by omega, a + 1, by simp, by omega, rfl⟩
    · simp [z]
      have ea : a = cnt rs ((i : Int) * w) := by
        have := mt hc.mpr z
        omega
      rw [wp_fldD (hget _ _) (by simp) (x := .han (st.length + 1)) (by simp [idxF, List.lookup])]
      have hg2 : (st ++ [Cell.ins "Index" (idxF rs w (st.length + 1)), .lst (firsts rs w i)])[st.length + 1]? = some (.lst (firsts rs w i)) := by simp
      rw [wp_isLs_h hg2]
      refine app_h hg2 (by have := strN_le h0 hl hw; simp [firsts]; omega) ?_
      refine ⟨a, rfl, ?_, ?_⟩
      · rw [ea]
        refine cnt_mono ?_
        rw [Int.add_mul]; omega
      · simp [List.set_append, firsts, List.range_succ, ea]
  · rintro ro s ⟨a, o, rfl, hle, rfl⟩
    simp [rngC]
    exact hp
theorem fdiv_ed {p w : Int} (hw : 1 ≤ w) : p.fdiv w = p / w := Int.fdiv_eq_ediv_of_nonneg _ (by omega)
theorem find_ok {n m : Nat} {rs : List Row} {w p : Int} (hI : IdxAt rs w n m st) (h : Rows 0 rs) (hlen : rs.length ≤ 8) (hl : lastE rs ≤ 50000) (hw : 1 ≤ w) (hw2 : w ≤ 10000) (hp0 : 0 ≤ p) (hp1 : p ≤ 100000)
    (hp : post (.tup [fnd rs p, .int (looksP rs w p)]) st) : Wp (f_Index_find [.han n, .int p]) st post ex := by
  have h0 := lastE_nn h
  have f1 : ∀ {post : Da → Store → Prop} {ex : Str → List Da → Store → Prop}, Wp (fldD ["Index"] "wide" (.han n)) st post ex ↔ post (.int w) st := wp_fldD hI.ins (by simp) (by simp [idxF, List.lookup])
  have f2 : ∀ {post : Da → Store → Prop} {ex : Str → List Da → Store → Prop}, Wp (fldD ["Index"] "firsts" (.han n)) st post ex ↔ post (.han m) st := wp_fldD hI.ins (by simp) (by simp [idxF, List.lookup])
  have f3 : ∀ {post : Da → Store → Prop} {ex : Str → List Da → Store → Prop}, Wp (fldD ["Index"] "table" (.han n)) st post ex ↔ post (.lst (rs.map rowD)) st := wp_fldD hI.ins (by simp) (by simp [idxF, List.lookup])
  have f4 : ∀ {post : Da → Store → Prop} {ex : Str → List Da → Store → Prop}, Wp (lenD (.han m)) st post ex ↔ post (.int (strN (lastE rs) w)) st := by
    intro post ex
    rw [wp_len_h hI.fst]
    simp [firsts]
  have hq : 0 ≤ p / w := Int.ediv_nonneg hp0 (by omega)
  have hqw : p / w * w ≤ p := Int.ediv_mul_le _ (by omega)
  have hqn : 0 ≤ p / w * w := Int.mul_nonneg hq (by omega)
  have hs := strN_iff (k := p / w) hw hq h0
  unfold f_Index_find m_Index_find
  simp [startS, hp0, hp1, f1, f2, f3, f4, fdiv_ed hw]
  refine ⟨⟨by omega, by omega⟩, ?_⟩
  by_cases z : (strN (lastE rs) w : Int) ≤ p / w
  · have hz : lastE rs ≤ p / w * w := by
      by_cases y : p / w * w < lastE rs
      · have := hs.mpr y; omega
      · omega
    have e1 : fnd rs p = .tup [] := fnd_end fun j hj => by
      have hne : rs ≠ [] := by intro z; subst z; simp at hj
      obtain ⟨hl2, e⟩ := lastE_at hne
      obtain ⟨_, hss⟩ := h.sorted
      rw [List.pairwise_iff_getElem] at hss
      by_cases y : j = rs.length - 1
      · subst y; omega
      · have a1 := hss j (rs.length - 1) hj hl2 (by omega)
        have a2 := (h.mem (by decide) rs[rs.length - 1] (List.getElem_mem hl2)).2.1
        omega
    have e2 : looksP rs w p = 0 := by unfold looksP; rw [if_pos hz]
    rw [e1, e2] at hp
    simpa [z] using hp
  · have hz : p / w * w < lastE rs := hs.mp (by omega)
    have hcl := cnt_lt_last h hz hqn
    rw [if_neg z]
    have hat : atI (firsts rs w (strN (lastE rs) w)) (p / w) = some (.int (cnt rs (p / w * w))) := atI_int hq (by
      unfold firsts
      rw [List.getElem?_map, List.getElem?_range (by omega)]
      simp [Int.toNat_of_nonneg hq])
    have f5 : ∀ {post : Da → Store → Prop} {ex : Str → List Da → Store → Prop}, Wp (ixD (.han m) (.int (p / w))) st post ex ↔ post (.int (cnt rs (p / w * w))) st := wp_ix_h hI.fst hat
    have hcut : cutD (rs.map rowD) (some ((cnt rs (p / w * w) : Nat) : Int)) none = (rs.drop (cnt rs (p / w * w))).map rowD := by
      unfold cutD
      rw [HT.sIx_nat, HT.sIx_none, List.length_map, Nat.min_eq_left (by omega), List.map_drop, List.take_of_length_le (by simp)]
    generalize hf : cnt rs (p / w * w) = f at *
    have hcp : f ≤ cnt rs p := by rw [← hf]; exact cnt_mono hqw
    simp [wp_for, f1, f2, f3, f5, hcut]
    refine wp_forI (fun i ro s => ∃ (o1 o2 o3 : Option Da), ro = [some (.han n), some (.int p), some (.int (p / w)), some (.int i), o1, o2, o3] ∧ s = st ∧ f + i ≤ cnt rs p) ⟨_, _, _, rfl, rfl, hcp⟩ ?_ ?_
    · rintro i x ro s hx ⟨o1, o2, o3, rfl, rfl, hle⟩
      rw [← List.map_drop, List.getElem?_map, List.getElem?_drop] at hx
      obtain ⟨r, hq2, rfl⟩ := Option.map_eq_some_iff.mp hx
      have hlt : f + i < rs.length := by
        by_cases z : f + i < rs.length
        · exact z
        · rw [List.getElem?_eq_none (by omega)] at hq2; cases hq2
      have hg : rs[f + i] = r := by
        rw [List.getElem?_eq_getElem hlt] at hq2
        exact Option.some.inj hq2
      have hc := cnt_iff (b := p) h (by decide) _ hlt
      rw [hg] at hc
      refine ⟨_, rfl, ?_⟩
      simp [mAug]
      by_cases y : p < r.2.1
      · have ec : f + i = cnt rs p := by
          have := mt hc.mpr (by omega)
          omega
        have e1 := fnd_mid (p := p) h hlt (fun j hj z => (cnt_iff h (by decide) j hj).mpr (by omega)) (by rw [hg]; exact y)
        rw [hg] at e1
        have e2 : looksP rs w p = i + 1 := by
          unfold looksP
          rw [if_neg (by omega), hf]
          omega
        rw [e1, e2] at hp
        by_cases x : r.1 ≤ p
        · simpa [y, x] using hp
        · simpa [y, x] using hp
      · have := hc.mp (by omega)
        simp [y]
        omega
    · rintro ro s ⟨o1, o2, o3, rfl, rfl, hle⟩
      simp at hle ⊢
      have hcl2 := cnt_le rs p
      have e1 : fnd rs p = .tup [] := fnd_end fun j hj => (cnt_iff h (by decide) j hj).mpr (by omega)
      have e2 : looksP rs w p = (rs.length - f : Nat) := by
        unfold looksP
        rw [if_neg (by omega), hf]
        omega
      rw [e1, e2] at hp
      exact hp
theorem size_ok {n m : Nat} {rs : List Row} {w : Int} (hI : IdxAt rs w n m st) (hp : post (.int (strN (lastE rs) w)) st) : Wp (f_Index_size [.han n]) st post ex := by
  unfold f_Index_size m_Index_size
  simp [startS]
  rw [wp_fldD hI.ins (by simp) (x := .han m) (by simp [idxF, List.lookup]), wp_len_h hI.fst]
  simpa [firsts] using hp
theorem intsOf_map (ns : List Int) : intsOf (ns.map Da.int) = some ns := by
  induction ns with
  | nil => rfl
  | cons b r ih => show (intsOf (r.map Da.int)).map (b :: ·) = _; rw [ih]; rfl
theorem wp_max1 {ns : List Int} (h : ns ≠ []) : Wp (max1 (.lst (ns.map Da.int))) st post ex ↔ post (.int (maxL ns)) st := by
  unfold Wp max1 lsI lsOf; dsimp only; rw [intsOf_map]; dsimp only; rw [if_neg h]
theorem most_ok {n m : Nat} {rs : List Row} {w : Int} (hI : IdxAt rs w n m st) (h : Rows 0 rs) (hlen : rs.length ≤ 8) (hl : lastE rs ≤ 50000) (hw : 1 ≤ w) (hw2 : w ≤ 10000)
    (hp : post (.int (mostP rs w)) st) : Wp (f_Index_most_looks [.han n]) st post ex := by
  have h0 := lastE_nn h
  have hN := strN_le h0 hl hw
  have f1 : ∀ {post : Da → Store → Prop} {ex : Str → List Da → Store → Prop}, Wp (fldD ["Index"] "wide" (.han n)) st post ex ↔ post (.int w) st := wp_fldD hI.ins (by simp) (by simp [idxF, List.lookup])
  have f2 : ∀ {post : Da → Store → Prop} {ex : Str → List Da → Store → Prop}, Wp (fldD ["Index"] "firsts" (.han n)) st post ex ↔ post (.han m) st := wp_fldD hI.ins (by simp) (by simp [idxF, List.lookup])
  have f4 : ∀ {post : Da → Store → Prop} {ex : Str → List Da → Store → Prop}, Wp (lenD (.han m)) st post ex ↔ post (.int (strN (lastE rs) w)) st := by
    intro post ex
    rw [wp_len_h hI.fst]
    simp [firsts]
  unfold f_Index_most_looks m_Index_most_looks
  simp [startS, wp_lComp, f1, f2, f4]
  refine ⟨⟨by omega, by omega⟩, ?_⟩
  refine wp_compF (rs := List.range (strN (lastE rs) w)) (f := fun (i : Nat) => Da.int (0 + (i : Int))) (P := fun _ => true) (g := fun (k : Nat) => Da.int (placeP w k)) (by simp; omega) ?_ ?_
  · intro k hk
    refine ⟨_, rfl, by simp, fun _ => ?_⟩
    simp [f1, CMul]
    refine ⟨.inr ⟨by omega, by omega⟩, ?_⟩
    unfold placeP
    split <;> omega
  · rw [List.filter_eq_self.mpr (by simp)]
    refine wp_compF (rs := List.range (strN (lastE rs) w)) (f := fun (k : Nat) => Da.int (placeP w k)) (P := fun _ => true) (g := fun (k : Nat) => Da.int (looksP rs w (placeP w k))) (by simp; omega) ?_ ?_
    · intro k hk
      have hk2 : (k : Int) * w < lastE rs := (strN_iff hw (by omega) h0).mp (by have := List.mem_range.mp hk; omega)
      obtain ⟨_, _, p0, p1⟩ := place_of hw hw2 (by omega) hl hk2
      refine ⟨_, rfl, by simp, fun _ => ?_⟩
      simp
      rw [wp_isIns hI.ins (by simp [idxF, List.lookup])]
      refine find_ok hI h hlen hl hw hw2 p0 p1 ?_
      simp
    · rw [List.filter_eq_self.mpr (by simp)]
      simp
      refine ⟨by omega, ?_⟩
      have e : (Da.int 0 :: (List.range (strN (lastE rs) w)).map fun (k : Nat) => Da.int (looksP rs w (placeP w k))) = ((0 : Int) :: (List.range (strN (lastE rs) w)).map fun (k : Nat) => looksP rs w (placeP w (k : Int))).map Da.int := by
        simp [Function.comp_def]
      rw [e, wp_max1 (by simp)]
      exact hp
theorem lastx_h {n : Nat} {rs : List Row} {P : Da → Store → Prop} (hn : st[n]? = some (.lst (rs.map rowD))) (hp : P (.int (lastE rs)) st) :
    if rs = [] then P (.int 0) st else Wp (ixD (.han n) (.int (-1))) st (fun x s1 => Wp (ixD x (.int 1)) s1 P ex) ex := by
  by_cases hne : rs = []
  · subst hne
    rw [if_pos rfl]
    exact hp
  · rw [if_neg hne]
    obtain ⟨r, hr, e, ha⟩ := last_row hne
    rw [wp_ix_h hn ha]
    simpa [rowD, e] using hp
theorem lastE_e {n i : Nat} {rs : List Row} {ro : Sl} {P : Da → Store → Prop} (hn : st[n]? = some (.lst (rs.map rowD))) (h : Rows 0 rs) (hi : ro[i]? = some (some (.han n))) (hp : P (.int (lastE rs)) st) :
    Wp (eIf (tst (e2 neD (eVar i) (eL (lDisp aNil)))) (e2 ixD (e2 ixD (eVar i) (e1 negD (eC (.int 1)))) (eC (.int 1))) (eC (.int 0)) ro) st P ex := by
  simp [wp_var hi]
  rw [wp_eq_hnil (m := 3) (by decide) hn (rows_pl h (by decide))]
  simp
  exact lastx_h hn hp
theorem looks_ok {tn : Nat} {rs : List Row} {w p : Int} (hn : st[tn]? = some (.lst (rs.map rowD))) (h : Rows 0 rs) (hlen : rs.length ≤ 8) (hl : lastE rs ≤ 50000) (hw : 1 ≤ w) (hw2 : w ≤ 10000) (hp0 : 0 ≤ p) (hp1 : p ≤ 100000)
    (hp : post (.int (looksP rs w p)) st) : Wp (f__law_looks [.han tn, .int w, .int p]) st post ex := by
  have hq : 0 ≤ p / w := Int.ediv_nonneg hp0 (by omega)
  have hqw : p / w * w ≤ p := Int.ediv_mul_le _ (by omega)
  unfold f__law_looks m__law_looks
  simp only [wp_fnM, wp_mSeq, wp_mSet]
  refine lastE_e (i := 0) hn h rfl ?_
  simp only [startS, List.map, List.length, List.cons_append, List.nil_append, List.replicate, List.set, seqK_nx]
  have hm : CMul (p / w) w := .inr ⟨by omega, by omega⟩
  simp [wp_lComp, fdiv_ed hw, hm]
  refine ⟨⟨by omega, by omega⟩, ?_⟩
  by_cases z : lastE rs ≤ p / w * w
  · simp [z]
    unfold looksP at hp
    rw [if_pos z] at hp
    exact hp
  · simp [z, wp_lComp]
    rw [wp_srcV_h hn]
    dsimp only
    refine wp_compFh (P := fun r => decide (p / w * w < r.2.1)) (g := rowD) hn (by omega) ?_ ?_
    · intro r hr
      refine ⟨_, rfl, ?_, fun _ => ?_⟩
      · simp [rowD, hm]
      · simp
    · simp [wp_lComp]
      refine wp_compF (P := fun r => decide (r.2.1 ≤ p)) (g := rowD) (by have := List.length_filter_le (fun r : Row => decide (p / w * w < r.2.1)) rs; omega) ?_ ?_
      · intro r hr
        refine ⟨_, rfl, ?_, fun _ => ?_⟩
        · simp [rowD]
        · simp
      · have e1 := cnt_gt rs (p / w * w)
        have e2 := cnt_btw (rs := rs) hqw
        unfold looksP at hp
        rw [if_neg z] at hp
        simp only [wp_mRet, wp_eCall, wp_aCons, wp_aNil, wp_e2, List.set, wp_var0, wp_varS, wp_one, wp_two, wp_len_l, wp_c, wp_add_i, wp_min_i, fnK_rt, List.length_map]
        refine Eq.mp (congrArg (fun i => post (Da.int i) st) ?_) hp
        split <;> omega
theorem found_ok {tn : Nat} {rs : List Row} {p : Int} (hn : st[tn]? = some (.lst (rs.map rowD))) (h : Rows 0 rs) (hp : post (fnd rs p) st) : Wp (f__law_found [.han tn, .int p]) st post ex := by
  unfold f__law_found m__law_found
  simp [startS, wp_for]
  rw [wp_srcV_h hn]
  dsimp only
  refine wp_forIh (fun i ro s => s = st ∧ (∃ (o1 o2 o3 : Option Da), ro = [some (.han tn), some (.int p), o1, o2, o3]) ∧ ∀ r ∈ rs.take i, holds p r = false) ⟨rfl, ⟨_, _, _, rfl⟩, by simp⟩ (fun i ro s q => by rw [q.1]; exact hn) ?_ ?_
  · rintro i x ro s hx ⟨rfl, ⟨o1, o2, o3, rfl⟩, hal⟩
    rw [List.getElem?_map] at hx
    obtain ⟨r, hq, rfl⟩ := Option.map_eq_some_iff.mp hx
    have hlt : i < rs.length := by
      by_cases z : i < rs.length
      · exact z
      · rw [List.getElem?_eq_none (by omega)] at hq; cases hq
    have hg : rs[i] = r := by
      rw [List.getElem?_eq_getElem hlt] at hq
      exact Option.some.inj hq
    refine ⟨_, rfl, ?_⟩
    have e : rs.take (i + 1) = rs.take i ++ [r] := by rw [List.take_add_one, hq]; rfl
    by_cases z : holds p r = true
    · have ef : fnd rs p = r.2.2 := by
        unfold fnd
        rw [List.find?_eq_some_iff_getElem.mpr ⟨z, i, hlt, hg, fun j hj => ?_⟩]
        have := hal rs[j] (List.mem_take_iff_getElem.mpr ⟨j, by omega, rfl⟩)
        simp [this]
      rw [ef] at hp
      have z' := z
      simp [holds] at z'
      simpa [z'] using hp
    · have z2 : holds p r = false := by simpa using z
      have hI : s = s ∧ (∃ (o1 o2 o3 : Option Da), [some (Da.han tn), some (.int p), some (.int r.1), some (.int r.2.1), some r.2.2] = [some (.han tn), some (.int p), o1, o2, o3]) ∧ ∀ q ∈ rs.take (i + 1), holds p q = false := by
        refine ⟨rfl, ⟨_, _, _, rfl⟩, fun q hq => ?_⟩
        rw [e] at hq
        rcases List.mem_append.mp hq with hq | hq
        · exact hal q hq
        · rw [List.mem_singleton] at hq; rw [hq]; exact z2
      have z' := z2
      simp [holds] at z'
      by_cases y : r.1 ≤ p
      · have := z' y
        simp [y, show ¬ p < r.2.1 by omega]
        exact fun a b c => hI.2.2 (a, b, c)
      · simp [y]
        exact fun a b c => hI.2.2 (a, b, c)
  · rintro ro s ⟨rfl, ⟨o1, o2, o3, rfl⟩, hal⟩
    have ef : fnd rs p = .tup [] := by
      unfold fnd
      rw [List.find?_eq_none.mpr fun r hr => ?_]
      have := hal r (by simpa using hr)
      simp [this]
    rw [ef] at hp
    simpa using hp
end
theorem law_table_h {t r : Nat} {st : Store} (h : Tw t r st) : Wp (f__law_table [.han t]) st (fun d st' => ∃ (rs : List Row) (n : Nat), d = .han n ∧ st.length ≤ n ∧ st'[n]? = some (.lst (rs.map rowD)) ∧ Rows 0 rs ∧ rs.length ≤ 8 ∧ (∀ r ∈ rs, r.2.1 ≤ 50000) ∧ Dr t r st st') noEx := by
  unfold f__law_table m__law_table
  have hlt := h.lt
  simp [startS, wp_for, wp_lComp]
  refine (draw_ok h (by decide) (by decide)).mono fun d s1 ⟨v, e, v0, v1, hd⟩ => ?_
  subst e
  simp
  have hb : big (1 + v) := ⟨by omega, by omega⟩
  refine ⟨hb, ?_⟩
  refine wp_compI (fun i acc s => acc.length = i ∧ (∀ x ∈ acc, IsCh x ∧ Thin x) ∧ Dr t r st s) ⟨rfl, (fun x hx => nomatch hx), hd⟩ (fun i acc s q => by omega) (by simp [rngL]; omega) ?_ ?_
  · rintro i x acc s hx ⟨hl, hal, hdr⟩
    obtain ⟨hi, rfl⟩ := rng_get hx
    refine ⟨_, rfl, ?_⟩
    simp
    refine (law_chain_ok hdr.tw).mono fun d2 s2 ⟨hc, hth, k2⟩ => ?_
    refine ⟨by omega, fun x hx => ?_, hdr.trans k2⟩
    rcases hx with hx | rfl
    · exact hal x hx
    · exact ⟨hc, hth⟩
  rintro acc s2 ⟨hacc, hal, hd2⟩
  have hacc2 : 1 ≤ acc.length ∧ acc.length ≤ 3 := by simp [rngL] at hacc; omega
  have hne : acc ≠ [] := by intro z; subst z; simp at hacc2
  have hge : st.length ≤ s2.length := hd2.kp.1
  refine (draw_ok hd2.tw.push (by decide) (by decide)).mono fun d s3 ⟨v', e, v0', v1', hd3⟩ => ?_
  subst e
  simp
  refine ⟨⟨by omega, by omega⟩, ?_⟩
  refine wp_forI (fun i ro s => ∃ (a : Int) (o1 o2 : Option Da) (rs : List Row), ro = [some (.han t), some (.lst acc), some (.han s2.length), some (.int a), o1, o2] ∧ s[s2.length]? = some (.lst (rs.map rowD)) ∧ rs.length = i ∧ Rows 0 rs ∧ (∀ r ∈ rs, r.2.1 ≤ a ∧ Thin r.2.2) ∧ 0 ≤ a ∧ a ≤ i * 6000 ∧ Dr t r st s) ?_ ?_ ?_
  · refine ⟨0, _, _, [], rfl, hd3.at (new_at _ _) (by omega) (by omega), rfl, trivial, (fun r hr => nomatch hr), by decide, by decide, hd2.push.trans hd3⟩
  · rintro i x ro s hx ⟨a, o1, o2, rs, rfl, hrs, hlen, hR, hle, ha0, ha1, hdr⟩
    obtain ⟨hi, rfl⟩ := rng_get hx
    refine ⟨_, rfl, ?_⟩
    simp
    refine (draw_ok hdr.tw (by decide) (by decide)).mono fun d4 s4 ⟨v4, e4, a4, b4, k4⟩ => ?_
    subst e4
    try simp
    refine (pick_ok k4.tw (by simp) (by simp)).mono fun d5 s5 ⟨m5, k5⟩ => ?_
    have ⟨v5, e5, a5, b5⟩ : ∃ v5 : Int, d5 = .int v5 ∧ 0 ≤ v5 ∧ v5 < 3000 := by
      simp at m5
      rcases m5 with rfl | rfl | rfl | rfl | rfl | rfl <;> exact ⟨_, rfl, by omega, by omega⟩
    subst e5
    try simp
    refine (draw_ok k5.tw (by decide) (by decide)).mono fun d6 s6 ⟨v6, e6, a6, b6, k6⟩ => ?_
    subst e6
    try simp
    refine (pick_ok k6.tw (by simp) (by simp)).mono fun d7 s7 ⟨m7, k7⟩ => ?_
    have ⟨v7, e7, a7, b7⟩ : ∃ v7 : Int, d7 = .int v7 ∧ 0 ≤ v7 ∧ v7 < 3000 := by
      simp at m7
      rcases m7 with rfl | rfl | rfl | rfl | rfl <;> exact ⟨_, rfl, by omega, by omega⟩
    subst e7
    try simp
    have kk := (k4.trans k5).trans (k6.trans k7)
    have h7 := kk.at hrs (by omega) (by omega)
    rw [wp_isLs_h h7]
    refine (pick_ok k7.tw hne (by omega)).mono fun d8 s8 ⟨m8, k8⟩ => ?_
    have h8 := k8.at h7 (by omega) (by omega)
    refine app_h h8 (by simp; omega) ?_
    refine ⟨rs ++ [(a + v5, a + v5 + 1 + v7, d8)], ?_, by simp [hlen], ?_, ?_, by omega, by omega, (hdr.trans (kk.trans k8)).set hge h⟩
    · rw [List.getElem?_set_self (some_lt h8), List.map_append]
      rfl
    · exact Rows.snoc hR (fun r hr => by have := (hle r hr).1; omega) (by omega) (by omega) (by omega) (hal _ m8).1
    · intro b' e' c' hm
      rcases List.mem_append.mp hm with hm | hm
      · have := hle _ hm
        simp at this
        exact ⟨by omega, this.2⟩
      · rw [List.mem_singleton] at hm
        cases hm
        exact ⟨by omega, (hal _ m8).2⟩
  · rintro ro s ⟨a, o1, o2, rs, rfl, hrs, hlen, hR, hle, ha0, ha1, hdr⟩
    simp
    have hlen2 : rs.length = v'.toNat := by rw [hlen]; simp [rngL]
    simp [rngL] at hle ha1
    exact ⟨hge, rs, hrs, hR, by omega, fun b1 b2 b3 hr => by have := (hle b1 b2 b3 hr).1; omega, hdr⟩
end CL
namespace CL
open PySem L2
section
variable {st : Store} {ex : Str → List Da → Store → Prop} {post : Da → Store → Prop}
theorem tiny_e {n i : Nat} {rs : List Row} {ro : Sl} (hn : st[n]? = some (.lst (rs.map rowD))) (h : Rows 0 rs) (hi : ro[i]? = some (some (.han n))) (hp : ∀ b, post (.bl b) st) :
    Wq (vOr (e2 eqD (eVar i) (eL (lDisp aNil))) (e2 ltD (e2 ixD (e2 ixD (eVar i) (e1 negD (eC (.int 1)))) (eC (.int 1))) (eC (.int 400))) ro) st post ex := by
  simp [wq_var hi]
  rw [wq_eq_hnil (m := 3) (by decide) hn (rows_pl h (by decide))]
  by_cases hne : rs = []
  · simp [hne]; exact hp _
  · simp [hne, wq_var hi]
    obtain ⟨r, hr, e, ha⟩ := last_row hne
    rw [wq_ix_h hn ha]
    simp [rowD]
    exact hp _
theorem make_ok {tn i j : Nat} {rs : List Row} {w : Int} {ro : Sl} (hn : st[tn]? = some (.lst (rs.map rowD))) (h : Rows 0 rs) (hlen : rs.length ≤ 8) (hl : lastE rs ≤ 50000) (hw : 1 ≤ w) (hw2 : w ≤ 10000) (hi : ro[i]? = some (some (.han tn))) (hj : ro[j]? = some (some (.int w)))
    (hp : post (.han st.length) (st ++ [.ins "Index" (idxF rs w (st.length + 1)), .lst (firsts rs w (strN (lastE rs) w))])) :
    Wq (eIf (tst (e2 eqD (eVar j) (eC (.int 64)))) (eMake "Index" (fun ds => ar 3 f_Index___init__ ds) (fun ro => bnd ((aCons (eVar i) aNil) ro) fun ds => ret (ds ++ [.int 64]))) (eMakeK "Index" (fun ds => ar 3 f_Index___init__ ds) 1 1 (gD_Index___init___wide) (aCons (eVar i) aNil) (aCons (eVar j) aNil)) ro) st post ex := by
  simp [wq_var hj]
  by_cases z : w = 64
  · subst z
    simp [wq_var hi]
    refine (init_ok hn h hlen hl hw hw2 ?_).q
    simpa using hp
  · simp [z, wq_var hi, wq_var hj, gD_Index___init___wide, g_Index___init___wide_]
    refine (init_ok hn h hlen hl hw hw2 ?_).q
    simpa using hp
end
theorem law_true (ns : List Int) (hl : ns.length ≤ 63) : ∃ st, f_law [.fro (ns.map Da.int)] [] = .ok (.bl true) st := by
  suffices h : Wq (f_law [.fro (ns.map Da.int)]) [] (fun d _ => d = .bl true) noEx by
    obtain ⟨d, st, h1, rfl⟩ := h.p.out
    exact ⟨st, h1⟩
  unfold f_law m_law
  simp [startS]
  refine (town_ok ns).go fun d s ⟨e, ht⟩ => ?_
  subst e
  simp
  refine (law_table_h ht).go fun d s1 ⟨rs, tn, e, htl, hn, hR, hlen, hle, h1⟩ => ?_
  subst e
  have hle2 : lastE rs ≤ 50000 := by
    by_cases hne : rs = []
    · subst hne; simp [lastE]
    · obtain ⟨r, hr, e, _⟩ := last_row hne
      have := hle r hr
      omega
  have hlt := ht.lt
  have h0 := lastE_nn hR
  have hrp := rows_pl hR (by decide)
  have eqn : ∀ {neg : Bool} {s : Store} {post : Da → Store → Prop} {ex : Str → List Da → Store → Prop}, s[tn]? = some (.lst (rs.map rowD)) → (Wq (eqB neg (.han tn) (.lst [])) s post ex ↔ post (.bl (if neg then !decide (rs = []) else decide (rs = []))) s) := by
    intro neg s post ex hs
    rw [wq_eq_hnil (m := 3) (by decide) hs hrp]
    simp
  simp [wq_list_h hn, eqn hn]
  refine Wq.mono (post := fun d s => (∃ b, d = .bl b) ∧ s1 = s) ?_ ?_
  · by_cases hne : rs = []
    · simp [hne]
    · simp [hne]
      obtain ⟨r, hr, e, ha⟩ := last_row hne
      simp [wq_ix_h hn ha, rowD]
      omega
  rintro _ _ ⟨⟨b, rfl⟩, rfl⟩
  simp
  refine Wq.mono (post := fun d s => (∃ x : Int, d = .int x ∧ 1 ≤ x ∧ x ≤ 200) ∧ s1 = s) ?_ ?_
  · cases b <;> simp
  rintro _ _ ⟨⟨x, rfl, hx1, hx2⟩, rfl⟩
  simp
  refine Wq.mono (post := fun d s => (∃ x : Int, d = .int x ∧ 1 ≤ x ∧ x ≤ 200) ∧ s1 = s) ?_ ?_
  · cases b <;> simp
  rintro _ _ ⟨⟨y, rfl, hy1, hy2⟩, rfl⟩
  simp
  refine (pick_ok h1.tw (by simp) (by simp)).go fun d s2 ⟨m2, k2⟩ => ?_
  obtain ⟨w, rfl, hw, hw2⟩ : ∃ w : Int, d = .int w ∧ 1 ≤ w ∧ w ≤ 10000 := by
    simp at m2
    rcases m2 with rfl | rfl | rfl | rfl | rfl <;> exact ⟨_, rfl, by omega, by omega⟩
  have hn2 := k2.at hn (by omega) (by omega)
  simp
  refine Wq.mono (post := fun d s => d = .han s2.length ∧ s = s2 ++ [.ins "Index" (idxF rs w (s2.length + 1)), .lst (firsts rs w (strN (lastE rs) w))]) ?_ ?_
  · by_cases z : w = 64
    · subst z
      simp
      refine (init_ok hn2 hR hlen hle2 hw hw2 ?_).q
      simp
    · simp [z, gD_Index___init___wide, g_Index___init___wide_]
      refine (init_ok hn2 hR hlen hle2 hw hw2 ?_).q
      simp
  rintro _ _ ⟨rfl, rfl⟩
  have htn := some_lt hn2
  obtain ⟨S, hS⟩ : ∃ S, S = s2 ++ [Cell.ins "Index" (idxF rs w (s2.length + 1)), .lst (firsts rs w (strN (lastE rs) w))] := ⟨_, rfl⟩
  have hnS : S[tn]? = some (.lst (rs.map rowD)) := by rw [hS, List.getElem?_append_left htn]; exact hn2
  have hIS : IdxAt rs w s2.length (s2.length + 1) S := ⟨by rw [hS]; simp, by rw [hS]; simp⟩
  have htS : Tw 1 0 S := by
    rw [hS, show s2 ++ [Cell.ins "Index" (idxF rs w (s2.length + 1)), .lst (firsts rs w (strN (lastE rs) w))] = (s2 ++ [Cell.ins "Index" (idxF rs w (s2.length + 1))]) ++ [.lst (firsts rs w (strN (lastE rs) w))] by simp]
    exact k2.tw.push.push
  have hge2 : s.length ≤ s2.length := Nat.le_trans h1.kp.1 k2.kp.1
  have hidn : s2.length ≠ 1 ∧ s2.length ≠ 0 ∧ s2.length + 1 ≠ 1 ∧ tn ≠ 1 ∧ tn ≠ 0 := by omega
  rw [← hS]
  generalize s2.length = ix at *
  simp [wq_isLs_h hnS]
  rw [wq_appD hnS (by simp; omega)]
  have hg2 : ∀ c : Cell, (S.set tn c)[tn]? = some c := fun c => List.getElem?_set_self (some_lt hnS)
  have hgS : S.set tn (.lst (rs.map rowD)) = S := by
    obtain ⟨hh, e⟩ := List.getElem?_eq_some_iff.mp hnS
    rw [← e]; exact List.set_getElem_self hh
  simp [wq_isLs_h (hg2 _)]
  rw [wq_popD (hg2 _) (x := .str "late") (by simp)]
  simp [hgS, eqn hnS]
  refine Wq.mono (post := fun d s => d = .int (lastE rs) ∧ S = s) ?_ ?_
  · by_cases hne : rs = []
    · simp [hne, lastE]
    · simp [hne]
      obtain ⟨r, hr, e, ha⟩ := last_row hne
      simp [wq_ix_h hnS ha, rowD, e]
  rintro _ _ ⟨rfl, rfl⟩
  have isx : ∀ {m : String} {s : Store} {postU : Unit → Store → Prop} {ex : Str → List Da → Store → Prop}, s[ix]? = some (.ins "Index" (idxF rs w (ix + 1))) → (idxF rs w (ix + 1)).lookup (Str.ofString m) = none → (Wq (isIns "Index" (Str.ofString m) (.han ix)) s postU ex ↔ postU () s) := fun h1 h2 => wq_isIns h1 h2
  have hm1 : (idxF rs w (ix + 1)).lookup (Str.ofString "size") = none := by simp [idxF, List.lookup]
  have hm2 : (idxF rs w (ix + 1)).lookup (Str.ofString "find") = none := by simp [idxF, List.lookup]
  have hm3 : (idxF rs w (ix + 1)).lookup (Str.ofString "most_looks") = none := by simp [idxF, List.lookup]
  simp [isx hIS.ins hm1]
  refine (size_ok hIS ?_).q
  have hN := strN_le h0 hle2 hw
  have hcd : CDivN (lastE rs + w - 1) w := ⟨by omega, by omega⟩
  have hsn : (lastE rs + w - 1).fdiv w = strN (lastE rs) w := by
    rw [fdiv_ed hw]
    unfold strN
    rw [Int.toNat_of_nonneg (Int.ediv_nonneg (by omega) (by omega))]
  have hpy : PyIs S (.han tn) (.list (toPyL (rs.map rowD))) := han_is (n := 3) (by decide) hnS hrp
  have hpy2 : PyIs S (.lst (rs.map rowD)) (.list (toPyL (rs.map rowD))) := by
    have := pl_is (st := S) (n := 4) (by decide) (d := .lst (rs.map rowD)) (by simp only [pl]; exact hrp)
    simpa [toPy] using this
  simp [hcd, hsn]
  rw [wq_eqI hpy hpy2]
  rw [show PyData.eqv (.list (toPyL (rs.map rowD))) (.list (toPyL (rs.map rowD))) = true from deq_refl (d := .lst (rs.map rowD)) (n := 4) (by simp only [pl]; exact hrp)]
  simp
  refine (draw_ok htS (by decide) (by decide)).go fun d s3 ⟨v, e, v0, v1, k3⟩ => ?_
  subst e
  have hn3 := k3.at hnS (by omega) (by omega)
  have hI3 : IdxAt rs w ix (ix + 1) s3 := ⟨k3.at hIS.ins (by omega) (by omega), k3.at hIS.fst (by omega) (by omega)⟩
  simp [wq_srcV_h hn3]
  refine wq_forIh (fun i ro s => s = s3 ∧ ∃ (ps : List Int) (o9 o10 o11 : Option Da), ro = [some (.fro (ns.map Da.int)), some (.han 1), some (.han tn), some (.lst (rs.map rowD)), some (.bl b), some (.int w), some (.han ix), some (.int (lastE rs)), some (.lst (((0 : Int) :: 100000 :: v :: ps).map Da.int)), o9, o10, o11, none, none, none, none, none] ∧ ps.length = 5 * i ∧ ∀ p ∈ ps, 0 ≤ p) ⟨rfl, [], _, _, _, rfl, rfl, by simp⟩ (fun i ro s q => by rw [q.1]; exact hn3) ?_ ?_
  · rintro i x ro s hx ⟨rfl, ps, o9, o10, o11, rfl, hps, hal⟩
    rw [List.getElem?_map] at hx
    obtain ⟨r, hq, rfl⟩ := Option.map_eq_some_iff.mp hx
    have hil : i < rs.length := by
      by_cases z : i < rs.length
      · exact z
      · rw [List.getElem?_eq_none (by omega)] at hq; cases hq
    obtain ⟨q1, q2, q3, q4⟩ := hR.mem (by decide) _ (List.mem_of_getElem? hq)
    refine ⟨_, rfl, ?_⟩
    have hcd : CDivN r.2.1 w := ⟨by omega, by omega⟩
    have hcm : CMul (r.2.1 / w + 1) w := .inr ⟨by omega, by omega⟩
    simp [hcd, fdiv_ed hw, hcm]
    rw [wq_catL_l (by simp; omega)]
    simp
    refine ⟨ps ++ [if 1 < r.1 then r.1 - 1 else 0, r.1, r.2.1 - 1, r.2.1, (r.2.1 / w + 1) * w - 1], by simp, by simp; omega, fun p hp => ?_⟩
    have hqq : 0 ≤ r.2.1 / w := Int.ediv_nonneg (by omega) (by omega)
    have hqq2 : 0 ≤ r.2.1 / w * w := Int.mul_nonneg hqq (by omega)
    rcases List.mem_append.mp hp with hp | hp
    · exact hal p hp
    · simp [Int.add_mul] at hp
      rcases hp with rfl | rfl | rfl | rfl | rfl
      · split <;> omega
      all_goals omega
  rintro ro s ⟨rfl, ps, o9, o10, o11, rfl, hps, hal⟩
  simp only [List.length_map] at hps
  generalize hP : ((0 : Int) :: 100000 :: v :: ps) = P
  have hPl : P.length ≤ 50 := by rw [← hP]; simp; omega
  have hP0 : ∀ p ∈ P, 0 ≤ p := by
    rw [← hP]; intro p hp; simp at hp
    rcases hp with rfl | rfl | rfl | hp
    · omega
    · omega
    · omega
    · exact hal p hp
  have hP2 : atI (P.map Da.int) 2 = some (.int v) := by rw [← hP]; exact atI_nat (j := 2) rfl
  simp
  refine wq_compF (rs := P) (f := Da.int) (g := Da.int) (P := fun p => decide (p ≤ 100000)) (by omega) ?_ ?_
  · intro p hp
    refine ⟨_, rfl, ?_, fun _ => ?_⟩
    · simp
    · simp
  simp
  refine wq_forI (fun i ro s' => s = s' ∧ ∃ (best : Int) (o13 o15 o16 : Option Da), ro = [some (.fro (ns.map Da.int)), some (.han 1), some (.han tn), some (.lst (rs.map rowD)), some (.bl b), some (.int w), some (.han ix), some (.int (lastE rs)), some (.lst (P.map Da.int)), o9, o10, o11, some (.int best), o13, none, o15, o16] ∧ 0 ≤ best ∧ best ≤ mostP rs w) ⟨rfl, 0, _, _, _, rfl, by decide, ?_⟩ ?_ ?_
  · exact Int.le_trans looks_nn (looks_most hR hle2 h0 hw hw2 (p := 0) (by decide))
  · rintro i x ro s' hx ⟨rfl, best, o13, o15, o16, rfl, hb0, hb1⟩
    rw [List.getElem?_map] at hx
    obtain ⟨p, hq, rfl⟩ := Option.map_eq_some_iff.mp hx
    have hpm := List.mem_filter.mp (List.mem_of_getElem? hq)
    have hp0 := hP0 p hpm.1
    have hp1 : p ≤ 100000 := by simpa using hpm.2
    refine ⟨_, rfl, ?_⟩
    simp [isx hI3.ins hm2]
    refine (find_ok hI3 hR hlen hle2 hw hw2 hp0 hp1 ?_).q
    simp
    refine (found_ok hn3 hR ?_).q
    simp
    refine (looks_ok hn3 hR hlen hle2 hw hw2 hp0 hp1 ?_).q
    have hpl : pl 60 (.tup [fnd rs p, .int (looksP rs w p)]) = true := by
      have := pl_le _ 59 _ (by decide) (fnd_pl (p := p) hR)
      simp [pl, plL, this]
    simp [hpl]
    rw [deq_refl (pl_le _ 60 _ (by decide) (fnd_pl hR))]
    have hlm := looks_most hR hle2 h0 hw hw2 hp0
    simp [isTn]
    split <;> omega
  rintro ro s' ⟨rfl, best, o13, o15, o16, rfl, hb0, hb1⟩
  simp [isx hI3.ins hm3]
  refine (most_ok hI3 hR hlen hle2 hw hw2 ?_).q
  simp [show ¬ mostP rs w < best by omega, wq_ix_l hP2]
  refine (found_at_h hn3 hR (by omega) v0 (by omega) ?_).q
  simp [wq_ix_l hP2, isx hI3.ins hm2]
  refine (find_ok hI3 hR hlen hle2 hw hw2 v0 (by omega) ?_).q
  have hfp : pl 60 (fnd rs v) = true := pl_le _ 60 _ (by decide) (fnd_pl hR)
  simp [hfp, deq_refl hfp, isx hI3.ins hm1]
  refine (size_ok hI3 ?_).q
  have hbig : big (if (strN (lastE rs) w : Int) < 60 then (strN (lastE rs) w : Int) else 60) := by
    split <;> exact ⟨by omega, by omega⟩
  simp [hbig]
  generalize hM : (if (strN (lastE rs) w : Int) < 60 then (strN (lastE rs) w : Int) else 60) = M
  have hM2 : M.toNat ≤ strN (lastE rs) w ∧ (strN (lastE rs) w ≤ 60 → M.toNat = strN (lastE rs) w) := by
    rw [← hM]; split <;> omega
  refine wq_forI (fun i ro s' => s = s' ∧ ∃ (best : Int) (o14 : Option Da), ro = [some (.fro (ns.map Da.int)), some (.han 1), some (.han tn), some (.lst (rs.map rowD)), some (.bl b), some (.int w), some (.han ix), some (.int (lastE rs)), some (.lst (P.map Da.int)), o9, o10, o11, some (.int best), o13, o14, o15, o16] ∧ 0 ≤ best ∧ best ≤ mostP rs w ∧ ∀ j : Nat, j < i → looksP rs w (placeP w j) ≤ best) ⟨rfl, best, _, rfl, hb0, hb1, fun j hj => by omega⟩ ?_ ?_
  · rintro i x ro s' hx ⟨rfl, best, o14, rfl, hb0, hb1, hal⟩
    obtain ⟨hi, rfl⟩ := rng_get hx
    refine ⟨_, rfl, ?_⟩
    have hk2 : (i : Int) * w < lastE rs := (strN_iff hw (by omega) h0).mp (by omega)
    obtain ⟨_, _, p0, p1⟩ := place_of hw hw2 (by omega) hle2 hk2
    have hcm : CMul ((i : Int) + 1) w := .inr ⟨by omega, by omega⟩
    have hpe : (if ((i : Int) + 1) * w - 1 < 100000 then ((i : Int) + 1) * w - 1 else 100000) = placeP w i := by
      unfold placeP; split <;> omega
    simp [isx hI3.ins hm2, hcm, hpe]
    refine (find_ok hI3 hR hlen hle2 hw hw2 p0 p1 ?_).q
    have hlm := looks_most hR hle2 h0 hw hw2 p0
    simp
    refine ⟨by split <;> omega, by split <;> omega, fun j hj => ?_⟩
    by_cases z : j = i
    · subst z; split <;> omega
    · have := hal j (by omega)
      split <;> omega
  rintro ro s' ⟨rfl, best, o14, rfl, hb0, hb1, hal⟩
  simp [isx hI3.ins hm3]
  refine (most_ok hI3 hR hlen hle2 hw hw2 ?_).q
  simp
  by_cases z : mostP rs w = best
  · simp [z]
  · simp [z, isx hI3.ins hm1]
    refine (size_ok hI3 ?_).q
    simp
    by_cases z2 : strN (lastE rs) w ≤ 60
    · exact absurd (most_is hb1 hb0 fun j hj => hal j (by rw [show (rngL 0 M.toNat).length = M.toNat by simp [rngL], hM2.2 z2]; exact hj)) z
    · omega
end CL
namespace CL
open PySem PySem.Spec L2
def top (i : Nat) : Stmt := PySem.Challenge.pw_coldlanes_k28_whole_index.main.body.getD i (.Pass ⟨0, 0, 0, 0⟩)
abbrev S_is_whole : Stmt := top 4
abbrev NN_is_whole : List Str := ["thing", "low", "high"]
theorem sc_is_whole : FnScope NN_is_whole ["thing", "low", "high"] (defScope S_is_whole) := ⟨rfl, rfl, rfl, by decide +kernel, rfl, by decide +kernel, by decide +kernel⟩
abbrev S_is_chain : Stmt := top 10
abbrev NN_is_chain : List Str := ["chain", "one"]
theorem sc_is_chain : FnScope NN_is_chain ["chain"] (defScope S_is_chain) := ⟨rfl, rfl, rfl, by decide +kernel, rfl, by decide +kernel, by decide +kernel⟩
abbrev S_is_table : Stmt := top 9
abbrev NN_is_table : List Str := ["table", "at", "row", "one"]
theorem sc_is_table : FnScope NN_is_table ["table"] (defScope S_is_table) := ⟨rfl, rfl, rfl, by decide +kernel, rfl, by decide +kernel, by decide +kernel⟩
abbrev S_look_table : Stmt := top 11
abbrev NN_look_table : List Str := ["table"]
theorem sc_look_table : FnScope NN_look_table ["table"] (defScope S_look_table) := ⟨rfl, rfl, rfl, by decide +kernel, rfl, by decide +kernel, by decide +kernel⟩
abbrev S_look_number : Stmt := top 5
abbrev NN_look_number : List Str := ["thing", "low", "high"]
theorem sc_look_number : FnScope NN_look_number ["thing", "low", "high"] (defScope S_look_number) := ⟨rfl, rfl, rfl, by decide +kernel, rfl, by decide +kernel, by decide +kernel⟩
abbrev S_Index___init__ : Stmt := inCls (top 16) 0
abbrev NN_Index___init__ : List Str := ["self", "table", "wide", "last", "at", "begin"]
theorem sc_Index___init__ : FnScope NN_Index___init__ ["self", "table", "wide"] (defScope S_Index___init__) := ⟨rfl, rfl, rfl, by decide +kernel, rfl, by decide +kernel, by decide +kernel⟩
abbrev S_Index_find : Stmt := inCls (top 16) 1
abbrev NN_Index_find : List Str := ["self", "place", "stretch", "looks", "begin", "end", "chain"]
theorem sc_Index_find : FnScope NN_Index_find ["self", "place"] (defScope S_Index_find) := ⟨rfl, rfl, rfl, by decide +kernel, rfl, by decide +kernel, by decide +kernel⟩
abbrev S_Index_size : Stmt := inCls (top 16) 2
abbrev NN_Index_size : List Str := ["self"]
theorem sc_Index_size : FnScope NN_Index_size ["self"] (defScope S_Index_size) := ⟨rfl, rfl, rfl, by decide +kernel, rfl, by decide +kernel, by decide +kernel⟩
abbrev S_Index_most_looks : Stmt := inCls (top 16) 3
abbrev NN_Index_most_looks : List Str := ["self", "lasts", "k", "place"]
theorem sc_Index_most_looks : FnScope NN_Index_most_looks ["self"] (defScope S_Index_most_looks) := ⟨rfl, rfl, rfl, by decide +kernel, rfl, by decide +kernel, by decide +kernel⟩
abbrev S_found_in : Stmt := top 13
abbrev NN_found_in : List Str := ["table", "place", "low", "high", "half"]
theorem sc_found_in : FnScope NN_found_in ["table", "place"] (defScope S_found_in) := ⟨rfl, rfl, rfl, by decide +kernel, rfl, by decide +kernel, by decide +kernel⟩
abbrev S_found_at : Stmt := top 12
abbrev NN_found_at : List Str := ["table", "place"]
theorem sc_found_at : FnScope NN_found_at ["table", "place"] (defScope S_found_at) := ⟨rfl, rfl, rfl, by decide +kernel, rfl, by decide +kernel, by decide +kernel⟩
abbrev S__law_town : Stmt := top 18
abbrev NN__law_town : List Str := ["script"]
theorem sc__law_town : FnScope NN__law_town ["script"] (defScope S__law_town) := ⟨rfl, rfl, rfl, by decide +kernel, rfl, by decide +kernel, by decide +kernel⟩
abbrev S__law_draw : Stmt := top 19
abbrev NN__law_draw : List Str := ["town", "many", "row", "at", "cell", "mixed"]
theorem sc__law_draw : FnScope NN__law_draw ["town", "many"] (defScope S__law_draw) := ⟨rfl, rfl, rfl, by decide +kernel, rfl, by decide +kernel, by decide +kernel⟩
abbrev S__law_pick : Stmt := top 20
abbrev NN__law_pick : List Str := ["town", "some"]
theorem sc__law_pick : FnScope NN__law_pick ["town", "some"] (defScope S__law_pick) := ⟨rfl, rfl, rfl, by decide +kernel, rfl, by decide +kernel, by decide +kernel⟩
abbrev S__law_chain : Stmt := top 21
abbrev NN__law_chain : List Str := ["town", "found", "k"]
theorem sc__law_chain : FnScope NN__law_chain ["town"] (defScope S__law_chain) := ⟨rfl, rfl, rfl, by decide +kernel, rfl, by decide +kernel, by decide +kernel⟩
abbrev S__law_table : Stmt := top 22
abbrev NN__law_table : List Str := ["town", "chains", "found", "at", "k", "begin"]
theorem sc__law_table : FnScope NN__law_table ["town"] (defScope S__law_table) := ⟨rfl, rfl, rfl, by decide +kernel, rfl, by decide +kernel, by decide +kernel⟩
abbrev S__law_found : Stmt := top 23
abbrev NN__law_found : List Str := ["ranges_of", "place", "begin", "end", "chain"]
theorem sc__law_found : FnScope NN__law_found ["ranges_of", "place"] (defScope S__law_found) := ⟨rfl, rfl, rfl, by decide +kernel, rfl, by decide +kernel, by decide +kernel⟩
abbrev S__law_looks : Stmt := top 24
abbrev NN__law_looks : List Str := ["table", "width_of", "place", "last", "stretch", "rest", "behind", "row"]
theorem sc__law_looks : FnScope NN__law_looks ["table", "width_of", "place"] (defScope S__law_looks) := ⟨rfl, rfl, rfl, by decide +kernel, rfl, by decide +kernel, by decide +kernel⟩
abbrev S_law : Stmt := top 25
abbrev NN_law : List Str := ["script", "town", "table", "kept", "tiny", "width_of", "index", "last", "places", "begin", "end", "chain", "best", "place", "k", "told", "due"]
theorem sc_law : FnScope NN_law ["script"] (defScope S_law) := ⟨rfl, rfl, rfl, by decide +kernel, rfl, by decide +kernel, by decide +kernel⟩
structure Tx (K : PySem.W.Frag) (mg : Str → Option Value) : Prop where
  n_all : mg "all" = none
  n_bool : mg "bool" = none
  n_int : mg "int" = none
  n_isinstance : mg "isinstance" = none
  n_len : mg "len" = none
  n_list : mg "list" = none
  n_max : mg "max" = none
  n_min : mg "min" = none
  n_range : mg "range" = none
  n_tuple : mg "tuple" = none
  c_KINDS : ∃ t, mg "KINDS" = some (.int 5 t)
  c_MOST_PLACE : ∃ t, mg "MOST_PLACE" = some (.int 100000 t)
  c_MOST_WIDE : ∃ t, mg "MOST_WIDE" = some (.int 10000 t)
  q_Index_firsts : ClsF K ["Index"] "firsts"
  q_Index_wide : ClsF K ["Index"] "wide"
  q_Index_table : ClsF K ["Index"] "table"
  d_is_whole : mg "is_whole" = some (.ref (He.ga K "is_whole")) ∧ ∃ fd, FunD K "is_whole" "is_whole" (defArgs S_is_whole) (defBody S_is_whole) (defScope S_is_whole) [] [] (He.ga K "is_whole") fd
  d_is_chain : mg "is_chain" = some (.ref (He.ga K "is_chain")) ∧ ∃ fd, FunD K "is_chain" "is_chain" (defArgs S_is_chain) (defBody S_is_chain) (defScope S_is_chain) [] [] (He.ga K "is_chain") fd
  d_is_table : mg "is_table" = some (.ref (He.ga K "is_table")) ∧ ∃ fd, FunD K "is_table" "is_table" (defArgs S_is_table) (defBody S_is_table) (defScope S_is_table) [] [] (He.ga K "is_table") fd
  d_look_table : mg "look_table" = some (.ref (He.ga K "look_table")) ∧ ∃ fd, FunD K "look_table" "look_table" (defArgs S_look_table) (defBody S_look_table) (defScope S_look_table) [] [] (He.ga K "look_table") fd
  d_look_number : mg "look_number" = some (.ref (He.ga K "look_number")) ∧ ∃ fd, FunD K "look_number" "look_number" (defArgs S_look_number) (defBody S_look_number) (defScope S_look_number) [] [] (He.ga K "look_number") fd
  d_Index___init__ : (mg "Index" = some (.ref (He.ga K "Index")) ∧ Mk K (He.ga K "Index") (He.ma K (He.ga K "Index") "__init__")) ∧ ∃ fd, FunD K "__init__" "Index.__init__" (defArgs S_Index___init__) (defBody S_Index___init__) (defScope S_Index___init__) [] [("wide", .int 64)] (He.ma K (He.ga K "Index") "__init__") fd
  d_Index_find : (Cls K (He.ga K "Index") ∧ Meth K (He.ga K "Index") "find" (He.ma K (He.ga K "Index") "find")) ∧ ∃ fd, FunD K "find" "Index.find" (defArgs S_Index_find) (defBody S_Index_find) (defScope S_Index_find) [] [] (He.ma K (He.ga K "Index") "find") fd
  d_Index_size : (Cls K (He.ga K "Index") ∧ Meth K (He.ga K "Index") "size" (He.ma K (He.ga K "Index") "size")) ∧ ∃ fd, FunD K "size" "Index.size" (defArgs S_Index_size) (defBody S_Index_size) (defScope S_Index_size) [] [] (He.ma K (He.ga K "Index") "size") fd
  d_Index_most_looks : (Cls K (He.ga K "Index") ∧ Meth K (He.ga K "Index") "most_looks" (He.ma K (He.ga K "Index") "most_looks")) ∧ ∃ fd, FunD K "most_looks" "Index.most_looks" (defArgs S_Index_most_looks) (defBody S_Index_most_looks) (defScope S_Index_most_looks) [] [] (He.ma K (He.ga K "Index") "most_looks") fd
  d_found_in : mg "found_in" = some (.ref (He.ga K "found_in")) ∧ ∃ fd, FunD K "found_in" "found_in" (defArgs S_found_in) (defBody S_found_in) (defScope S_found_in) [] [] (He.ga K "found_in") fd
  d_found_at : mg "found_at" = some (.ref (He.ga K "found_at")) ∧ ∃ fd, FunD K "found_at" "found_at" (defArgs S_found_at) (defBody S_found_at) (defScope S_found_at) [] [] (He.ga K "found_at") fd
  d__law_town : mg "_law_town" = some (.ref (He.ga K "_law_town")) ∧ ∃ fd, FunD K "_law_town" "_law_town" (defArgs S__law_town) (defBody S__law_town) (defScope S__law_town) [] [] (He.ga K "_law_town") fd
  d__law_draw : mg "_law_draw" = some (.ref (He.ga K "_law_draw")) ∧ ∃ fd, FunD K "_law_draw" "_law_draw" (defArgs S__law_draw) (defBody S__law_draw) (defScope S__law_draw) [] [] (He.ga K "_law_draw") fd
  d__law_pick : mg "_law_pick" = some (.ref (He.ga K "_law_pick")) ∧ ∃ fd, FunD K "_law_pick" "_law_pick" (defArgs S__law_pick) (defBody S__law_pick) (defScope S__law_pick) [] [] (He.ga K "_law_pick") fd
  d__law_chain : mg "_law_chain" = some (.ref (He.ga K "_law_chain")) ∧ ∃ fd, FunD K "_law_chain" "_law_chain" (defArgs S__law_chain) (defBody S__law_chain) (defScope S__law_chain) [] [] (He.ga K "_law_chain") fd
  d__law_table : mg "_law_table" = some (.ref (He.ga K "_law_table")) ∧ ∃ fd, FunD K "_law_table" "_law_table" (defArgs S__law_table) (defBody S__law_table) (defScope S__law_table) [] [] (He.ga K "_law_table") fd
  d__law_found : mg "_law_found" = some (.ref (He.ga K "_law_found")) ∧ ∃ fd, FunD K "_law_found" "_law_found" (defArgs S__law_found) (defBody S__law_found) (defScope S__law_found) [] [] (He.ga K "_law_found") fd
  d__law_looks : mg "_law_looks" = some (.ref (He.ga K "_law_looks")) ∧ ∃ fd, FunD K "_law_looks" "_law_looks" (defArgs S__law_looks) (defBody S__law_looks) (defScope S__law_looks) [] [] (He.ga K "_law_looks") fd
  d_law : mg "law" = some (.ref (He.ga K "law")) ∧ ∃ fd, FunD K "law" "law" (defArgs S_law) (defBody S_law) (defScope S_law) [] [] (He.ga K "law") fd
section
variable {P : Program} {wd : World} {K : PySem.W.Frag} {mg : Str → Option Value} {base : Heap}
theorem okf_is_whole (T : Tx K mg) {fd : FuncData} (F : FunD K "is_whole" "is_whole" (defArgs S_is_whole) (defBody S_is_whole) (defScope S_is_whole) [] [] (He.ga K "is_whole") fd)   : FnOk P wd K mg base (L2.CX P wd) (1) (He.ga K "is_whole") fd ["thing", "low", "high"] (SpOf K 3 f_is_whole) := by
  refine ok_of F sc_is_whole rfl rfl fun cdv A outer s H E hr => ?_
  have nd := sc_is_whole.nd
  have hx : ∀ σ, PassesAt (L2.CX P wd) (cxOf (L2.CX P wd) P wd K mg base NN_is_whole "is_whole" (defScope S_is_whole) (He.ga K "is_whole") cdv A outer s H E) σ E := fun σ => passAt (W := fun cls d _ H => E cls d H) (takes_of rfl rfl rfl rfl) σ
  have hx0 : ∀ {X : Cx} (σ : L2.St), PassesAt (L2.CX X.prog X.w) X σ E0 := fun σ pins H s e s' I c => passL pins σ H s e s' I c
  have po : PassesOwn (model P wd) (cxOf (L2.CX P wd) P wd K mg base NN_is_whole "is_whole" (defScope S_is_whole) (He.ga K "is_whole") cdv A outer s H E).A (cxOf (L2.CX P wd) P wd K mg base NN_is_whole "is_whole" (defScope S_is_whole) (He.ga K "is_whole") cdv A outer s H E).env (cxOf (L2.CX P wd) P wd K mg base NN_is_whole "is_whole" (defScope S_is_whole) (He.ga K "is_whole") cdv A outer s H E).xe := passes_of rfl
  have qq : QB (cxOf (L2.CX P wd) P wd K mg base NN_is_whole "is_whole" (defScope S_is_whole) (He.ga K "is_whole") cdv A outer s H E) (fun _ => E) (defBody S_is_whole) _ (m_is_whole ) :=
  (qb_one (qs_ret (q_and (q_isi .int T.n_isinstance T.n_int (q_var 0)) (q_and (q_not (q_isi .bool T.n_isinstance T.n_bool (q_var 0))) (q_one (q_chain q_le q_le (q_var 1) (q_var 0) (q_var 2)))))))
  exact ⟨_, qq.ps, qq.ss⟩
theorem ok_is_whole (T : Tx K mg)   : Cal P wd K mg base (1) "is_whole" 3 f_is_whole [] := by
  obtain ⟨hm, fd, F⟩ := T.d_is_whole
  exact ⟨⟨_, fd, _, [], hm, F.kp, F.bindsN (ps := ["thing", "low", "high"]) fun _ _ _ _ _ _ us hl => match us, hl with | [_, _, _], _ => rfl, .nil, okf_is_whole T F  ⟩⟩
theorem okf_is_chain (T : Tx K mg) {fd : FuncData} (F : FunD K "is_chain" "is_chain" (defArgs S_is_chain) (defBody S_is_chain) (defScope S_is_chain) [] [] (He.ga K "is_chain") fd)  (C_is_whole : Cal P wd K mg base 1 "is_whole" 3 f_is_whole []) : FnOk P wd K mg base (L2.CX P wd) (2) (He.ga K "is_chain") fd ["chain"] (SpOf K 1 f_is_chain) := by
  refine ok_of F sc_is_chain rfl rfl fun cdv A outer s H E hr => ?_
  have nd := sc_is_chain.nd
  have hx : ∀ σ, PassesAt (L2.CX P wd) (cxOf (L2.CX P wd) P wd K mg base NN_is_chain "is_chain" (defScope S_is_chain) (He.ga K "is_chain") cdv A outer s H E) σ E := fun σ => passAt (W := fun cls d _ H => E cls d H) (takes_of rfl rfl rfl rfl) σ
  have hx0 : ∀ {X : Cx} (σ : L2.St), PassesAt (L2.CX X.prog X.w) X σ E0 := fun σ pins H s e s' I c => passL pins σ H s e s' I c
  have po : PassesOwn (model P wd) (cxOf (L2.CX P wd) P wd K mg base NN_is_chain "is_chain" (defScope S_is_chain) (He.ga K "is_chain") cdv A outer s H E).A (cxOf (L2.CX P wd) P wd K mg base NN_is_chain "is_chain" (defScope S_is_chain) (He.ga K "is_chain") cdv A outer s H E).env (cxOf (L2.CX P wd) P wd K mg base NN_is_chain "is_chain" (defScope S_is_chain) (He.ga K "is_chain") cdv A outer s H E).xe := passes_of rfl
  have qq : QB (cxOf (L2.CX P wd) P wd K mg base NN_is_chain "is_chain" (defScope S_is_chain) (He.ga K "is_chain") cdv A outer s H E) (fun _ => E) (defBody S_is_chain) _ (m_is_chain f_is_whole) :=
  (qb_cons (qs_if (qt_w (qw_or (qt_not (qt_val (q_isi .tuple T.n_isinstance T.n_tuple (q_var 0)))) (qw_or1 (qt_cmp (q_eq hr.units) (q_var 0) (q_tup qa_nil))))) (qb_one (qs_ret q_bl)) qb_nil)
  (qb_cons (qs_for po (by rfl) (qi_v (q_var 0)) (qg_name 1 nd) (qb_cons (qs_if (qt_w (qw_or (qt_not (qt_val (q_isi .tuple T.n_isinstance T.n_tuple (q_var 1)))) (qw_or (qt_cmp (q_ne hr.units) (q_cb call_len sc_len T.n_len (qa_cons (q_var 1) qa_nil)) q_int) (qw_or1 (qt_not (qt_val (q_call C_is_whole (hr.mono (by omega)) hx (qa_cons (q_sub1 (q_var 1) q_int) (qa_cons q_int (qa_cons (q_gint T.c_MOST_PLACE) qa_nil)))))))))) (qb_one (qs_ret q_bl)) qb_nil)
  (qb_one (qs_if (qt_w (qw_or (qt_w (qw_and (qt_cmp q_isNot (q_sub1 (q_var 1) q_int) q_non) (qw_and1 (qt_not (qt_val (q_call C_is_whole (hr.mono (by omega)) hx (qa_cons (q_sub1 (q_var 1) q_int) (qa_cons q_int (qa_cons (q_op q_sub (q_gint T.c_KINDS) q_int) qa_nil))))))))) (qw_or1 (qt_not (qt_val (q_isi .bool T.n_isinstance T.n_bool (q_sub1 (q_var 1) q_int))))))) (qb_one (qs_ret q_bl)) qb_nil))))
  (qb_one (qs_ret q_bl))))
  exact ⟨_, qq.ps, qq.ss⟩
theorem ok_is_chain (T : Tx K mg)  (C_is_whole : Cal P wd K mg base 1 "is_whole" 3 f_is_whole []) : Cal P wd K mg base (2) "is_chain" 1 f_is_chain [] := by
  obtain ⟨hm, fd, F⟩ := T.d_is_chain
  exact ⟨⟨_, fd, _, [], hm, F.kp, F.bindsN (ps := ["chain"]) fun _ _ _ _ _ _ us hl => match us, hl with | [_], _ => rfl, .nil, okf_is_chain T F  C_is_whole⟩⟩
theorem okf_is_table (T : Tx K mg) {fd : FuncData} (F : FunD K "is_table" "is_table" (defArgs S_is_table) (defBody S_is_table) (defScope S_is_table) [] [] (He.ga K "is_table") fd)  (C_is_chain : Cal P wd K mg base 2 "is_chain" 1 f_is_chain []) (C_is_whole : Cal P wd K mg base 1 "is_whole" 3 f_is_whole []) : FnOk P wd K mg base (L2.CX P wd) (3) (He.ga K "is_table") fd ["table"] (SpOf K 1 f_is_table) := by
  refine ok_of F sc_is_table rfl rfl fun cdv A outer s H E hr => ?_
  have nd := sc_is_table.nd
  have hx : ∀ σ, PassesAt (L2.CX P wd) (cxOf (L2.CX P wd) P wd K mg base NN_is_table "is_table" (defScope S_is_table) (He.ga K "is_table") cdv A outer s H E) σ E := fun σ => passAt (W := fun cls d _ H => E cls d H) (takes_of rfl rfl rfl rfl) σ
  have hx0 : ∀ {X : Cx} (σ : L2.St), PassesAt (L2.CX X.prog X.w) X σ E0 := fun σ pins H s e s' I c => passL pins σ H s e s' I c
  have po : PassesOwn (model P wd) (cxOf (L2.CX P wd) P wd K mg base NN_is_table "is_table" (defScope S_is_table) (He.ga K "is_table") cdv A outer s H E).A (cxOf (L2.CX P wd) P wd K mg base NN_is_table "is_table" (defScope S_is_table) (He.ga K "is_table") cdv A outer s H E).env (cxOf (L2.CX P wd) P wd K mg base NN_is_table "is_table" (defScope S_is_table) (He.ga K "is_table") cdv A outer s H E).xe := passes_of rfl
  have qq : QB (cxOf (L2.CX P wd) P wd K mg base NN_is_table "is_table" (defScope S_is_table) (He.ga K "is_table") cdv A outer s H E) (fun _ => E) (defBody S_is_table) _ (m_is_table f_is_chain f_is_whole) :=
  (qb_cons (qs_if (qt_not (qt_val (q_isi .list T.n_isinstance T.n_list (q_var 0)))) (qb_one (qs_ret q_bl)) qb_nil)
  (qb_cons (qs_set 1 nd q_int)
  (qb_cons (qs_for po (by rfl) (qi_v (q_var 0)) (qg_name 2 nd) (qb_cons (qs_if (qt_w (qw_or (qt_not (qt_val (q_isi .tuple T.n_isinstance T.n_tuple (q_var 2)))) (qw_or (qt_cmp (q_ne hr.units) (q_cb call_len sc_len T.n_len (qa_cons (q_var 2) qa_nil)) q_int) (qw_or1 (qt_not (qt_val (q_call C_is_chain (hr.mono (by omega)) hx (qa_cons (q_sub1 (q_var 2) q_int) qa_nil)))))))) (qb_one (qs_ret q_bl)) qb_nil)
  (qb_cons (qs_if (qt_w (qw_or (qt_not (qt_val (q_cb (cr_all (by rfl)) sc_all T.n_all (qa_cons (q_L (by exact ql_comp (by rfl) nd (qi_v (q_slice (q_var 2) qp_none (qp_some q_int))) (blkOk_by (own := [("one", 3)]) (N := NN_is_table) (sc := defScope S_is_table) (by decide +kernel)) (fun _ _ _ _ _ => (qg_name 3 nd)) (fun _ _ _ _ _ => qts_nil) (fun _ _ _ _ _ => (q_call C_is_whole (hr.mono (by omega)) hx0 (qa_cons (q_var 3) (qa_cons q_int (qa_cons (q_gint T.c_MOST_PLACE) qa_nil))))))) qa_nil)))) (qw_or (qt_cmp q_lt (q_sub1 (q_var 2) q_int) (q_var 1)) (qw_or1 (qt_cmp q_le (q_sub1 (q_var 2) q_int) (q_sub1 (q_var 2) q_int)))))) (qb_one (qs_ret q_bl)) qb_nil)
  (qb_one (qs_set 1 nd (q_sub1 (q_var 2) q_int))))))
  (qb_one (qs_ret q_bl)))))
  exact ⟨_, qq.ps, qq.ss⟩
theorem ok_is_table (T : Tx K mg)  (C_is_chain : Cal P wd K mg base 2 "is_chain" 1 f_is_chain []) (C_is_whole : Cal P wd K mg base 1 "is_whole" 3 f_is_whole []) : Cal P wd K mg base (3) "is_table" 1 f_is_table [] := by
  obtain ⟨hm, fd, F⟩ := T.d_is_table
  exact ⟨⟨_, fd, _, [], hm, F.kp, F.bindsN (ps := ["table"]) fun _ _ _ _ _ _ us hl => match us, hl with | [_], _ => rfl, .nil, okf_is_table T F  C_is_chain C_is_whole⟩⟩
theorem okf_look_table (T : Tx K mg) {fd : FuncData} (F : FunD K "look_table" "look_table" (defArgs S_look_table) (defBody S_look_table) (defScope S_look_table) [] [] (He.ga K "look_table") fd)  (C_is_table : Cal P wd K mg base 3 "is_table" 1 f_is_table []) : FnOk P wd K mg base (L2.CX P wd) (4) (He.ga K "look_table") fd ["table"] (SpOf K 1 f_look_table) := by
  refine ok_of F sc_look_table rfl rfl fun cdv A outer s H E hr => ?_
  have nd := sc_look_table.nd
  have hx : ∀ σ, PassesAt (L2.CX P wd) (cxOf (L2.CX P wd) P wd K mg base NN_look_table "look_table" (defScope S_look_table) (He.ga K "look_table") cdv A outer s H E) σ E := fun σ => passAt (W := fun cls d _ H => E cls d H) (takes_of rfl rfl rfl rfl) σ
  have hx0 : ∀ {X : Cx} (σ : L2.St), PassesAt (L2.CX X.prog X.w) X σ E0 := fun σ pins H s e s' I c => passL pins σ H s e s' I c
  have po : PassesOwn (model P wd) (cxOf (L2.CX P wd) P wd K mg base NN_look_table "look_table" (defScope S_look_table) (He.ga K "look_table") cdv A outer s H E).A (cxOf (L2.CX P wd) P wd K mg base NN_look_table "look_table" (defScope S_look_table) (He.ga K "look_table") cdv A outer s H E).env (cxOf (L2.CX P wd) P wd K mg base NN_look_table "look_table" (defScope S_look_table) (He.ga K "look_table") cdv A outer s H E).xe := passes_of rfl
  have qq : QB (cxOf (L2.CX P wd) P wd K mg base NN_look_table "look_table" (defScope S_look_table) (He.ga K "look_table") cdv A outer s H E) (fun _ => E) (defBody S_look_table) _ (m_look_table f_is_table) :=
  (qb_one (qs_if (qt_not (qt_val (q_call C_is_table (hr.mono (by omega)) hx (qa_cons (q_var 0) qa_nil)))) (qb_one qs_never) qb_nil))
  exact ⟨_, qq.ps, qq.ss⟩
theorem ok_look_table (T : Tx K mg)  (C_is_table : Cal P wd K mg base 3 "is_table" 1 f_is_table []) : Cal P wd K mg base (4) "look_table" 1 f_look_table [] := by
  obtain ⟨hm, fd, F⟩ := T.d_look_table
  exact ⟨⟨_, fd, _, [], hm, F.kp, F.bindsN (ps := ["table"]) fun _ _ _ _ _ _ us hl => match us, hl with | [_], _ => rfl, .nil, okf_look_table T F  C_is_table⟩⟩
theorem okf_look_number (T : Tx K mg) {fd : FuncData} (F : FunD K "look_number" "look_number" (defArgs S_look_number) (defBody S_look_number) (defScope S_look_number) [] [] (He.ga K "look_number") fd)  (C_is_whole : Cal P wd K mg base 1 "is_whole" 3 f_is_whole []) : FnOk P wd K mg base (L2.CX P wd) (2) (He.ga K "look_number") fd ["thing", "low", "high"] (SpOf K 3 f_look_number) := by
  refine ok_of F sc_look_number rfl rfl fun cdv A outer s H E hr => ?_
  have nd := sc_look_number.nd
  have hx : ∀ σ, PassesAt (L2.CX P wd) (cxOf (L2.CX P wd) P wd K mg base NN_look_number "look_number" (defScope S_look_number) (He.ga K "look_number") cdv A outer s H E) σ E := fun σ => passAt (W := fun cls d _ H => E cls d H) (takes_of rfl rfl rfl rfl) σ
  have hx0 : ∀ {X : Cx} (σ : L2.St), PassesAt (L2.CX X.prog X.w) X σ E0 := fun σ pins H s e s' I c => passL pins σ H s e s' I c
  have po : PassesOwn (model P wd) (cxOf (L2.CX P wd) P wd K mg base NN_look_number "look_number" (defScope S_look_number) (He.ga K "look_number") cdv A outer s H E).A (cxOf (L2.CX P wd) P wd K mg base NN_look_number "look_number" (defScope S_look_number) (He.ga K "look_number") cdv A outer s H E).env (cxOf (L2.CX P wd) P wd K mg base NN_look_number "look_number" (defScope S_look_number) (He.ga K "look_number") cdv A outer s H E).xe := passes_of rfl
  have qq : QB (cxOf (L2.CX P wd) P wd K mg base NN_look_number "look_number" (defScope S_look_number) (He.ga K "look_number") cdv A outer s H E) (fun _ => E) (defBody S_look_number) _ (m_look_number f_is_whole) :=
  (qb_one (qs_if (qt_not (qt_val (q_call C_is_whole (hr.mono (by omega)) hx (qa_cons (q_var 0) (qa_cons (q_var 1) (qa_cons (q_var 2) qa_nil)))))) (qb_one qs_never) qb_nil))
  exact ⟨_, qq.ps, qq.ss⟩
theorem ok_look_number (T : Tx K mg)  (C_is_whole : Cal P wd K mg base 1 "is_whole" 3 f_is_whole []) : Cal P wd K mg base (2) "look_number" 3 f_look_number [] := by
  obtain ⟨hm, fd, F⟩ := T.d_look_number
  exact ⟨⟨_, fd, _, [], hm, F.kp, F.bindsN (ps := ["thing", "low", "high"]) fun _ _ _ _ _ _ us hl => match us, hl with | [_, _, _], _ => rfl, .nil, okf_look_number T F  C_is_whole⟩⟩
theorem vals_Index___init___wide {vs mz zs : List V} {us mv ws : List Value} (r1 : Vals vs us) (r2 : Vals mz mv) (r3 : Vals zs ws) : Vals (g_Index___init___wide_ vs mz zs) (g_Index___init___wide_ us mv ws) := by
  unfold g_Index___init___wide_
  refine r1.append ?_
  rcases r2 with _ | ⟨a0, r2⟩ <;> (try rcases r2 with _ | ⟨a1, r2⟩) <;> (try rcases r2 with _ | ⟨a2, r2⟩) <;> rcases r3 with _ | ⟨b0, r3⟩ <;> (try rcases r3 with _ | ⟨b1, r3⟩) <;> (try rcases r3 with _ | ⟨b2, r3⟩) <;> (try rcases r3 with _ | ⟨b3, r3⟩) <;> first | exact .nil | exact .cons (by assumption) .nil | exact .cons (by assumption) (.cons (by assumption) .nil) | exact .cons (by assumption) (.cons (by assumption) (.cons (by assumption) .nil))
theorem okf_Index___init__ (T : Tx K mg) {fd : FuncData} (F : FunD K "__init__" "Index.__init__" (defArgs S_Index___init__) (defBody S_Index___init__) (defScope S_Index___init__) [] [("wide", .int 64)] (He.ma K (He.ga K "Index") "__init__") fd)  (C_look_table : Cal P wd K mg base 4 "look_table" 1 f_look_table []) (C_look_number : Cal P wd K mg base 2 "look_number" 3 f_look_number []) : FnOk P wd K mg base (L2.CX P wd) (5) (He.ma K (He.ga K "Index") "__init__") fd ["self", "table", "wide"] (SpOf K 3 f_Index___init__) := by
  refine ok_of F sc_Index___init__ rfl rfl fun cdv A outer s H E hr => ?_
  have nd := sc_Index___init__.nd
  have hx : ∀ σ, PassesAt (L2.CX P wd) (cxOf (L2.CX P wd) P wd K mg base NN_Index___init__ "Index.__init__" (defScope S_Index___init__) (He.ma K (He.ga K "Index") "__init__") cdv A outer s H E) σ E := fun σ => passAt (W := fun cls d _ H => E cls d H) (takes_of rfl rfl rfl rfl) σ
  have hx0 : ∀ {X : Cx} (σ : L2.St), PassesAt (L2.CX X.prog X.w) X σ E0 := fun σ pins H s e s' I c => passL pins σ H s e s' I c
  have po : PassesOwn (model P wd) (cxOf (L2.CX P wd) P wd K mg base NN_Index___init__ "Index.__init__" (defScope S_Index___init__) (He.ma K (He.ga K "Index") "__init__") cdv A outer s H E).A (cxOf (L2.CX P wd) P wd K mg base NN_Index___init__ "Index.__init__" (defScope S_Index___init__) (He.ma K (He.ga K "Index") "__init__") cdv A outer s H E).env (cxOf (L2.CX P wd) P wd K mg base NN_Index___init__ "Index.__init__" (defScope S_Index___init__) (He.ma K (He.ga K "Index") "__init__") cdv A outer s H E).xe := passes_of rfl
  have qq : QB (cxOf (L2.CX P wd) P wd K mg base NN_Index___init__ "Index.__init__" (defScope S_Index___init__) (He.ma K (He.ga K "Index") "__init__") cdv A outer s H E) (fun _ => E) (defBody S_Index___init__) _ (m_Index___init__ f_look_table f_look_number) :=
  (qb_cons (qs_expr (q_call C_look_table (hr.mono (by omega)) hx (qa_cons (q_var 1) qa_nil)))
  (qb_cons (qs_expr (q_call C_look_number (hr.mono (by omega)) hx (qa_cons (q_var 2) (qa_cons q_int (qa_cons (q_gint T.c_MOST_WIDE) qa_nil)))))
  (qb_cons (qs_fld T.q_Index_table (q_L (ql_ct call_list_of sc_list T.n_list (qa_cons (q_var 1) qa_nil))) (q_var 0))
  (qb_cons (qs_fld T.q_Index_wide (q_var 2) (q_var 0))
  (qb_cons (qs_fld T.q_Index_firsts (q_H (ql_disp qa_nil)) (q_var 0))
  (qb_cons (qs_set 3 nd (q_ifx (qt_cmp (q_ne hr.units) (q_var 1) (q_L (ql_disp qa_nil))) (q_sub1 (q_sub1 (q_var 1) (q_neg q_int)) q_int) q_int))
  (qb_cons (qs_set 4 nd q_int)
  (qb_one (qs_for po (by rfl) (qi_r3 T.n_range (qa_cons q_int (qa_cons (q_var 3) (qa_cons (q_var 2) qa_nil)))) (qg_name 5 nd) (qb_cons (qs_while 1000000 po (qt_cmp q_le (q_sub1 (q_sub1 (q_var 1) (q_var 4)) q_int) (q_var 5)) (qb_one (qs_aug 4 nd ip_add q_int)))
  (qb_one (qs_expr (q_app (q_fld T.q_Index_firsts (q_var 0)) (q_var 4))))))))))))))
  exact ⟨_, qq.ps, qq.ss⟩
theorem ok_Index___init__ (T : Tx K mg)  (C_look_table : Cal P wd K mg base 4 "look_table" 1 f_look_table []) (C_look_number : Cal P wd K mg base 2 "look_number" 3 f_look_number []) : CalC P wd K mg base (5) "Index" 3 f_Index___init__ [.int 64] := by
  obtain ⟨⟨h1, h2⟩, fd, F⟩ := T.d_Index___init__
  obtain ⟨ds, hv, hb⟩ := F.binds0 (ps := ["self", "table", "wide"]) 2 (by simp) rfl fun D doc pm an cdv ct us ks h1 h2 => match us, ks, h1, h2 with | [_, _], [_], _, _ => ⟨_, _, _, _, _, _, rfl, rfl, rfl⟩
  exact ⟨⟨_, fd, _, ds, h1, h2, hb, hv, okf_Index___init__ T F  C_look_table C_look_number⟩⟩
theorem ok_Index___init___wide (T : Tx K mg)  (C_look_table : Cal P wd K mg base 4 "look_table" 1 f_look_table []) (C_look_number : Cal P wd K mg base 2 "look_number" 3 f_look_number []) : CalCK P wd K mg base (5) "Index" 1 ["wide"] 3 f_Index___init__ gV_Index___init___wide gD_Index___init___wide := by
  obtain ⟨⟨h1, h2⟩, fd, F⟩ := T.d_Index___init__
  obtain ⟨mv, hb⟩ := F.kbinds0 (ps := ["self", "table", "wide"]) 2 ["wide"] [] (fun us mv ws => g_Index___init___wide_ us mv ws) (by simp) (by simp) (fun r1 r2 r3 => vals_Index___init___wide r1 r2 r3) fun D doc pm an cdv ct us mv ws h1 h2 h3 => match us, mv, ws, h1, h2, h3 with | [_, _], [], [_], _, _, _ => rfl
  refine ⟨⟨_, fd, _, _, h1, h2, hb, okf_Index___init__ T F  C_look_table C_look_number⟩, fun w vs zs ds es m rv rz l1 l2 => ?_⟩
  unfold gV_Index___init___wide gD_Index___init___wide g_Index___init___wide_
  refine rv.append ?_
  match zs, es, rz, l2 with
  | [_], [_], .cons r_wide (.nil), _ => exact .cons r_wide (.nil)
theorem okf_Index_find (T : Tx K mg) {fd : FuncData} (F : FunD K "find" "Index.find" (defArgs S_Index_find) (defBody S_Index_find) (defScope S_Index_find) [] [] (He.ma K (He.ga K "Index") "find") fd)  (C_is_whole : Cal P wd K mg base 1 "is_whole" 3 f_is_whole []) : FnOk P wd K mg base (L2.CX P wd) (2) (He.ma K (He.ga K "Index") "find") fd ["self", "place"] (SpOf K 2 f_Index_find) := by
  refine ok_of F sc_Index_find rfl rfl fun cdv A outer s H E hr => ?_
  have nd := sc_Index_find.nd
  have hx : ∀ σ, PassesAt (L2.CX P wd) (cxOf (L2.CX P wd) P wd K mg base NN_Index_find "Index.find" (defScope S_Index_find) (He.ma K (He.ga K "Index") "find") cdv A outer s H E) σ E := fun σ => passAt (W := fun cls d _ H => E cls d H) (takes_of rfl rfl rfl rfl) σ
  have hx0 : ∀ {X : Cx} (σ : L2.St), PassesAt (L2.CX X.prog X.w) X σ E0 := fun σ pins H s e s' I c => passL pins σ H s e s' I c
  have po : PassesOwn (model P wd) (cxOf (L2.CX P wd) P wd K mg base NN_Index_find "Index.find" (defScope S_Index_find) (He.ma K (He.ga K "Index") "find") cdv A outer s H E).A (cxOf (L2.CX P wd) P wd K mg base NN_Index_find "Index.find" (defScope S_Index_find) (He.ma K (He.ga K "Index") "find") cdv A outer s H E).env (cxOf (L2.CX P wd) P wd K mg base NN_Index_find "Index.find" (defScope S_Index_find) (He.ma K (He.ga K "Index") "find") cdv A outer s H E).xe := passes_of rfl
  have qq : QB (cxOf (L2.CX P wd) P wd K mg base NN_Index_find "Index.find" (defScope S_Index_find) (He.ma K (He.ga K "Index") "find") cdv A outer s H E) (fun _ => E) (defBody S_Index_find) _ (m_Index_find f_is_whole) :=
  (qb_cons (qs_if (qt_not (qt_val (q_call C_is_whole (hr.mono (by omega)) hx (qa_cons (q_var 1) (qa_cons q_int (qa_cons q_int qa_nil)))))) (qb_one qs_never) qb_nil)
  (qb_cons (qs_set 2 nd (q_op q_fdiv (q_var 1) (q_fld T.q_Index_wide (q_var 0))))
  (qb_cons (qs_if (qt_cmp q_ge (q_var 2) (q_cb call_len sc_len T.n_len (qa_cons (q_fld T.q_Index_firsts (q_var 0)) qa_nil))) (qb_one (qs_ret (q_tup (qa_cons (q_tup qa_nil) (qa_cons q_int qa_nil))))) qb_nil)
  (qb_cons (qs_set 3 nd q_int)
  (qb_cons (qs_for po (by rfl) (qi_v (q_slice (q_fld T.q_Index_table (q_var 0)) (qp_some (q_sub1 (q_fld T.q_Index_firsts (q_var 0)) (q_var 2))) qp_none)) (qg_tup 3 (by rfl) (qgs_cons (qg_name 4 nd) (qgs_cons (qg_name 5 nd) (qgs_cons (qg_name 6 nd) qgs_nil)))) (qb_cons (qs_aug 3 nd ip_add q_int)
  (qb_one (qs_if (qt_cmp q_lt (q_var 1) (q_var 5)) (qb_one (qs_ret (q_tup (qa_cons (q_ifx (qt_cmp q_le (q_var 4) (q_var 1)) (q_var 6) (q_tup qa_nil)) (qa_cons (q_var 3) qa_nil))))) qb_nil))))
  (qb_one (qs_ret (q_tup (qa_cons (q_tup qa_nil) (qa_cons (q_var 3) qa_nil))))))))))
  exact ⟨_, qq.ps, qq.ss⟩
theorem ok_Index_find (T : Tx K mg)  (C_is_whole : Cal P wd K mg base 1 "is_whole" 3 f_is_whole []) : CalM P wd K mg base (2) "Index" "find" 2 f_Index_find [] := by
  obtain ⟨⟨h1, h2⟩, fd, F⟩ := T.d_Index_find
  exact ⟨⟨_, fd, _, [], h1, h2, F.bindsN (ps := ["self", "place"]) fun _ _ _ _ _ _ us hl => match us, hl with | [_, _], _ => rfl, .nil, okf_Index_find T F  C_is_whole⟩⟩
theorem okf_Index_size (T : Tx K mg) {fd : FuncData} (F : FunD K "size" "Index.size" (defArgs S_Index_size) (defBody S_Index_size) (defScope S_Index_size) [] [] (He.ma K (He.ga K "Index") "size") fd)   : FnOk P wd K mg base (L2.CX P wd) (1) (He.ma K (He.ga K "Index") "size") fd ["self"] (SpOf K 1 f_Index_size) := by
  refine ok_of F sc_Index_size rfl rfl fun cdv A outer s H E hr => ?_
  have nd := sc_Index_size.nd
  have hx : ∀ σ, PassesAt (L2.CX P wd) (cxOf (L2.CX P wd) P wd K mg base NN_Index_size "Index.size" (defScope S_Index_size) (He.ma K (He.ga K "Index") "size") cdv A outer s H E) σ E := fun σ => passAt (W := fun cls d _ H => E cls d H) (takes_of rfl rfl rfl rfl) σ
  have hx0 : ∀ {X : Cx} (σ : L2.St), PassesAt (L2.CX X.prog X.w) X σ E0 := fun σ pins H s e s' I c => passL pins σ H s e s' I c
  have po : PassesOwn (model P wd) (cxOf (L2.CX P wd) P wd K mg base NN_Index_size "Index.size" (defScope S_Index_size) (He.ma K (He.ga K "Index") "size") cdv A outer s H E).A (cxOf (L2.CX P wd) P wd K mg base NN_Index_size "Index.size" (defScope S_Index_size) (He.ma K (He.ga K "Index") "size") cdv A outer s H E).env (cxOf (L2.CX P wd) P wd K mg base NN_Index_size "Index.size" (defScope S_Index_size) (He.ma K (He.ga K "Index") "size") cdv A outer s H E).xe := passes_of rfl
  have qq : QB (cxOf (L2.CX P wd) P wd K mg base NN_Index_size "Index.size" (defScope S_Index_size) (He.ma K (He.ga K "Index") "size") cdv A outer s H E) (fun _ => E) (defBody S_Index_size) _ (m_Index_size ) :=
  (qb_one (qs_ret (q_cb call_len sc_len T.n_len (qa_cons (q_fld T.q_Index_firsts (q_var 0)) qa_nil))))
  exact ⟨_, qq.ps, qq.ss⟩
theorem ok_Index_size (T : Tx K mg)   : CalM P wd K mg base (1) "Index" "size" 1 f_Index_size [] := by
  obtain ⟨⟨h1, h2⟩, fd, F⟩ := T.d_Index_size
  exact ⟨⟨_, fd, _, [], h1, h2, F.bindsN (ps := ["self"]) fun _ _ _ _ _ _ us hl => match us, hl with | [_], _ => rfl, .nil, okf_Index_size T F  ⟩⟩
theorem okf_Index_most_looks (T : Tx K mg) {fd : FuncData} (F : FunD K "most_looks" "Index.most_looks" (defArgs S_Index_most_looks) (defBody S_Index_most_looks) (defScope S_Index_most_looks) [] [] (He.ma K (He.ga K "Index") "most_looks") fd)  (C_Index_find : CalM P wd K mg base 2 "Index" "find" 2 f_Index_find []) : FnOk P wd K mg base (L2.CX P wd) (3) (He.ma K (He.ga K "Index") "most_looks") fd ["self"] (SpOf K 1 f_Index_most_looks) := by
  refine ok_of F sc_Index_most_looks rfl rfl fun cdv A outer s H E hr => ?_
  have nd := sc_Index_most_looks.nd
  have hx : ∀ σ, PassesAt (L2.CX P wd) (cxOf (L2.CX P wd) P wd K mg base NN_Index_most_looks "Index.most_looks" (defScope S_Index_most_looks) (He.ma K (He.ga K "Index") "most_looks") cdv A outer s H E) σ E := fun σ => passAt (W := fun cls d _ H => E cls d H) (takes_of rfl rfl rfl rfl) σ
  have hx0 : ∀ {X : Cx} (σ : L2.St), PassesAt (L2.CX X.prog X.w) X σ E0 := fun σ pins H s e s' I c => passL pins σ H s e s' I c
  have po : PassesOwn (model P wd) (cxOf (L2.CX P wd) P wd K mg base NN_Index_most_looks "Index.most_looks" (defScope S_Index_most_looks) (He.ma K (He.ga K "Index") "most_looks") cdv A outer s H E).A (cxOf (L2.CX P wd) P wd K mg base NN_Index_most_looks "Index.most_looks" (defScope S_Index_most_looks) (He.ma K (He.ga K "Index") "most_looks") cdv A outer s H E).env (cxOf (L2.CX P wd) P wd K mg base NN_Index_most_looks "Index.most_looks" (defScope S_Index_most_looks) (He.ma K (He.ga K "Index") "most_looks") cdv A outer s H E).xe := passes_of rfl
  have qq : QB (cxOf (L2.CX P wd) P wd K mg base NN_Index_most_looks "Index.most_looks" (defScope S_Index_most_looks) (He.ma K (He.ga K "Index") "most_looks") cdv A outer s H E) (fun _ => E) (defBody S_Index_most_looks) _ (m_Index_most_looks f_Index_find) :=
  (qb_cons (by exact qs_setLc 1 (by rfl) nd (qi_r1 T.n_range (qa_cons (q_cb call_len sc_len T.n_len (qa_cons (q_fld T.q_Index_firsts (q_var 0)) qa_nil)) qa_nil)) (blkOk_by (own := [("k", 2)]) (N := NN_Index_most_looks) (sc := defScope S_Index_most_looks) (by decide +kernel)) (fun _ _ _ _ _ => (qg_name 2 nd)) (fun _ _ _ _ _ => qts_nil) (fun _ _ _ _ _ => (q_cb (call_min2 (by rfl)) sc_min T.n_min (qa_cons q_int (qa_cons (q_op q_sub (q_op q_mul (q_op q_add (q_var 2) q_int) (q_fld T.q_Index_wide (q_var 0))) q_int) qa_nil)))) eL s_L (sw_true rfl rfl rfl (by decide +kernel)))
  (qb_one (qs_ret (q_cb (cr_max (by rfl)) sc_max1 T.n_max (qa_cons (q_L (ql_op ql_cat (q_L (ql_disp (qa_cons q_int qa_nil))) (q_L (by exact ql_comp (by rfl) nd (qi_v (q_var 1)) (blkOk_by (own := [("place", 3)]) (N := NN_Index_most_looks) (sc := defScope S_Index_most_looks) (by decide +kernel)) (fun _ _ _ _ _ => (qg_name 3 nd)) (fun _ _ _ _ _ => qts_nil) (fun _ _ _ _ _ => (q_sub1 (q_meth C_Index_find (hr.mono (by omega)) hx0 (q_var 0) (qa_cons (q_var 3) qa_nil)) q_int)))))) qa_nil)))))
  exact ⟨_, qq.ps, qq.ss⟩
theorem ok_Index_most_looks (T : Tx K mg)  (C_Index_find : CalM P wd K mg base 2 "Index" "find" 2 f_Index_find []) : CalM P wd K mg base (3) "Index" "most_looks" 1 f_Index_most_looks [] := by
  obtain ⟨⟨h1, h2⟩, fd, F⟩ := T.d_Index_most_looks
  exact ⟨⟨_, fd, _, [], h1, h2, F.bindsN (ps := ["self"]) fun _ _ _ _ _ _ us hl => match us, hl with | [_], _ => rfl, .nil, okf_Index_most_looks T F  C_Index_find⟩⟩
theorem okf_found_in (T : Tx K mg) {fd : FuncData} (F : FunD K "found_in" "found_in" (defArgs S_found_in) (defBody S_found_in) (defScope S_found_in) [] [] (He.ga K "found_in") fd)   : FnOk P wd K mg base (L2.CX P wd) (1) (He.ga K "found_in") fd ["table", "place"] (SpOf K 2 f_found_in) := by
  refine ok_of F sc_found_in rfl rfl fun cdv A outer s H E hr => ?_
  have nd := sc_found_in.nd
  have hx : ∀ σ, PassesAt (L2.CX P wd) (cxOf (L2.CX P wd) P wd K mg base NN_found_in "found_in" (defScope S_found_in) (He.ga K "found_in") cdv A outer s H E) σ E := fun σ => passAt (W := fun cls d _ H => E cls d H) (takes_of rfl rfl rfl rfl) σ
  have hx0 : ∀ {X : Cx} (σ : L2.St), PassesAt (L2.CX X.prog X.w) X σ E0 := fun σ pins H s e s' I c => passL pins σ H s e s' I c
  have po : PassesOwn (model P wd) (cxOf (L2.CX P wd) P wd K mg base NN_found_in "found_in" (defScope S_found_in) (He.ga K "found_in") cdv A outer s H E).A (cxOf (L2.CX P wd) P wd K mg base NN_found_in "found_in" (defScope S_found_in) (He.ga K "found_in") cdv A outer s H E).env (cxOf (L2.CX P wd) P wd K mg base NN_found_in "found_in" (defScope S_found_in) (He.ga K "found_in") cdv A outer s H E).xe := passes_of rfl
  have qq : QB (cxOf (L2.CX P wd) P wd K mg base NN_found_in "found_in" (defScope S_found_in) (He.ga K "found_in") cdv A outer s H E) (fun _ => E) (defBody S_found_in) _ (m_found_in ) :=
  (qb_cons (qs_par 2 3 (by rfl) nd (qa_cons q_int (qa_cons (q_cb call_len sc_len T.n_len (qa_cons (q_var 0) qa_nil)) qa_nil)))
  (qb_cons (qs_while 1000000 po (qt_cmp q_lt (q_var 2) (q_var 3)) (qb_cons (qs_set 4 nd (q_op q_fdiv (q_op q_add (q_var 2) (q_var 3)) q_int))
  (qb_one (qs_if (qt_cmp q_le (q_sub1 (q_sub1 (q_var 0) (q_var 4)) q_int) (q_var 1)) (qb_one (qs_set 2 nd (q_op q_add (q_var 4) q_int))) (qb_one (qs_set 3 nd (q_var 4)))))))
  (qb_one (qs_ret (q_ifx (qt_w (qw_and (qt_cmp q_lt (q_var 2) (q_cb call_len sc_len T.n_len (qa_cons (q_var 0) qa_nil))) (qw_and1 (qt_cmp q_le (q_sub1 (q_sub1 (q_var 0) (q_var 2)) q_int) (q_var 1))))) (q_sub1 (q_sub1 (q_var 0) (q_var 2)) q_int) (q_tup qa_nil))))))
  exact ⟨_, qq.ps, qq.ss⟩
theorem ok_found_in (T : Tx K mg)   : Cal P wd K mg base (1) "found_in" 2 f_found_in [] := by
  obtain ⟨hm, fd, F⟩ := T.d_found_in
  exact ⟨⟨_, fd, _, [], hm, F.kp, F.bindsN (ps := ["table", "place"]) fun _ _ _ _ _ _ us hl => match us, hl with | [_, _], _ => rfl, .nil, okf_found_in T F  ⟩⟩
theorem okf_found_at (T : Tx K mg) {fd : FuncData} (F : FunD K "found_at" "found_at" (defArgs S_found_at) (defBody S_found_at) (defScope S_found_at) [] [] (He.ga K "found_at") fd)  (C_look_table : Cal P wd K mg base 4 "look_table" 1 f_look_table []) (C_is_whole : Cal P wd K mg base 1 "is_whole" 3 f_is_whole []) (C_found_in : Cal P wd K mg base 1 "found_in" 2 f_found_in []) : FnOk P wd K mg base (L2.CX P wd) (5) (He.ga K "found_at") fd ["table", "place"] (SpOf K 2 f_found_at) := by
  refine ok_of F sc_found_at rfl rfl fun cdv A outer s H E hr => ?_
  have nd := sc_found_at.nd
  have hx : ∀ σ, PassesAt (L2.CX P wd) (cxOf (L2.CX P wd) P wd K mg base NN_found_at "found_at" (defScope S_found_at) (He.ga K "found_at") cdv A outer s H E) σ E := fun σ => passAt (W := fun cls d _ H => E cls d H) (takes_of rfl rfl rfl rfl) σ
  have hx0 : ∀ {X : Cx} (σ : L2.St), PassesAt (L2.CX X.prog X.w) X σ E0 := fun σ pins H s e s' I c => passL pins σ H s e s' I c
  have po : PassesOwn (model P wd) (cxOf (L2.CX P wd) P wd K mg base NN_found_at "found_at" (defScope S_found_at) (He.ga K "found_at") cdv A outer s H E).A (cxOf (L2.CX P wd) P wd K mg base NN_found_at "found_at" (defScope S_found_at) (He.ga K "found_at") cdv A outer s H E).env (cxOf (L2.CX P wd) P wd K mg base NN_found_at "found_at" (defScope S_found_at) (He.ga K "found_at") cdv A outer s H E).xe := passes_of rfl
  have qq : QB (cxOf (L2.CX P wd) P wd K mg base NN_found_at "found_at" (defScope S_found_at) (He.ga K "found_at") cdv A outer s H E) (fun _ => E) (defBody S_found_at) _ (m_found_at f_look_table f_is_whole f_found_in) :=
  (qb_cons (qs_expr (q_call C_look_table (hr.mono (by omega)) hx (qa_cons (q_var 0) qa_nil)))
  (qb_cons (qs_if (qt_not (qt_val (q_call C_is_whole (hr.mono (by omega)) hx (qa_cons (q_var 1) (qa_cons q_int (qa_cons (q_gint T.c_MOST_PLACE) qa_nil)))))) (qb_one qs_never) qb_nil)
  (qb_one (qs_ret (q_call C_found_in (hr.mono (by omega)) hx (qa_cons (q_var 0) (qa_cons (q_var 1) qa_nil)))))))
  exact ⟨_, qq.ps, qq.ss⟩
theorem ok_found_at (T : Tx K mg)  (C_look_table : Cal P wd K mg base 4 "look_table" 1 f_look_table []) (C_is_whole : Cal P wd K mg base 1 "is_whole" 3 f_is_whole []) (C_found_in : Cal P wd K mg base 1 "found_in" 2 f_found_in []) : Cal P wd K mg base (5) "found_at" 2 f_found_at [] := by
  obtain ⟨hm, fd, F⟩ := T.d_found_at
  exact ⟨⟨_, fd, _, [], hm, F.kp, F.bindsN (ps := ["table", "place"]) fun _ _ _ _ _ _ us hl => match us, hl with | [_, _], _ => rfl, .nil, okf_found_at T F  C_look_table C_is_whole C_found_in⟩⟩
theorem okf__law_town (T : Tx K mg) {fd : FuncData} (F : FunD K "_law_town" "_law_town" (defArgs S__law_town) (defBody S__law_town) (defScope S__law_town) [] [] (He.ga K "_law_town") fd)   : FnOk P wd K mg base (L2.CX P wd) (1) (He.ga K "_law_town") fd ["script"] (SpOf K 1 f__law_town) := by
  refine ok_of F sc__law_town rfl rfl fun cdv A outer s H E hr => ?_
  have nd := sc__law_town.nd
  have hx : ∀ σ, PassesAt (L2.CX P wd) (cxOf (L2.CX P wd) P wd K mg base NN__law_town "_law_town" (defScope S__law_town) (He.ga K "_law_town") cdv A outer s H E) σ E := fun σ => passAt (W := fun cls d _ H => E cls d H) (takes_of rfl rfl rfl rfl) σ
  have hx0 : ∀ {X : Cx} (σ : L2.St), PassesAt (L2.CX X.prog X.w) X σ E0 := fun σ pins H s e s' I c => passL pins σ H s e s' I c
  have po : PassesOwn (model P wd) (cxOf (L2.CX P wd) P wd K mg base NN__law_town "_law_town" (defScope S__law_town) (He.ga K "_law_town") cdv A outer s H E).A (cxOf (L2.CX P wd) P wd K mg base NN__law_town "_law_town" (defScope S__law_town) (He.ga K "_law_town") cdv A outer s H E).env (cxOf (L2.CX P wd) P wd K mg base NN__law_town "_law_town" (defScope S__law_town) (He.ga K "_law_town") cdv A outer s H E).xe := passes_of rfl
  have qq : QB (cxOf (L2.CX P wd) P wd K mg base NN__law_town "_law_town" (defScope S__law_town) (He.ga K "_law_town") cdv A outer s H E) (fun _ => E) (defBody S__law_town) _ (m__law_town ) :=
  (qb_one (qs_ret (q_H (ql_disp (qa_cons (q_ifx (qt_cmp (q_ne hr.units) (q_var 0) (q_L (ql_disp qa_nil))) (q_H (ql_ct call_list_of sc_list T.n_list (qa_cons (q_var 0) qa_nil))) (q_H (ql_disp (qa_cons q_int qa_nil)))) (qa_cons q_int qa_nil))))))
  exact ⟨_, qq.ps, qq.ss⟩
theorem ok__law_town (T : Tx K mg)   : Cal P wd K mg base (1) "_law_town" 1 f__law_town [] := by
  obtain ⟨hm, fd, F⟩ := T.d__law_town
  exact ⟨⟨_, fd, _, [], hm, F.kp, F.bindsN (ps := ["script"]) fun _ _ _ _ _ _ us hl => match us, hl with | [_], _ => rfl, .nil, okf__law_town T F  ⟩⟩
theorem okf__law_draw (T : Tx K mg) {fd : FuncData} (F : FunD K "_law_draw" "_law_draw" (defArgs S__law_draw) (defBody S__law_draw) (defScope S__law_draw) [] [] (He.ga K "_law_draw") fd)   : FnOk P wd K mg base (L2.CX P wd) (1) (He.ga K "_law_draw") fd ["town", "many"] (SpOf K 2 f__law_draw) := by
  refine ok_of F sc__law_draw rfl rfl fun cdv A outer s H E hr => ?_
  have nd := sc__law_draw.nd
  have hx : ∀ σ, PassesAt (L2.CX P wd) (cxOf (L2.CX P wd) P wd K mg base NN__law_draw "_law_draw" (defScope S__law_draw) (He.ga K "_law_draw") cdv A outer s H E) σ E := fun σ => passAt (W := fun cls d _ H => E cls d H) (takes_of rfl rfl rfl rfl) σ
  have hx0 : ∀ {X : Cx} (σ : L2.St), PassesAt (L2.CX X.prog X.w) X σ E0 := fun σ pins H s e s' I c => passL pins σ H s e s' I c
  have po : PassesOwn (model P wd) (cxOf (L2.CX P wd) P wd K mg base NN__law_draw "_law_draw" (defScope S__law_draw) (He.ga K "_law_draw") cdv A outer s H E).A (cxOf (L2.CX P wd) P wd K mg base NN__law_draw "_law_draw" (defScope S__law_draw) (He.ga K "_law_draw") cdv A outer s H E).env (cxOf (L2.CX P wd) P wd K mg base NN__law_draw "_law_draw" (defScope S__law_draw) (He.ga K "_law_draw") cdv A outer s H E).xe := passes_of rfl
  have qq : QB (cxOf (L2.CX P wd) P wd K mg base NN__law_draw "_law_draw" (defScope S__law_draw) (He.ga K "_law_draw") cdv A outer s H E) (fun _ => E) (defBody S__law_draw) _ (m__law_draw ) :=
  (qb_cons (qs_set 2 nd (q_sub1 (q_var 0) q_int))
  (qb_cons (qs_setI (q_op q_add (q_sub1 (q_var 0) q_int) q_int) (q_var 0) q_int)
  (qb_cons (qs_set 3 nd (q_op q_mod (q_sub1 (q_var 0) q_int) (q_cb call_len sc_len T.n_len (qa_cons (q_var 2) qa_nil))))
  (qb_cons (qs_set 4 nd (q_sub1 (q_var 2) (q_var 3)))
  (qb_cons (qs_if (qt_cmp q_ge (q_var 4) q_int) (qb_cons (qs_setI (q_op q_fdiv (q_var 4) (q_var 1)) (q_var 2) (q_var 3))
  (qb_one (qs_ret (q_op q_mod (q_var 4) (q_var 1))))) qb_nil)
  (qb_cons (qs_set 5 nd (q_op q_mod (q_op q_add (q_var 4) (q_op q_mul q_int (q_sub1 (q_var 0) q_int))) q_int))
  (qb_cons (qs_set 5 nd (q_op q_mod (q_op q_pow (q_var 5) q_int) q_int))
  (qb_one (qs_ret (q_op q_mod (q_op q_fdiv (q_op q_mod (q_op q_add (q_op q_mul (q_op q_fdiv (q_var 5) q_int) q_int) (q_var 5)) q_int) q_int) (q_var 1)))))))))))
  exact ⟨_, qq.ps, qq.ss⟩
theorem ok__law_draw (T : Tx K mg)   : Cal P wd K mg base (1) "_law_draw" 2 f__law_draw [] := by
  obtain ⟨hm, fd, F⟩ := T.d__law_draw
  exact ⟨⟨_, fd, _, [], hm, F.kp, F.bindsN (ps := ["town", "many"]) fun _ _ _ _ _ _ us hl => match us, hl with | [_, _], _ => rfl, .nil, okf__law_draw T F  ⟩⟩
theorem okf__law_pick (T : Tx K mg) {fd : FuncData} (F : FunD K "_law_pick" "_law_pick" (defArgs S__law_pick) (defBody S__law_pick) (defScope S__law_pick) [] [] (He.ga K "_law_pick") fd)  (C__law_draw : Cal P wd K mg base 1 "_law_draw" 2 f__law_draw []) : FnOk P wd K mg base (L2.CX P wd) (2) (He.ga K "_law_pick") fd ["town", "some"] (SpOf K 2 f__law_pick) := by
  refine ok_of F sc__law_pick rfl rfl fun cdv A outer s H E hr => ?_
  have nd := sc__law_pick.nd
  have hx : ∀ σ, PassesAt (L2.CX P wd) (cxOf (L2.CX P wd) P wd K mg base NN__law_pick "_law_pick" (defScope S__law_pick) (He.ga K "_law_pick") cdv A outer s H E) σ E := fun σ => passAt (W := fun cls d _ H => E cls d H) (takes_of rfl rfl rfl rfl) σ
  have hx0 : ∀ {X : Cx} (σ : L2.St), PassesAt (L2.CX X.prog X.w) X σ E0 := fun σ pins H s e s' I c => passL pins σ H s e s' I c
  have po : PassesOwn (model P wd) (cxOf (L2.CX P wd) P wd K mg base NN__law_pick "_law_pick" (defScope S__law_pick) (He.ga K "_law_pick") cdv A outer s H E).A (cxOf (L2.CX P wd) P wd K mg base NN__law_pick "_law_pick" (defScope S__law_pick) (He.ga K "_law_pick") cdv A outer s H E).env (cxOf (L2.CX P wd) P wd K mg base NN__law_pick "_law_pick" (defScope S__law_pick) (He.ga K "_law_pick") cdv A outer s H E).xe := passes_of rfl
  have qq : QB (cxOf (L2.CX P wd) P wd K mg base NN__law_pick "_law_pick" (defScope S__law_pick) (He.ga K "_law_pick") cdv A outer s H E) (fun _ => E) (defBody S__law_pick) _ (m__law_pick f__law_draw) :=
  (qb_one (qs_ret (q_sub1 (q_var 1) (q_call C__law_draw (hr.mono (by omega)) hx (qa_cons (q_var 0) (qa_cons (q_cb call_len sc_len T.n_len (qa_cons (q_var 1) qa_nil)) qa_nil))))))
  exact ⟨_, qq.ps, qq.ss⟩
theorem ok__law_pick (T : Tx K mg)  (C__law_draw : Cal P wd K mg base 1 "_law_draw" 2 f__law_draw []) : Cal P wd K mg base (2) "_law_pick" 2 f__law_pick [] := by
  obtain ⟨hm, fd, F⟩ := T.d__law_pick
  exact ⟨⟨_, fd, _, [], hm, F.kp, F.bindsN (ps := ["town", "some"]) fun _ _ _ _ _ _ us hl => match us, hl with | [_, _], _ => rfl, .nil, okf__law_pick T F  C__law_draw⟩⟩
theorem okf__law_chain (T : Tx K mg) {fd : FuncData} (F : FunD K "_law_chain" "_law_chain" (defArgs S__law_chain) (defBody S__law_chain) (defScope S__law_chain) [] [] (He.ga K "_law_chain") fd)  (C__law_draw : Cal P wd K mg base 1 "_law_draw" 2 f__law_draw []) (C__law_pick : Cal P wd K mg base 2 "_law_pick" 2 f__law_pick []) : FnOk P wd K mg base (L2.CX P wd) (3) (He.ga K "_law_chain") fd ["town"] (SpOf K 1 f__law_chain) := by
  refine ok_of F sc__law_chain rfl rfl fun cdv A outer s H E hr => ?_
  have nd := sc__law_chain.nd
  have hx : ∀ σ, PassesAt (L2.CX P wd) (cxOf (L2.CX P wd) P wd K mg base NN__law_chain "_law_chain" (defScope S__law_chain) (He.ga K "_law_chain") cdv A outer s H E) σ E := fun σ => passAt (W := fun cls d _ H => E cls d H) (takes_of rfl rfl rfl rfl) σ
  have hx0 : ∀ {X : Cx} (σ : L2.St), PassesAt (L2.CX X.prog X.w) X σ E0 := fun σ pins H s e s' I c => passL pins σ H s e s' I c
  have po : PassesOwn (model P wd) (cxOf (L2.CX P wd) P wd K mg base NN__law_chain "_law_chain" (defScope S__law_chain) (He.ga K "_law_chain") cdv A outer s H E).A (cxOf (L2.CX P wd) P wd K mg base NN__law_chain "_law_chain" (defScope S__law_chain) (He.ga K "_law_chain") cdv A outer s H E).env (cxOf (L2.CX P wd) P wd K mg base NN__law_chain "_law_chain" (defScope S__law_chain) (He.ga K "_law_chain") cdv A outer s H E).xe := passes_of rfl
  have qq : QB (cxOf (L2.CX P wd) P wd K mg base NN__law_chain "_law_chain" (defScope S__law_chain) (He.ga K "_law_chain") cdv A outer s H E) (fun _ => E) (defBody S__law_chain) _ (m__law_chain f__law_draw f__law_pick) :=
  (qb_cons (qs_set 1 nd (q_H (ql_disp qa_nil)))
  (qb_cons (qs_for po (by rfl) (qi_r1 T.n_range (qa_cons (q_op q_add q_int (q_call C__law_draw (hr.mono (by omega)) hx (qa_cons (q_var 0) (qa_cons q_int qa_nil)))) qa_nil)) (qg_name 2 nd) (qb_one (qs_expr (q_app (q_var 1) (q_tup (qa_cons (q_call C__law_pick (hr.mono (by omega)) hx (qa_cons (q_var 0) (qa_cons (q_L (ql_disp (qa_cons q_non (qa_cons q_int (qa_cons q_int (qa_cons q_int qa_nil)))))) qa_nil))) (qa_cons (q_call C__law_pick (hr.mono (by omega)) hx (qa_cons (q_var 0) (qa_cons (q_L (ql_disp (qa_cons q_int (qa_cons q_int (qa_cons q_int (qa_cons q_int qa_nil)))))) qa_nil))) (qa_cons (q_cmp (q_eq hr.units) (q_call C__law_draw (hr.mono (by omega)) hx (qa_cons (q_var 0) (qa_cons q_int qa_nil))) q_int) qa_nil))))))))
  (qb_one (qs_ret (q_ct call_tuple_of sc_tuple T.n_tuple (qa_cons (q_var 1) qa_nil))))))
  exact ⟨_, qq.ps, qq.ss⟩
theorem ok__law_chain (T : Tx K mg)  (C__law_draw : Cal P wd K mg base 1 "_law_draw" 2 f__law_draw []) (C__law_pick : Cal P wd K mg base 2 "_law_pick" 2 f__law_pick []) : Cal P wd K mg base (3) "_law_chain" 1 f__law_chain [] := by
  obtain ⟨hm, fd, F⟩ := T.d__law_chain
  exact ⟨⟨_, fd, _, [], hm, F.kp, F.bindsN (ps := ["town"]) fun _ _ _ _ _ _ us hl => match us, hl with | [_], _ => rfl, .nil, okf__law_chain T F  C__law_draw C__law_pick⟩⟩
theorem okf__law_table (T : Tx K mg) {fd : FuncData} (F : FunD K "_law_table" "_law_table" (defArgs S__law_table) (defBody S__law_table) (defScope S__law_table) [] [] (He.ga K "_law_table") fd)  (C__law_draw : Cal P wd K mg base 1 "_law_draw" 2 f__law_draw []) (C__law_chain : Cal P wd K mg base 3 "_law_chain" 1 f__law_chain []) (C__law_pick : Cal P wd K mg base 2 "_law_pick" 2 f__law_pick []) : FnOk P wd K mg base (L2.CX P wd) (4) (He.ga K "_law_table") fd ["town"] (SpOf K 1 f__law_table) := by
  refine ok_of F sc__law_table rfl rfl fun cdv A outer s H E hr => ?_
  have nd := sc__law_table.nd
  have hx : ∀ σ, PassesAt (L2.CX P wd) (cxOf (L2.CX P wd) P wd K mg base NN__law_table "_law_table" (defScope S__law_table) (He.ga K "_law_table") cdv A outer s H E) σ E := fun σ => passAt (W := fun cls d _ H => E cls d H) (takes_of rfl rfl rfl rfl) σ
  have hx0 : ∀ {X : Cx} (σ : L2.St), PassesAt (L2.CX X.prog X.w) X σ E0 := fun σ pins H s e s' I c => passL pins σ H s e s' I c
  have po : PassesOwn (model P wd) (cxOf (L2.CX P wd) P wd K mg base NN__law_table "_law_table" (defScope S__law_table) (He.ga K "_law_table") cdv A outer s H E).A (cxOf (L2.CX P wd) P wd K mg base NN__law_table "_law_table" (defScope S__law_table) (He.ga K "_law_table") cdv A outer s H E).env (cxOf (L2.CX P wd) P wd K mg base NN__law_table "_law_table" (defScope S__law_table) (He.ga K "_law_table") cdv A outer s H E).xe := passes_of rfl
  have qq : QB (cxOf (L2.CX P wd) P wd K mg base NN__law_table "_law_table" (defScope S__law_table) (He.ga K "_law_table") cdv A outer s H E) (fun _ => E) (defBody S__law_table) _ (m__law_table f__law_draw f__law_chain f__law_pick) :=
  (qb_cons (by exact qs_setLc 1 (by rfl) nd (qi_r1 T.n_range (qa_cons (q_op q_add q_int (q_call C__law_draw (hr.mono (by omega)) hx (qa_cons (q_var 0) (qa_cons q_int qa_nil)))) qa_nil)) (blkOk_by (own := [("k", 4)]) (N := NN__law_table) (sc := defScope S__law_table) (by decide +kernel)) (fun _ _ _ _ _ => (qg_name 4 nd)) (fun _ _ _ _ _ => qts_nil) (fun _ _ _ _ _ => (q_call C__law_chain (hr.mono (by omega)) hx0 (qa_cons (q_var 0) qa_nil))) eL s_L (sw_true rfl rfl rfl (by decide +kernel)))
  (qb_cons (qs_set 2 nd (q_H (ql_disp qa_nil)))
  (qb_cons (qs_set 3 nd q_int)
  (qb_cons (qs_for po (by rfl) (qi_r1 T.n_range (qa_cons (q_call C__law_draw (hr.mono (by omega)) hx (qa_cons (q_var 0) (qa_cons q_int qa_nil))) qa_nil)) (qg_name 4 nd) (qb_cons (qs_set 5 nd (q_op q_add (q_var 3) (q_call C__law_pick (hr.mono (by omega)) hx (qa_cons (q_var 0) (qa_cons (q_L (ql_disp (qa_cons q_int (qa_cons q_int (qa_cons q_int (qa_cons q_int (qa_cons q_int (qa_cons (q_call C__law_draw (hr.mono (by omega)) hx (qa_cons (q_var 0) (qa_cons q_int qa_nil))) qa_nil)))))))) qa_nil)))))
  (qb_cons (qs_set 3 nd (q_op q_add (q_op q_add (q_var 5) q_int) (q_call C__law_pick (hr.mono (by omega)) hx (qa_cons (q_var 0) (qa_cons (q_L (ql_disp (qa_cons q_int (qa_cons q_int (qa_cons q_int (qa_cons q_int (qa_cons (q_call C__law_draw (hr.mono (by omega)) hx (qa_cons (q_var 0) (qa_cons q_int qa_nil))) qa_nil))))))) qa_nil)))))
  (qb_one (qs_expr (q_app (q_var 2) (q_tup (qa_cons (q_var 5) (qa_cons (q_var 3) (qa_cons (q_call C__law_pick (hr.mono (by omega)) hx (qa_cons (q_var 0) (qa_cons (q_var 1) qa_nil))) qa_nil))))))))))
  (qb_one (qs_ret (q_var 2)))))))
  exact ⟨_, qq.ps, qq.ss⟩
theorem ok__law_table (T : Tx K mg)  (C__law_draw : Cal P wd K mg base 1 "_law_draw" 2 f__law_draw []) (C__law_chain : Cal P wd K mg base 3 "_law_chain" 1 f__law_chain []) (C__law_pick : Cal P wd K mg base 2 "_law_pick" 2 f__law_pick []) : Cal P wd K mg base (4) "_law_table" 1 f__law_table [] := by
  obtain ⟨hm, fd, F⟩ := T.d__law_table
  exact ⟨⟨_, fd, _, [], hm, F.kp, F.bindsN (ps := ["town"]) fun _ _ _ _ _ _ us hl => match us, hl with | [_], _ => rfl, .nil, okf__law_table T F  C__law_draw C__law_chain C__law_pick⟩⟩
theorem okf__law_found (T : Tx K mg) {fd : FuncData} (F : FunD K "_law_found" "_law_found" (defArgs S__law_found) (defBody S__law_found) (defScope S__law_found) [] [] (He.ga K "_law_found") fd)   : FnOk P wd K mg base (L2.CX P wd) (1) (He.ga K "_law_found") fd ["ranges_of", "place"] (SpOf K 2 f__law_found) := by
  refine ok_of F sc__law_found rfl rfl fun cdv A outer s H E hr => ?_
  have nd := sc__law_found.nd
  have hx : ∀ σ, PassesAt (L2.CX P wd) (cxOf (L2.CX P wd) P wd K mg base NN__law_found "_law_found" (defScope S__law_found) (He.ga K "_law_found") cdv A outer s H E) σ E := fun σ => passAt (W := fun cls d _ H => E cls d H) (takes_of rfl rfl rfl rfl) σ
  have hx0 : ∀ {X : Cx} (σ : L2.St), PassesAt (L2.CX X.prog X.w) X σ E0 := fun σ pins H s e s' I c => passL pins σ H s e s' I c
  have po : PassesOwn (model P wd) (cxOf (L2.CX P wd) P wd K mg base NN__law_found "_law_found" (defScope S__law_found) (He.ga K "_law_found") cdv A outer s H E).A (cxOf (L2.CX P wd) P wd K mg base NN__law_found "_law_found" (defScope S__law_found) (He.ga K "_law_found") cdv A outer s H E).env (cxOf (L2.CX P wd) P wd K mg base NN__law_found "_law_found" (defScope S__law_found) (He.ga K "_law_found") cdv A outer s H E).xe := passes_of rfl
  have qq : QB (cxOf (L2.CX P wd) P wd K mg base NN__law_found "_law_found" (defScope S__law_found) (He.ga K "_law_found") cdv A outer s H E) (fun _ => E) (defBody S__law_found) _ (m__law_found ) :=
  (qb_cons (qs_for po (by rfl) (qi_v (q_var 0)) (qg_tup 3 (by rfl) (qgs_cons (qg_name 2 nd) (qgs_cons (qg_name 3 nd) (qgs_cons (qg_name 4 nd) qgs_nil)))) (qb_one (qs_if (qt_w (qw_and (qt_cmp q_le (q_var 2) (q_var 1)) (qw_and1 (qt_cmp q_lt (q_var 1) (q_var 3))))) (qb_one (qs_ret (q_var 4))) qb_nil)))
  (qb_one (qs_ret (q_tup qa_nil))))
  exact ⟨_, qq.ps, qq.ss⟩
theorem ok__law_found (T : Tx K mg)   : Cal P wd K mg base (1) "_law_found" 2 f__law_found [] := by
  obtain ⟨hm, fd, F⟩ := T.d__law_found
  exact ⟨⟨_, fd, _, [], hm, F.kp, F.bindsN (ps := ["ranges_of", "place"]) fun _ _ _ _ _ _ us hl => match us, hl with | [_, _], _ => rfl, .nil, okf__law_found T F  ⟩⟩
theorem okf__law_looks (T : Tx K mg) {fd : FuncData} (F : FunD K "_law_looks" "_law_looks" (defArgs S__law_looks) (defBody S__law_looks) (defScope S__law_looks) [] [] (He.ga K "_law_looks") fd)   : FnOk P wd K mg base (L2.CX P wd) (1) (He.ga K "_law_looks") fd ["table", "width_of", "place"] (SpOf K 3 f__law_looks) := by
  refine ok_of F sc__law_looks rfl rfl fun cdv A outer s H E hr => ?_
  have nd := sc__law_looks.nd
  have hx : ∀ σ, PassesAt (L2.CX P wd) (cxOf (L2.CX P wd) P wd K mg base NN__law_looks "_law_looks" (defScope S__law_looks) (He.ga K "_law_looks") cdv A outer s H E) σ E := fun σ => passAt (W := fun cls d _ H => E cls d H) (takes_of rfl rfl rfl rfl) σ
  have hx0 : ∀ {X : Cx} (σ : L2.St), PassesAt (L2.CX X.prog X.w) X σ E0 := fun σ pins H s e s' I c => passL pins σ H s e s' I c
  have po : PassesOwn (model P wd) (cxOf (L2.CX P wd) P wd K mg base NN__law_looks "_law_looks" (defScope S__law_looks) (He.ga K "_law_looks") cdv A outer s H E).A (cxOf (L2.CX P wd) P wd K mg base NN__law_looks "_law_looks" (defScope S__law_looks) (He.ga K "_law_looks") cdv A outer s H E).env (cxOf (L2.CX P wd) P wd K mg base NN__law_looks "_law_looks" (defScope S__law_looks) (He.ga K "_law_looks") cdv A outer s H E).xe := passes_of rfl
  have qq : QB (cxOf (L2.CX P wd) P wd K mg base NN__law_looks "_law_looks" (defScope S__law_looks) (He.ga K "_law_looks") cdv A outer s H E) (fun _ => E) (defBody S__law_looks) _ (m__law_looks ) :=
  (qb_cons (qs_set 3 nd (q_ifx (qt_cmp (q_ne hr.units) (q_var 0) (q_L (ql_disp qa_nil))) (q_sub1 (q_sub1 (q_var 0) (q_neg q_int)) q_int) q_int))
  (qb_cons (qs_set 4 nd (q_op q_fdiv (q_var 2) (q_var 1)))
  (qb_cons (qs_if (qt_cmp q_ge (q_op q_mul (q_var 4) (q_var 1)) (q_var 3)) (qb_one (qs_ret q_int)) qb_nil)
  (qb_cons (by exact qs_setLc 5 (by rfl) nd (qi_v (q_var 0)) (blkOk_by (own := [("row", 7)]) (N := NN__law_looks) (sc := defScope S__law_looks) (by decide +kernel)) (fun _ _ _ _ _ => (qg_name 7 nd)) (fun _ _ _ _ _ => (qts_one (qt_cmp q_gt (q_sub1 (q_var 7) q_int) (q_op q_mul (q_var 4) (q_var 1))))) (fun _ _ _ _ _ => (q_var 7)) eL s_L (sw_true rfl rfl rfl (by decide +kernel)))
  (qb_cons (by exact qs_setLc 6 (by rfl) nd (qi_v (q_var 5)) (blkOk_by (own := [("row", 7)]) (N := NN__law_looks) (sc := defScope S__law_looks) (by decide +kernel)) (fun _ _ _ _ _ => (qg_name 7 nd)) (fun _ _ _ _ _ => (qts_one (qt_cmp q_le (q_sub1 (q_var 7) q_int) (q_var 2)))) (fun _ _ _ _ _ => (q_var 7)) eL s_L (sw_true rfl rfl rfl (by decide +kernel)))
  (qb_one (qs_ret (q_cb (call_min2 (by rfl)) sc_min T.n_min (qa_cons (q_cb call_len sc_len T.n_len (qa_cons (q_var 5) qa_nil)) (qa_cons (q_op q_add (q_cb call_len sc_len T.n_len (qa_cons (q_var 6) qa_nil)) q_int) qa_nil))))))))))
  exact ⟨_, qq.ps, qq.ss⟩
theorem ok__law_looks (T : Tx K mg)   : Cal P wd K mg base (1) "_law_looks" 3 f__law_looks [] := by
  obtain ⟨hm, fd, F⟩ := T.d__law_looks
  exact ⟨⟨_, fd, _, [], hm, F.kp, F.bindsN (ps := ["table", "width_of", "place"]) fun _ _ _ _ _ _ us hl => match us, hl with | [_, _, _], _ => rfl, .nil, okf__law_looks T F  ⟩⟩
theorem okf_law (T : Tx K mg) {fd : FuncData} (F : FunD K "law" "law" (defArgs S_law) (defBody S_law) (defScope S_law) [] [] (He.ga K "law") fd)  (C__law_town : Cal P wd K mg base 1 "_law_town" 1 f__law_town []) (C__law_table : Cal P wd K mg base 4 "_law_table" 1 f__law_table []) (C__law_pick : Cal P wd K mg base 2 "_law_pick" 2 f__law_pick []) (C_Index___init__ : CalC P wd K mg base 5 "Index" 3 f_Index___init__ [.int 64]) (C_Index___init___wide : CalCK P wd K mg base 5 "Index" 1 ["wide"] 3 f_Index___init__ gV_Index___init___wide gD_Index___init___wide) (C_Index_size : CalM P wd K mg base 1 "Index" "size" 1 f_Index_size []) (C__law_draw : Cal P wd K mg base 1 "_law_draw" 2 f__law_draw []) (C_Index_find : CalM P wd K mg base 2 "Index" "find" 2 f_Index_find []) (C__law_looks : Cal P wd K mg base 1 "_law_looks" 3 f__law_looks []) (C__law_found : Cal P wd K mg base 1 "_law_found" 2 f__law_found []) (C_Index_most_looks : CalM P wd K mg base 3 "Index" "most_looks" 1 f_Index_most_looks []) (C_found_at : Cal P wd K mg base 5 "found_at" 2 f_found_at []) : FnOk P wd K mg base (L2.CX P wd) (7) (He.ga K "law") fd ["script"] (SpOf K 1 f_law) := by
  refine ok_of F sc_law rfl rfl fun cdv A outer s H E hr => ?_
  have nd := sc_law.nd
  have hx : ∀ σ, PassesAt (L2.CX P wd) (cxOf (L2.CX P wd) P wd K mg base NN_law "law" (defScope S_law) (He.ga K "law") cdv A outer s H E) σ E := fun σ => passAt (W := fun cls d _ H => E cls d H) (takes_of rfl rfl rfl rfl) σ
  have hx0 : ∀ {X : Cx} (σ : L2.St), PassesAt (L2.CX X.prog X.w) X σ E0 := fun σ pins H s e s' I c => passL pins σ H s e s' I c
  have po : PassesOwn (model P wd) (cxOf (L2.CX P wd) P wd K mg base NN_law "law" (defScope S_law) (He.ga K "law") cdv A outer s H E).A (cxOf (L2.CX P wd) P wd K mg base NN_law "law" (defScope S_law) (He.ga K "law") cdv A outer s H E).env (cxOf (L2.CX P wd) P wd K mg base NN_law "law" (defScope S_law) (He.ga K "law") cdv A outer s H E).xe := passes_of rfl
  have qq : QB (cxOf (L2.CX P wd) P wd K mg base NN_law "law" (defScope S_law) (He.ga K "law") cdv A outer s H E) (fun _ => E) (defBody S_law) _ (m_law f__law_town f__law_table f__law_pick f_Index___init__ f_Index_size f__law_draw f_Index_find f__law_looks f__law_found f_Index_most_looks f_found_at) :=
  (qb_cons (qs_set 1 nd (q_call C__law_town (hr.mono (by omega)) hx (qa_cons (q_var 0) qa_nil)))
  (qb_cons (qs_set 2 nd (q_call C__law_table (hr.mono (by omega)) hx (qa_cons (q_var 1) qa_nil)))
  (qb_cons (qs_set 3 nd (q_L (ql_ct call_list_of sc_list T.n_list (qa_cons (q_var 2) qa_nil))))
  (qb_cons (qs_set 4 nd (q_or (q_cmp (q_eq hr.units) (q_var 2) (q_L (ql_disp qa_nil))) (q_one (q_cmp q_lt (q_sub1 (q_sub1 (q_var 2) (q_neg q_int)) q_int) q_int))))
  (qb_cons (qs_set 5 nd (q_call C__law_pick (hr.mono (by omega)) hx (qa_cons (q_var 1) (qa_cons (q_L (ql_disp (qa_cons (q_ifx (qt_val (q_var 4)) q_int q_int) (qa_cons (q_ifx (qt_val (q_var 4)) q_int q_int) (qa_cons q_int (qa_cons q_int (qa_cons q_int (qa_cons q_int qa_nil)))))))) qa_nil))))
  (qb_cons (qs_set 6 nd (q_ifx (qt_cmp (q_eq hr.units) (q_var 5) q_int) (q_make C_Index___init__ (hr.mono (by omega)) hx (qa_cons (q_var 2) qa_nil)) (q_makeK C_Index___init___wide (hr.mono (by omega)) hx (qa_cons (q_var 2) qa_nil) (qk_cons (q_var 5) qk_nil))))
  (qb_cons (qs_expr (q_app (q_var 2) q_str))
  (qb_cons (qs_expr (q_pop (q_var 2)))
  (qb_cons (qs_set 7 nd (q_ifx (qt_cmp (q_ne hr.units) (q_var 2) (q_L (ql_disp qa_nil))) (q_sub1 (q_sub1 (q_var 2) (q_neg q_int)) q_int) q_int))
  (qb_cons (qs_if (qt_w (qw_or (qt_cmp (q_ne hr.units) (q_meth0 C_Index_size (hr.mono (by omega)) hx (q_var 6)) (q_op q_fdiv (q_op q_sub (q_op q_add (q_var 7) (q_var 5)) q_int) (q_var 5))) (qw_or1 (qt_cmp (q_ne hr.units) (q_var 2) (q_var 3))))) (qb_one (qs_ret q_bl)) qb_nil)
  (qb_cons (qs_set 8 nd (q_L (ql_disp (qa_cons q_int (qa_cons q_int (qa_cons (q_call C__law_draw (hr.mono (by omega)) hx (qa_cons (q_var 1) (qa_cons q_int qa_nil))) qa_nil))))))
  (qb_cons (qs_for po (by rfl) (qi_v (q_var 2)) (qg_tup 3 (by rfl) (qgs_cons (qg_name 9 nd) (qgs_cons (qg_name 10 nd) (qgs_cons (qg_name 11 nd) qgs_nil)))) (qb_one (qs_set 8 nd (q_L (ql_op ql_cat (q_var 8) (q_L (ql_disp (qa_cons (q_cb (call_max2 (by rfl)) sc_max T.n_max (qa_cons q_int (qa_cons (q_op q_sub (q_var 9) q_int) qa_nil))) (qa_cons (q_var 9) (qa_cons (q_op q_sub (q_var 10) q_int) (qa_cons (q_var 10) (qa_cons (q_op q_sub (q_op q_mul (q_op q_add (q_op q_fdiv (q_var 10) (q_var 5)) q_int) (q_var 5)) q_int) qa_nil))))))))))))
  (qb_cons (qs_set 12 nd q_int)
  (qb_cons (qs_for po (by rfl) (qi_v (q_L (by exact ql_comp (by rfl) nd (qi_v (q_var 8)) (blkOk_by (own := [("place", 13)]) (N := NN_law) (sc := defScope S_law) (by decide +kernel)) (fun _ _ _ _ _ => (qg_name 13 nd)) (fun _ _ _ _ _ => (qts_one (qt_cmp q_le (q_var 13) q_int))) (fun _ _ _ _ _ => (q_var 13))))) (qg_name 13 nd) (qb_cons (qs_set 15 nd (q_meth C_Index_find (hr.mono (by omega)) hx (q_var 6) (qa_cons (q_var 13) qa_nil)))
  (qb_cons (qs_set 16 nd (q_tup (qa_cons (q_call C__law_found (hr.mono (by omega)) hx (qa_cons (q_var 2) (qa_cons (q_var 13) qa_nil))) (qa_cons (q_call C__law_looks (hr.mono (by omega)) hx (qa_cons (q_var 2) (qa_cons (q_var 5) (qa_cons (q_var 13) qa_nil)))) qa_nil))))
  (qb_cons (qs_if (qt_w (qw_or (qt_cmp (q_ne hr.units) (q_var 15) (q_var 16)) (qw_or1 (qt_not (qt_val (q_isi .tuple T.n_isinstance T.n_tuple (q_var 15))))))) (qb_one (qs_ret q_bl)) qb_nil)
  (qb_one (qs_set 12 nd (q_cb (call_max2 (by rfl)) sc_max T.n_max (qa_cons (q_var 12) (qa_cons (q_sub1 (q_var 15) q_int) qa_nil)))))))))
  (qb_cons (qs_if (qt_w (qw_or (qt_cmp q_gt (q_var 12) (q_meth0 C_Index_most_looks (hr.mono (by omega)) hx (q_var 6))) (qw_or1 (qt_cmp (q_ne hr.units) (q_call C_found_at (hr.mono (by omega)) hx (qa_cons (q_var 2) (qa_cons (q_sub1 (q_var 8) q_int) qa_nil))) (q_sub1 (q_meth C_Index_find (hr.mono (by omega)) hx (q_var 6) (qa_cons (q_sub1 (q_var 8) q_int) qa_nil)) q_int))))) (qb_one (qs_ret q_bl)) qb_nil)
  (qb_cons (qs_for po (by rfl) (qi_r1 T.n_range (qa_cons (q_cb (call_min2 (by rfl)) sc_min T.n_min (qa_cons q_int (qa_cons (q_meth0 C_Index_size (hr.mono (by omega)) hx (q_var 6)) qa_nil))) qa_nil)) (qg_name 14 nd) (qb_one (qs_set 12 nd (q_cb (call_max2 (by rfl)) sc_max T.n_max (qa_cons (q_var 12) (qa_cons (q_sub1 (q_meth C_Index_find (hr.mono (by omega)) hx (q_var 6) (qa_cons (q_cb (call_min2 (by rfl)) sc_min T.n_min (qa_cons q_int (qa_cons (q_op q_sub (q_op q_mul (q_op q_add (q_var 14) q_int) (q_var 5)) q_int) qa_nil))) qa_nil)) q_int) qa_nil))))))
  (qb_one (qs_ret (q_or (q_cmp (q_eq hr.units) (q_meth0 C_Index_most_looks (hr.mono (by omega)) hx (q_var 6)) (q_var 12)) (q_one (q_cmp q_gt (q_meth0 C_Index_size (hr.mono (by omega)) hx (q_var 6)) q_int)))))))))))))))))))))
  exact ⟨_, qq.ps, qq.ss⟩
end
theorem the_law {w : World} {K : PySem.W.Frag} {mg : Str → Option Value} {base : Heap} {fd : FuncData} (T : Tx K mg) (F : FunD K "law" "law" (defArgs S_law) (defBody S_law) (defScope S_law) [] [] (He.ga K "law") fd) :
    FnOk (PySem.Challenge.rw_coldlanes_k28_whole_index).prog w K mg base (L2.CX (PySem.Challenge.rw_coldlanes_k28_whole_index).prog w) 7 (He.ga K "law") fd ["script"] (SpOf K 1 f_law) := by
    have C_is_whole := ok_is_whole (P := PySem.Challenge.rw_coldlanes_k28_whole_index.prog) (wd := w) (base := base) T 
    have C_is_chain := ok_is_chain (P := PySem.Challenge.rw_coldlanes_k28_whole_index.prog) (wd := w) (base := base) T C_is_whole
    have C_is_table := ok_is_table (P := PySem.Challenge.rw_coldlanes_k28_whole_index.prog) (wd := w) (base := base) T C_is_chain C_is_whole
    have C_look_table := ok_look_table (P := PySem.Challenge.rw_coldlanes_k28_whole_index.prog) (wd := w) (base := base) T C_is_table
    have C_look_number := ok_look_number (P := PySem.Challenge.rw_coldlanes_k28_whole_index.prog) (wd := w) (base := base) T C_is_whole
    have C_Index___init__ := ok_Index___init__ (P := PySem.Challenge.rw_coldlanes_k28_whole_index.prog) (wd := w) (base := base) T C_look_table C_look_number
    have C_Index___init___wide := ok_Index___init___wide (P := PySem.Challenge.rw_coldlanes_k28_whole_index.prog) (wd := w) (base := base) T C_look_table C_look_number
    have C_Index_find := ok_Index_find (P := PySem.Challenge.rw_coldlanes_k28_whole_index.prog) (wd := w) (base := base) T C_is_whole
    have C_Index_size := ok_Index_size (P := PySem.Challenge.rw_coldlanes_k28_whole_index.prog) (wd := w) (base := base) T 
    have C_Index_most_looks := ok_Index_most_looks (P := PySem.Challenge.rw_coldlanes_k28_whole_index.prog) (wd := w) (base := base) T C_Index_find
    have C_found_in := ok_found_in (P := PySem.Challenge.rw_coldlanes_k28_whole_index.prog) (wd := w) (base := base) T 
    have C_found_at := ok_found_at (P := PySem.Challenge.rw_coldlanes_k28_whole_index.prog) (wd := w) (base := base) T C_look_table C_is_whole C_found_in
    have C__law_town := ok__law_town (P := PySem.Challenge.rw_coldlanes_k28_whole_index.prog) (wd := w) (base := base) T 
    have C__law_draw := ok__law_draw (P := PySem.Challenge.rw_coldlanes_k28_whole_index.prog) (wd := w) (base := base) T 
    have C__law_pick := ok__law_pick (P := PySem.Challenge.rw_coldlanes_k28_whole_index.prog) (wd := w) (base := base) T C__law_draw
    have C__law_chain := ok__law_chain (P := PySem.Challenge.rw_coldlanes_k28_whole_index.prog) (wd := w) (base := base) T C__law_draw C__law_pick
    have C__law_table := ok__law_table (P := PySem.Challenge.rw_coldlanes_k28_whole_index.prog) (wd := w) (base := base) T C__law_draw C__law_chain C__law_pick
    have C__law_found := ok__law_found (P := PySem.Challenge.rw_coldlanes_k28_whole_index.prog) (wd := w) (base := base) T 
    have C__law_looks := ok__law_looks (P := PySem.Challenge.rw_coldlanes_k28_whole_index.prog) (wd := w) (base := base) T 
    exact okf_law T F C__law_town C__law_table C__law_pick C_Index___init__ C_Index___init___wide C_Index_size C__law_draw C_Index_find C__law_looks C__law_found C_Index_most_looks C_found_at
def hd_is_whole : He.DefD := ⟨("is_whole", none), "is_whole", "is_whole", defArgs S_is_whole, defBody S_is_whole, defScope S_is_whole, [], []⟩
def hd_is_chain : He.DefD := ⟨("is_chain", none), "is_chain", "is_chain", defArgs S_is_chain, defBody S_is_chain, defScope S_is_chain, [], []⟩
def hd_is_table : He.DefD := ⟨("is_table", none), "is_table", "is_table", defArgs S_is_table, defBody S_is_table, defScope S_is_table, [], []⟩
def hd_look_table : He.DefD := ⟨("look_table", none), "look_table", "look_table", defArgs S_look_table, defBody S_look_table, defScope S_look_table, [], []⟩
def hd_look_number : He.DefD := ⟨("look_number", none), "look_number", "look_number", defArgs S_look_number, defBody S_look_number, defScope S_look_number, [], []⟩
def hd_Index___init__ : He.DefD := ⟨("Index", some "__init__"), "__init__", "Index.__init__", defArgs S_Index___init__, defBody S_Index___init__, defScope S_Index___init__, [], [("wide", .int 64)]⟩
def hd_Index_find : He.DefD := ⟨("Index", some "find"), "find", "Index.find", defArgs S_Index_find, defBody S_Index_find, defScope S_Index_find, [], []⟩
def hd_Index_size : He.DefD := ⟨("Index", some "size"), "size", "Index.size", defArgs S_Index_size, defBody S_Index_size, defScope S_Index_size, [], []⟩
def hd_Index_most_looks : He.DefD := ⟨("Index", some "most_looks"), "most_looks", "Index.most_looks", defArgs S_Index_most_looks, defBody S_Index_most_looks, defScope S_Index_most_looks, [], []⟩
def hd_found_in : He.DefD := ⟨("found_in", none), "found_in", "found_in", defArgs S_found_in, defBody S_found_in, defScope S_found_in, [], []⟩
def hd_found_at : He.DefD := ⟨("found_at", none), "found_at", "found_at", defArgs S_found_at, defBody S_found_at, defScope S_found_at, [], []⟩
def hd__law_town : He.DefD := ⟨("_law_town", none), "_law_town", "_law_town", defArgs S__law_town, defBody S__law_town, defScope S__law_town, [], []⟩
def hd__law_draw : He.DefD := ⟨("_law_draw", none), "_law_draw", "_law_draw", defArgs S__law_draw, defBody S__law_draw, defScope S__law_draw, [], []⟩
def hd__law_pick : He.DefD := ⟨("_law_pick", none), "_law_pick", "_law_pick", defArgs S__law_pick, defBody S__law_pick, defScope S__law_pick, [], []⟩
def hd__law_chain : He.DefD := ⟨("_law_chain", none), "_law_chain", "_law_chain", defArgs S__law_chain, defBody S__law_chain, defScope S__law_chain, [], []⟩
def hd__law_table : He.DefD := ⟨("_law_table", none), "_law_table", "_law_table", defArgs S__law_table, defBody S__law_table, defScope S__law_table, [], []⟩
def hd__law_found : He.DefD := ⟨("_law_found", none), "_law_found", "_law_found", defArgs S__law_found, defBody S__law_found, defScope S__law_found, [], []⟩
def hd__law_looks : He.DefD := ⟨("_law_looks", none), "_law_looks", "_law_looks", defArgs S__law_looks, defBody S__law_looks, defScope S__law_looks, [], []⟩
def hd_law : He.DefD := ⟨("law", none), "law", "law", defArgs S_law, defBody S_law, defScope S_law, [], []⟩
def hfn : List He.DefD := [hd_is_whole, hd_is_chain, hd_is_table, hd_look_table, hd_look_number, hd_Index___init__, hd_Index_find, hd_Index_size, hd_Index_most_looks, hd_found_in, hd_found_at, hd__law_town, hd__law_draw, hd__law_pick, hd__law_chain, hd__law_table, hd__law_found, hd__law_looks, hd_law]
def hfa0 : List He.Fa := [.glo "is_whole", .glo "is_chain", .glo "is_table", .glo "look_table", .glo "look_number", .glo "found_in", .glo "found_at", .glo "_law_town", .glo "_law_draw", .glo "_law_pick", .glo "_law_chain", .glo "_law_table", .glo "_law_found", .glo "_law_looks", .glo "law", .free "all", .free "bool", .free "int", .free "isinstance", .free "len", .free "list", .free "max", .free "min", .free "range", .free "tuple"]
def hfa1 : List He.Fa := [.glo "Index", .mkr "Index", .cls "Index", .meth "Index" "find", .meth "Index" "size", .meth "Index" "most_looks", .noat "Index" "firsts", .noat "Index" "wide", .noat "Index" "table", .int "KINDS" 5, .int "MOST_PLACE" 100000, .int "MOST_WIDE" 10000]
def hfa : List He.Fa := hfa0 ++ hfa1
def hex (K : PySem.W.Frag) : Bool := true
abbrev RR : PySem.W.OpenRow := PySem.W.OpenLaw.row PySem.Challenge.rw_coldlanes_k28_whole_index
abbrev hk : PySem.W.Hook := He.hookX 5 hfa hfn [] [] hex
def hob (s : PySem.W.SharedT) : He.AlX := He.obsX 5 hfa hfn [] [] hex (HandSHeadRun.getT s)
theorem hob_eq (s : PySem.W.SharedT) : hob s = hk.obs s.abs := He.obsX_eq (HandSHeadRun.getT_eq s)
def loose0 : List PySem.Str := ["LaneError", "BadNumber", "BadTable", "is_whole", "look_number", "KINDS", "MOST_PLACE", "is_table", "is_chain", "look_table", "found_at", "found_in", "MOST_WIDE", "Index", "_law_town", "_law_draw", "_law_pick", "_law_chain", "_law_table", "_law_found", "_law_looks"]
def loose : List PySem.Str := loose0
theorem hrun (w : World) : HandSHeadRun.RunEq RR (PySem.W.view RR.prog [25]) hk hob 6000 loose w := by
  intro os
  kernel_rfl
theorem tx_of {w : World} {K : PySem.W.Frag} {h : Heap} {mg : Str → Option Value} (X : K.In h) (G : h.Ns mainGlobals mg) (c : He.SaysX hfa hfn [] [] hex w h K) : Tx K mg where
  n_all := He.free_ok X G (c.t.d.fact 15 (f := .free "all") rfl)
  n_bool := He.free_ok X G (c.t.d.fact 16 (f := .free "bool") rfl)
  n_int := He.free_ok X G (c.t.d.fact 17 (f := .free "int") rfl)
  n_isinstance := He.free_ok X G (c.t.d.fact 18 (f := .free "isinstance") rfl)
  n_len := He.free_ok X G (c.t.d.fact 19 (f := .free "len") rfl)
  n_list := He.free_ok X G (c.t.d.fact 20 (f := .free "list") rfl)
  n_max := He.free_ok X G (c.t.d.fact 21 (f := .free "max") rfl)
  n_min := He.free_ok X G (c.t.d.fact 22 (f := .free "min") rfl)
  n_range := He.free_ok X G (c.t.d.fact 23 (f := .free "range") rfl)
  n_tuple := He.free_ok X G (c.t.d.fact 24 (f := .free "tuple") rfl)
  c_KINDS := He.int_ok X G (c.t.d.fact 34 (f := .int "KINDS" 5) rfl)
  c_MOST_PLACE := He.int_ok X G (c.t.d.fact 35 (f := .int "MOST_PLACE" 100000) rfl)
  c_MOST_WIDE := He.int_ok X G (c.t.d.fact 36 (f := .int "MOST_WIDE" 10000) rfl)
  q_Index_firsts := (clsF_cons (He.cls_ok (c.t.d.fact 27 (f := .cls "Index") rfl)) (He.noat_ok (c.t.d.fact 31 (f := .noat "Index" "firsts") rfl)) clsF_nil)
  q_Index_wide := (clsF_cons (He.cls_ok (c.t.d.fact 27 (f := .cls "Index") rfl)) (He.noat_ok (c.t.d.fact 32 (f := .noat "Index" "wide") rfl)) clsF_nil)
  q_Index_table := (clsF_cons (He.cls_ok (c.t.d.fact 27 (f := .cls "Index") rfl)) (He.noat_ok (c.t.d.fact 33 (f := .noat "Index" "table") rfl)) clsF_nil)
  d_is_whole := ⟨He.glo_ok X G (c.t.d.fact 0 (f := .glo "is_whole") rfl), c.t.d.def_ 0 (d := hd_is_whole) rfl⟩
  d_is_chain := ⟨He.glo_ok X G (c.t.d.fact 1 (f := .glo "is_chain") rfl), c.t.d.def_ 1 (d := hd_is_chain) rfl⟩
  d_is_table := ⟨He.glo_ok X G (c.t.d.fact 2 (f := .glo "is_table") rfl), c.t.d.def_ 2 (d := hd_is_table) rfl⟩
  d_look_table := ⟨He.glo_ok X G (c.t.d.fact 3 (f := .glo "look_table") rfl), c.t.d.def_ 3 (d := hd_look_table) rfl⟩
  d_look_number := ⟨He.glo_ok X G (c.t.d.fact 4 (f := .glo "look_number") rfl), c.t.d.def_ 4 (d := hd_look_number) rfl⟩
  d_Index___init__ := ⟨⟨He.glo_ok X G (c.t.d.fact 25 (f := .glo "Index") rfl), He.mkr_ok (c.t.d.fact 26 (f := .mkr "Index") rfl)⟩, c.t.d.def_ 5 (d := hd_Index___init__) rfl⟩
  d_Index_find := ⟨⟨He.cls_ok (c.t.d.fact 27 (f := .cls "Index") rfl), He.meth_ok (c.t.d.fact 28 (f := .meth "Index" "find") rfl)⟩, c.t.d.def_ 6 (d := hd_Index_find) rfl⟩
  d_Index_size := ⟨⟨He.cls_ok (c.t.d.fact 27 (f := .cls "Index") rfl), He.meth_ok (c.t.d.fact 29 (f := .meth "Index" "size") rfl)⟩, c.t.d.def_ 7 (d := hd_Index_size) rfl⟩
  d_Index_most_looks := ⟨⟨He.cls_ok (c.t.d.fact 27 (f := .cls "Index") rfl), He.meth_ok (c.t.d.fact 30 (f := .meth "Index" "most_looks") rfl)⟩, c.t.d.def_ 8 (d := hd_Index_most_looks) rfl⟩
  d_found_in := ⟨He.glo_ok X G (c.t.d.fact 5 (f := .glo "found_in") rfl), c.t.d.def_ 9 (d := hd_found_in) rfl⟩
  d_found_at := ⟨He.glo_ok X G (c.t.d.fact 6 (f := .glo "found_at") rfl), c.t.d.def_ 10 (d := hd_found_at) rfl⟩
  d__law_town := ⟨He.glo_ok X G (c.t.d.fact 7 (f := .glo "_law_town") rfl), c.t.d.def_ 11 (d := hd__law_town) rfl⟩
  d__law_draw := ⟨He.glo_ok X G (c.t.d.fact 8 (f := .glo "_law_draw") rfl), c.t.d.def_ 12 (d := hd__law_draw) rfl⟩
  d__law_pick := ⟨He.glo_ok X G (c.t.d.fact 9 (f := .glo "_law_pick") rfl), c.t.d.def_ 13 (d := hd__law_pick) rfl⟩
  d__law_chain := ⟨He.glo_ok X G (c.t.d.fact 10 (f := .glo "_law_chain") rfl), c.t.d.def_ 14 (d := hd__law_chain) rfl⟩
  d__law_table := ⟨He.glo_ok X G (c.t.d.fact 11 (f := .glo "_law_table") rfl), c.t.d.def_ 15 (d := hd__law_table) rfl⟩
  d__law_found := ⟨He.glo_ok X G (c.t.d.fact 12 (f := .glo "_law_found") rfl), c.t.d.def_ 16 (d := hd__law_found) rfl⟩
  d__law_looks := ⟨He.glo_ok X G (c.t.d.fact 13 (f := .glo "_law_looks") rfl), c.t.d.def_ 17 (d := hd__law_looks) rfl⟩
  d_law := ⟨He.glo_ok X G (c.t.d.fact 14 (f := .glo "law") rfl), c.t.d.def_ 18 (d := hd_law) rfl⟩
end CL
open PySem PySem.W PySem.Calls PyProof.Rows
theorem PySem.Challenge.cw_coldlanes_k28_whole_index_holds : PySem.Challenge.rw_coldlanes_k28_whole_index.Holds := by
  w_on; o_law
  refine HandSHeadRun.head_any (r := OpenLaw.row PySem.Challenge.rw_coldlanes_k28_whole_index) (q := view (OpenLaw.row PySem.Challenge.rw_coldlanes_k28_whole_index).prog [25]) (H := CL.hk) (ob := CL.hob) (M := 6000) (loose := CL.loose) (d := HandSHeadRun.topDef (OpenLaw.row PySem.Challenge.rw_coldlanes_k28_whole_index).prog 25) (kwd := []) CL.hob_eq
    (by kernel_rfl) (fun s => by kernel_rfl) CL.hrun (by kernel_rfl) (by kernel_rfl) (by kernel_rfl) (by rfl) (by first | assumption | decide +kernel) (by decide +kernel) ⟨rfl, rfl, rfl, rfl, rfl, by decide +kernel⟩ ?hw ?hc
  case hw => w_witness2
  case hc =>
    refine CL.walkE (l := PySem.Challenge.rw_coldlanes_k28_whole_index) (n := 63) (k := 7) (x := "script") rfl (by decide) (by kernel_rfl) ⟨rfl, by decide, by decide⟩ ?F
    intro w mg fa h Y G hmg0
    obtain ⟨K, KX, c⟩ := Y
    have T : CL.Tx K mg := CL.tx_of KX G c
    have hmg : mg ("law" : PySem.Str) = some (.ref fa) := by
      have e : (HandSHeadRun.topDef (OpenLaw.row PySem.Challenge.rw_coldlanes_k28_whole_index).prog 25).name = ("law" : PySem.Str) := by kernel_rfl
      rw [← e]
      exact hmg0
    obtain ⟨hl, fd, F⟩ := T.d_law
    rw [hmg] at hl
    cases hl
    have b := L2.FunD.bindsA (ps := ["script"]) F fun _ _ _ _ _ _ us hl => match us, hl with | [_], _ => rfl
    exact ⟨K, fd, CL.SpOf K 1 CL.f_law, KX, fun s v => b s [v] rfl, fun H a ns hl hO hS => CL.law_start hO hS (CL.law_true ns hl), fun base _ _ => CL.the_law T F⟩
