import PyProof.Rows.All
import Wide.All
import OpenK.AllK
import Wide.FinOn
import HandS.ForMost
import HandS.ForExc
import HandS.HeadHook1
import HandS.CallSlots
import HandS.TupAny
import HandS.TupLe
import HandS.Deep
import HandS.IsInst
import HandS.Defaults
import HandS.Strs
import HandS.SetFor
import HandS.MakeKwOnly
import HandS.Head0
import HandS.Head1
import HandS.Head2
import HandS.HeadEnd
import HandS.HeadHook2
import HandS.HeadHook3
import HandS.HeadHook4
import PySem.Challenge.RW_coldlanes_k01_whole_meaning
set_option Elab.async false
set_option linter.all false
set_option maxRecDepth 100000
set_option maxHeartbeats 4000000
namespace CL
open PySem PySem.Spec L2
/-- data without addresses; han: a thing that may change, by its number in the store; fro: the script -/
inductive Da where
  | non | bl (b : Bool) | int (i : Int) | str (s : Str) | tup (xs : List Da) | lst (xs : List Da) | fro (xs : List Da) | han (n : Nat)
inductive Cell where
  | lst (xs : List Da) | ins (c : Str) (fs : List (Str × Da)) | dK (kvs : List (Key × Da)) | dead
abbrev Store := List Cell
/-- a world: where the things stand, what they hold, the heap; pv: lists that are being made -/
structure Wd where
  io : List Addr
  st : Store
  H : Hp
  pv : List Addr
def LiveS (w : Wd) (a : Addr) : Prop := ∃ (n : Nat) (c : Cell), w.io[n]? = some a ∧ w.st[n]? = some c ∧ c ≠ .dead
def Live (w : Wd) (a : Addr) : Prop := a ∈ w.pv ∨ LiveS w a
/-- a list of the written part -/
def KLst (K : PySem.W.Frag) (a : Addr) (xs : List V) : Prop := ∃ (o : Obj) (its : Array Value) (n : Nat), K.lookup a = some o ∧ o.cls = .type "list" ∧ o.dict = none ∧ o.data = .seq its n ∧ its.size ≤ sizeLine ∧ Vals xs its.toList
def FrL (K : PySem.W.Frag) (H : Hp) (a : Addr) (xs : List V) : Prop := (∃ o, H a = some (.frz o (.lst xs))) ∨ KLst K a xs
theorem FrL.sq {K : PySem.W.Frag} {H : Hp} {a : Addr} {xs : List V} (h : FrL K H a xs) : SqL K H a xs := by
  rcases h with h | h
  · exact .inl (.inr h)
  · exact .inr h
mutual
inductive Rep (K : PySem.W.Frag) (w : Wd) : V → Da → Prop
  | non : Rep K w .non .non
  | bl (b : Bool) : Rep K w (.bl b) (.bl b)
  | int (i : Int) : Rep K w (.int i) (.int i)
  | str (s : Str) : Rep K w (.str s) (.str s)
  | tup {a : Addr} {vs : List V} {ds : List Da} : SqT K w.H a vs → RepL K w vs ds → Rep K w (.ref a) (.tup ds)
  | lst {a : Addr} {vs : List V} {ds : List Da} : w.H a = some (.lst vs) → ¬ Live w a → RepL K w vs ds → Rep K w (.ref a) (.lst ds)
  | fro {a : Addr} {vs : List V} {ds : List Da} : FrL K w.H a vs → RepL K w vs ds → Rep K w (.ref a) (.fro ds)
  | han {a : Addr} {n : Nat} : w.io[n]? = some a → Rep K w (.ref a) (.han n)
inductive RepL (K : PySem.W.Frag) (w : Wd) : List V → List Da → Prop
  | nil : RepL K w [] []
  | cons {v : V} {vs : List V} {d : Da} {ds : List Da} : Rep K w v d → RepL K w vs ds → RepL K w (v :: vs) (d :: ds)
end
inductive RepF (K : PySem.W.Frag) (w : Wd) : List (Str × V) → List (Str × Da) → Prop
  | nil : RepF K w [] []
  | cons {f : Str} {v : V} {vs : List (Str × V)} {d : Da} {ds : List (Str × Da)} : Rep K w v d → RepF K w vs ds → RepF K w ((f, v) :: vs) ((f, d) :: ds)
inductive RepK (K : PySem.W.Frag) (w : Wd) : List (Key × V) → List (Key × Da) → Prop
  | nil : RepK K w [] []
  | cons {f : Key} {v : V} {vs : List (Key × V)} {d : Da} {ds : List (Key × Da)} : Rep K w v d → RepK K w vs ds → RepK K w ((f, v) :: vs) ((f, d) :: ds)
def CellOk (K : PySem.W.Frag) (ga : Str → Addr) (w : Wd) (a : Addr) : Cell → Prop
  | .lst ds => ∃ vs, w.H a = some (.lst vs) ∧ RepL K w vs ds
  | .ins c fs => ∃ dx vfs, w.H a = some (.ins (ga c) dx vfs) ∧ RepF K w vfs fs
  | .dK kvs => ∃ vs, w.H a = some (.dK vs) ∧ RepK K w vs kvs
  | .dead => True
structure Emb (K : PySem.W.Frag) (ga : Str → Addr) (w : Wd) : Prop where
  len : w.io.length = w.st.length
  nd : w.io.Nodup
  dom : ∀ a ∈ w.io, ∃ o, w.H a = some o
  cell : ∀ (n : Nat) (a : Addr) (c : Cell), w.io[n]? = some a → w.st[n]? = some c → CellOk K ga w a c
  pvo : ∀ a ∈ w.pv, a ∉ w.io ∧ ∃ vs, w.H a = some (.lst vs)
structure Ext (w w' : Wd) : Prop where
  io : ∃ t, w'.io = w.io ++ t
  keep : ∀ a o, w.H a = some o → ¬ Live w a → w'.H a = some o ∧ ¬ Live w' a
  pvk : ∀ a ∈ w.pv, a ∈ w'.pv ∧ w'.H a = w.H a
theorem Ext.refl (w : Wd) : Ext w w := ⟨⟨[], by simp⟩, fun _ _ h n => ⟨h, n⟩, fun _ h => ⟨h, rfl⟩⟩
theorem Ext.trans {a b c : Wd} (x : Ext a b) (y : Ext b c) : Ext a c := by
  obtain ⟨t, ht⟩ := x.io
  obtain ⟨u, hu⟩ := y.io
  refine ⟨⟨t ++ u, by rw [hu, ht, List.append_assoc]⟩, fun p o h n => ?_, fun p hp => ?_⟩
  · obtain ⟨h1, n1⟩ := x.keep p o h n
    exact y.keep p o h1 n1
  · obtain ⟨h1, e1⟩ := x.pvk p hp
    obtain ⟨h2, e2⟩ := y.pvk p h1
    exact ⟨h2, e2.trans e1⟩
theorem Ext.at {w w' : Wd} (x : Ext w w') {n : Nat} {a : Addr} (h : w.io[n]? = some a) : w'.io[n]? = some a := by
  obtain ⟨t, ht⟩ := x.io
  rw [ht, List.getElem?_append_left (List.getElem?_eq_some_iff.mp h).1]
  exact h
/-- what is alive is of a kind that changes -/
theorem Emb.live {K : PySem.W.Frag} {ga : Str → Addr} {w : Wd} (m : Emb K ga w) {a : Addr} (h : Live w a) :
    (∃ vs, w.H a = some (.lst vs)) ∨ (∃ C dx fs, w.H a = some (.ins C dx fs)) ∨ ∃ kvs, w.H a = some (.dK kvs) := by
  rcases h with h | ⟨n, c, h1, h2, h3⟩
  · exact .inl (m.pvo a h).2
  have q := m.cell n a c h1 h2
  cases c with
  | lst ds => obtain ⟨vs, e, _⟩ := q; exact .inl ⟨vs, e⟩
  | ins c fs => obtain ⟨dx, vfs, e, _⟩ := q; exact .inr (.inl ⟨_, dx, vfs, e⟩)
  | dK kvs => obtain ⟨vs, e, _⟩ := q; exact .inr (.inr ⟨vs, e⟩)
  | dead => exact absurd rfl h3
theorem Emb.noTup {K : PySem.W.Frag} {ga : Str → Addr} {w : Wd} (m : Emb K ga w) {a : Addr} {vs : List V} (h : w.H a = some (.tup vs)) : ¬ Live w a := fun l => by
  rcases m.live l with ⟨_, e⟩ | ⟨_, _, _, e⟩ | ⟨_, e⟩ <;> rw [h] at e <;> cases e
theorem Emb.noFrz {K : PySem.W.Frag} {ga : Str → Addr} {w : Wd} (m : Emb K ga w) {a : Addr} {o : Obj} {u : HO} (h : w.H a = some (.frz o u)) : ¬ Live w a := fun l => by
  rcases m.live l with ⟨_, e⟩ | ⟨_, _, _, e⟩ | ⟨_, e⟩ <;> rw [h] at e <;> cases e
section
variable {K : PySem.W.Frag} {ga : Str → Addr} {w w' : Wd}
theorem sqT_mono (m : Emb K ga w) (x : Ext w w') {a : Addr} {vs : List V} (h : SqT K w.H a vs) : SqT K w'.H a vs := by
  rcases h with (h | ⟨o, h⟩) | h
  · exact .inl (.inl (x.keep a _ h (m.noTup h)).1)
  · exact .inl (.inr ⟨o, (x.keep a _ h (m.noFrz h)).1⟩)
  · exact .inr h
mutual
theorem Rep.mono (m : Emb K ga w) (x : Ext w w') : ∀ {v : V} {d : Da}, Rep K w v d → Rep K w' v d
  | _, _, .non => .non
  | _, _, .bl b => .bl b
  | _, _, .int i => .int i
  | _, _, .str s => .str s
  | _, _, .tup h r => .tup (sqT_mono m x h) (RepL.mono m x r)
  | _, _, .lst h n r => .lst (x.keep _ _ h n).1 (x.keep _ _ h n).2 (RepL.mono m x r)
  | _, _, .fro h r => .fro (by
      rcases h with ⟨o, h⟩ | h
      · exact .inl ⟨o, (x.keep _ _ h (m.noFrz h)).1⟩
      · exact .inr h) (RepL.mono m x r)
  | _, _, .han h => .han (x.at h)
theorem RepL.mono (m : Emb K ga w) (x : Ext w w') : ∀ {vs : List V} {ds : List Da}, RepL K w vs ds → RepL K w' vs ds
  | _, _, .nil => .nil
  | _, _, .cons h r => .cons (Rep.mono m x h) (RepL.mono m x r)
end
theorem RepF.mono (m : Emb K ga w) (x : Ext w w') : ∀ {vs : List (Str × V)} {ds : List (Str × Da)}, RepF K w vs ds → RepF K w' vs ds
  | _, _, .nil => .nil
  | _, _, .cons h r => .cons (h.mono m x) (r.mono m x)
theorem RepK.mono (m : Emb K ga w) (x : Ext w w') : ∀ {vs : List (Key × V)} {ds : List (Key × Da)}, RepK K w vs ds → RepK K w' vs ds
  | _, _, .nil => .nil
  | _, _, .cons h r => .cons (h.mono m x) (r.mono m x)
theorem RepL.length {vs : List V} {ds : List Da} (r : RepL K w vs ds) : vs.length = ds.length := by
  induction vs generalizing ds with
  | nil => cases r; rfl
  | cons v vs ih => cases r with | cons h t => simp [ih t]
theorem RepL.get : ∀ {vs : List V} {ds : List Da} {i : Nat} {d : Da}, RepL K w vs ds → ds[i]? = some d → ∃ v, vs[i]? = some v ∧ Rep K w v d
  | _, _, i, d, .nil, e => by simp at e
  | _, _, 0, d, .cons h _, e => by simp at e; subst e; exact ⟨_, rfl, h⟩
  | _, _, i + 1, d, .cons _ t, e => by
    obtain ⟨v, h1, h2⟩ := RepL.get (i := i) (d := d) t (by simpa using e)
    exact ⟨v, by simpa using h1, h2⟩
theorem RepL.append : ∀ {vs us : List V} {ds es : List Da}, RepL K w vs ds → RepL K w us es → RepL K w (vs ++ us) (ds ++ es)
  | _, _, _, _, .nil, r => r
  | _, _, _, _, .cons h t, r => .cons h (t.append r)
theorem RepL.set {x : V} {d : Da} (h : Rep K w x d) : ∀ {vs : List V} {ds : List Da} (i : Nat), RepL K w vs ds → RepL K w (vs.set i x) (ds.set i d)
  | _, _, _, .nil => .nil
  | _, _, 0, .cons _ t => .cons h t
  | _, _, i + 1, .cons q t => .cons q (RepL.set h i t)
theorem RepL.take : ∀ {vs : List V} {ds : List Da} (n : Nat), RepL K w vs ds → RepL K w (vs.take n) (ds.take n)
  | _, _, 0, _ => .nil
  | _, _, _ + 1, .nil => .nil
  | _, _, n + 1, .cons r t => .cons r (RepL.take n t)
theorem RepL.drop : ∀ {vs : List V} {ds : List Da} (n : Nat), RepL K w vs ds → RepL K w (vs.drop n) (ds.drop n)
  | _, _, 0, r => r
  | _, _, _ + 1, .nil => .nil
  | _, _, n + 1, .cons _ t => RepL.drop n t
theorem RepL.dropLast : ∀ {vs : List V} {ds : List Da}, RepL K w vs ds → RepL K w vs.dropLast ds.dropLast := fun {vs ds} r => by
  rw [List.dropLast_eq_take, List.dropLast_eq_take, r.length]
  exact r.take _
theorem RepL.rep {v : V} {d : Da} (h : Rep K w v d) : ∀ n, RepL K w (List.replicate n v) (List.replicate n d)
  | 0 => .nil
  | n + 1 => .cons h (RepL.rep h n)
theorem RepF.lookup : ∀ {vs : List (Str × V)} {ds : List (Str × Da)} {f : Str} {d : Da}, RepF K w vs ds → ds.lookup f = some d → ∃ v, vs.lookup f = some v ∧ Rep K w v d
  | _, _, f, d, .nil, e => by simp at e
  | _, _, f, d, .cons (f := g) h t, e => by
    by_cases q : (f == g) = true
    · simp only [List.lookup, q] at e ⊢
      cases e
      exact ⟨_, rfl, h⟩
    · have q' : (f == g) = false := by simpa using q
      simp only [List.lookup, q'] at e ⊢
      exact RepF.lookup t e
theorem RepF.lookup_none : ∀ {vs : List (Str × V)} {ds : List (Str × Da)} {f : Str}, RepF K w vs ds → ds.lookup f = none → vs.lookup f = none
  | _, _, f, .nil, e => rfl
  | _, _, f, .cons (f := g) h t, e => by
    by_cases q : (f == g) = true
    · simp only [List.lookup, q] at e
      cases e
    · have q' : (f == g) = false := by simpa using q
      simp only [List.lookup, q'] at e ⊢
      exact RepF.lookup_none t e
theorem RepF.length : ∀ {vs : List (Str × V)} {ds : List (Str × Da)}, RepF K w vs ds → vs.length = ds.length
  | _, _, .nil => rfl
  | _, _, .cons _ t => by simp [t.length]
def putD (f : Str) (v : Da) : List (Str × Da) → List (Str × Da)
  | [] => [(f, v)]
  | (g, x) :: r => if g = f then (g, v) :: r else (g, x) :: putD f v r
theorem RepF.put {f : Str} {x : V} {d : Da} (h : Rep K w x d) : ∀ {vs : List (Str × V)} {ds : List (Str × Da)}, RepF K w vs ds → RepF K w (putF f x vs) (putD f d ds)
  | _, _, .nil => .cons h .nil
  | _, _, .cons (f := g) q t => by
    unfold putF putD
    by_cases e : g = f
    · rw [if_pos e, if_pos e]
      exact .cons h t
    · rw [if_neg e, if_neg e]
      exact .cons q (RepF.put h t)
theorem CellOk.mono (m : Emb K ga w) (x : Ext w w') {a : Addr} {c : Cell} (hH : c ≠ .dead → w'.H a = w.H a) (h : CellOk K ga w a c) : CellOk K ga w' a c := by
  cases c with
  | lst ds => obtain ⟨vs, e, r⟩ := h; exact ⟨vs, (hH (by intro z; cases z)).trans e, r.mono m x⟩
  | ins c fs => obtain ⟨dx, vs, e, r⟩ := h; exact ⟨dx, vs, (hH (by intro z; cases z)).trans e, r.mono m x⟩
  | dK ds => obtain ⟨vs, e, r⟩ := h; exact ⟨vs, (hH (by intro z; cases z)).trans e, r.mono m x⟩
  | dead => trivial
theorem io_inj (nd : w.io.Nodup) {i j : Nat} {a : Addr} (h1 : w.io[i]? = some a) (h2 : w.io[j]? = some a) : i = j := nd_ix nd h1 h2
/-- a new thing that never changes -/
def Wd.new (w : Wd) (p : Addr) (o : HO) : Wd := ⟨w.io, w.st, upd w.H p o, w.pv⟩
theorem Wd.new_live {p : Addr} {o : HO} {a : Addr} : Live (w.new p o) a ↔ Live w a := Iff.rfl
theorem Emb.fresh (m : Emb K ga w) {p : Addr} (hp : w.H p = none) : p ∉ w.io := fun h => by
  obtain ⟨o, e⟩ := m.dom p h
  rw [hp] at e; cases e
theorem Emb.freshP (m : Emb K ga w) {p : Addr} (hp : w.H p = none) : p ∉ w.pv := fun h => by
  obtain ⟨_, vs, e⟩ := m.pvo p h
  rw [hp] at e; cases e
theorem Emb.notLive (m : Emb K ga w) {p : Addr} (hp : w.H p = none) : ¬ Live w p := fun h => by
  rcases h with h | ⟨n, c, h1, _, _⟩
  · exact m.freshP hp h
  · exact m.fresh hp (List.mem_of_getElem? h1)
theorem Ext.new (m : Emb K ga w) {p : Addr} {o : HO} (hp : w.H p = none) : Ext w (w.new p o) := by
  refine ⟨⟨[], by simp [Wd.new]⟩, fun a u h n => ⟨?_, n⟩, fun a ha => ⟨ha, ?_⟩⟩
  · show upd w.H p o a = some u
    rw [upd_ne (ne_of_none h hp)]
    exact h
  · show upd w.H p o a = w.H a
    rw [upd_ne (show a ≠ p from fun z => m.freshP hp (z ▸ ha))]
theorem Emb.new (m : Emb K ga w) {p : Addr} {o : HO} (hp : w.H p = none) : Emb K ga (w.new p o) := by
  refine ⟨m.len, m.nd, fun a ha => ?_, fun n a c h1 h2 => ?_, fun a ha => ?_⟩
  · obtain ⟨u, e⟩ := m.dom a ha
    refine ⟨u, ?_⟩
    show upd w.H p o a = some u
    rw [upd_ne (ne_of_none e hp)]
    exact e
  · refine (m.cell n a c h1 h2).mono m (Ext.new m hp) fun _ => ?_
    have ne : a ≠ p := fun z => m.fresh hp (z ▸ List.mem_of_getElem? h1)
    show upd w.H p o a = w.H a
    rw [upd_ne ne]
  · obtain ⟨h1, vs, h2⟩ := m.pvo a ha
    refine ⟨h1, vs, ?_⟩
    show upd w.H p o a = some (.lst vs)
    rw [upd_ne (ne_of_none h2 hp)]
    exact h2
theorem Rep.newTup (m : Emb K ga w) {p : Addr} {vs : List V} {ds : List Da} (hp : w.H p = none) (r : RepL K w vs ds) : Rep K (w.new p (.tup vs)) (.ref p) (.tup ds) :=
  .tup (.inl (.inl upd_same)) (r.mono m (Ext.new m hp))
theorem Rep.newLst (m : Emb K ga w) {p : Addr} {vs : List V} {ds : List Da} (hp : w.H p = none) (r : RepL K w vs ds) : Rep K (w.new p (.lst vs)) (.ref p) (.lst ds) :=
  .lst upd_same (fun l => m.notLive hp l) (r.mono m (Ext.new m hp))
/-- a new thing that may change -/
def Wd.push (w : Wd) (p : Addr) (o : HO) (c : Cell) : Wd := ⟨w.io ++ [p], w.st ++ [c], upd w.H p o, w.pv⟩
theorem push_at (m : Emb K ga w) {p : Addr} {o : HO} {c : Cell} : (w.push p o c).io[w.st.length]? = some p := by
  show (w.io ++ [p])[w.st.length]? = some p
  rw [← m.len]
  simp
theorem Ext.push (m : Emb K ga w) {p : Addr} {o : HO} {c : Cell} (hp : w.H p = none) : Ext w (w.push p o c) := by
  refine ⟨⟨[p], rfl⟩, fun a u h n => ⟨?_, fun l => ?_⟩, fun a ha => ⟨ha, ?_⟩⟩
  · show upd w.H p o a = some u
    rw [upd_ne (ne_of_none h hp)]
    exact h
  · rcases l with l | l
    · exact n (.inl l)
    obtain ⟨i, k, h1, h2, h3⟩ := l
    have h1' : (w.io ++ [p])[i]? = some a := h1
    have h2' : (w.st ++ [c])[i]? = some k := h2
    have ne : a ≠ p := ne_of_none h hp
    by_cases hi : i < w.io.length
    · rw [List.getElem?_append_left hi] at h1'
      rw [List.getElem?_append_left (m.len ▸ hi)] at h2'
      exact n (.inr ⟨i, k, h1', h2', h3⟩)
    · rw [List.getElem?_append_right (by omega)] at h1'
      have : i - w.io.length = 0 := by
        have := (List.getElem?_eq_some_iff.mp h1').1
        simp at this
        omega
      rw [this] at h1'
      simp at h1'
      exact ne h1'.symm
  · show upd w.H p o a = w.H a
    rw [upd_ne (show a ≠ p from fun z => m.freshP hp (z ▸ ha))]
theorem Emb.push (m : Emb K ga w) {p : Addr} {o : HO} {c : Cell} (hp : w.H p = none) (hc : CellOk K ga (w.push p o c) p c) : Emb K ga (w.push p o c) := by
  refine ⟨?_, ?_, fun a ha => ?_, fun n a k h1 h2 => ?_, fun a ha => ?_⟩
  · show (w.io ++ [p]).length = (w.st ++ [c]).length
    simp [m.len]
  · show (w.io ++ [p]).Nodup
    rw [List.nodup_append]
    refine ⟨m.nd, by simp, fun a ha b hb => ?_⟩
    have e : b = p := by simpa using hb
    rw [e]
    exact fun z => m.fresh hp (z ▸ ha)
  · have ha' : a ∈ w.io ++ [p] := ha
    rcases List.mem_append.mp ha' with ha | ha
    · obtain ⟨u, e⟩ := m.dom a ha
      refine ⟨u, ?_⟩
      show upd w.H p o a = some u
      rw [upd_ne (ne_of_none e hp)]
      exact e
    · have e : a = p := by simpa using ha
      rw [e]
      exact ⟨o, upd_same⟩
  · have h1' : (w.io ++ [p])[n]? = some a := h1
    have h2' : (w.st ++ [c])[n]? = some k := h2
    by_cases hi : n < w.io.length
    · rw [List.getElem?_append_left hi] at h1'
      rw [List.getElem?_append_left (m.len ▸ hi)] at h2'
      refine (m.cell n a k h1' h2').mono m (Ext.push m hp) fun _ => ?_
      have ne : a ≠ p := fun z => m.fresh hp (z ▸ List.mem_of_getElem? h1')
      show upd w.H p o a = w.H a
      rw [upd_ne ne]
    · rw [List.getElem?_append_right (by omega)] at h1'
      rw [List.getElem?_append_right (by rw [← m.len]; omega)] at h2'
      have z : n - w.io.length = 0 := by
        have := (List.getElem?_eq_some_iff.mp h1').1
        simp at this
        omega
      rw [← m.len, z] at h2'
      rw [z] at h1'
      simp at h1' h2'
      subst h1' h2'
      exact hc
  · obtain ⟨h1, vs, h2⟩ := m.pvo a ha
    have ne : a ≠ p := fun z => m.freshP hp (z ▸ ha)
    refine ⟨fun z => ?_, vs, ?_⟩
    · have z' : a ∈ w.io ++ [p] := z
      rcases List.mem_append.mp z' with z | z
      · exact h1 z
      · exact ne (by simpa using z)
    · show upd w.H p o a = some (.lst vs)
      rw [upd_ne ne]
      exact h2
/-- a thing changes -/
def Wd.put (w : Wd) (n : Nat) (a : Addr) (o : HO) (c : Cell) : Wd := ⟨w.io, w.st.set n c, upd w.H a o, w.pv⟩
theorem put_live {n : Nat} {a b : Addr} {o : HO} {c : Cell} (h : Live (w.put n a o c) b) (hb : b ≠ a ∨ c = .dead) (ha : w.io[n]? = some a) : Live w b := by
  rcases h with h | ⟨i, k, h1, h2, h3⟩
  · exact .inl h
  have h1' : w.io[i]? = some b := h1
  have h2' : (w.st.set n c)[i]? = some k := h2
  by_cases e : i = n
  · subst e
    rw [ha] at h1'
    cases h1'
    rcases hb with hb | hb
    · exact absurd rfl hb
    · rw [List.getElem?_set] at h2'
      simp only [if_true] at h2'
      split at h2'
      · cases h2'
        exact absurd hb h3
      · cases h2'
  · rw [List.getElem?_set_ne (Ne.symm e)] at h2'
    exact .inr ⟨i, k, h1', h2', h3⟩
theorem Ext.put (m : Emb K ga w) {n : Nat} {a : Addr} {o : HO} {c c0 : Cell} (ha : w.io[n]? = some a) (hc0 : w.st[n]? = some c0) (hl : c0 ≠ .dead) : Ext w (w.put n a o c) := by
  refine ⟨⟨[], by simp [Wd.put]⟩, fun b u h nl => ?_, fun b hb => ⟨hb, ?_⟩⟩
  · have ne : b ≠ a := fun z => nl (z ▸ .inr ⟨n, c0, ha, hc0, hl⟩)
    refine ⟨?_, fun l => nl (put_live l (.inl ne) ha)⟩
    show upd w.H a o b = some u
    rw [upd_ne ne]
    exact h
  · show upd w.H a o b = w.H b
    rw [upd_ne (show b ≠ a from fun z => (m.pvo b hb).1 (z ▸ List.mem_of_getElem? ha))]
theorem Emb.put (m : Emb K ga w) {n : Nat} {a : Addr} {o : HO} {c c0 : Cell} (ha : w.io[n]? = some a) (hc0 : w.st[n]? = some c0) (hl : c0 ≠ .dead) (hc : CellOk K ga (w.put n a o c) a c) : Emb K ga (w.put n a o c) := by
  refine ⟨?_, m.nd, fun b hb => ?_, fun i b k h1 h2 => ?_, fun b hb => ?_⟩
  · show w.io.length = (w.st.set n c).length
    rw [List.length_set]; exact m.len
  · by_cases e : b = a
    · rw [e]; exact ⟨o, upd_same⟩
    · obtain ⟨u, q⟩ := m.dom b hb
      refine ⟨u, ?_⟩
      show upd w.H a o b = some u
      rw [upd_ne e]; exact q
  · have h1' : w.io[i]? = some b := h1
    have h2' : (w.st.set n c)[i]? = some k := h2
    by_cases e : i = n
    · subst e
      rw [ha] at h1'; cases h1'
      have hlt : i < w.st.length := (List.getElem?_eq_some_iff.mp hc0).1
      rw [List.getElem?_set_self hlt] at h2'
      cases h2'
      exact hc
    · rw [List.getElem?_set_ne (Ne.symm e)] at h2'
      refine (m.cell i b k h1' h2').mono m (Ext.put m ha hc0 hl) fun _ => ?_
      have ne : b ≠ a := fun z => e (io_inj m.nd h1' (z ▸ ha))
      show upd w.H a o b = w.H b
      rw [upd_ne ne]
  · obtain ⟨h1, vs, h2⟩ := m.pvo b hb
    refine ⟨h1, vs, ?_⟩
    show upd w.H a o b = some (.lst vs)
    rw [upd_ne (show b ≠ a from fun z => h1 (z ▸ List.mem_of_getElem? ha))]
    exact h2
/-- a thing stops changing -/
def Wd.kill (w : Wd) (n : Nat) : Wd := ⟨w.io, w.st.set n .dead, w.H, w.pv⟩
theorem kill_live {n : Nat} {b : Addr} (h : Live (w.kill n) b) : b ∈ w.pv ∨ Live w b ∧ ∃ i, i ≠ n ∧ w.io[i]? = some b := by
  rcases h with h | ⟨i, k, h1, h2, h3⟩
  · exact .inl h
  have h1' : w.io[i]? = some b := h1
  have h2' : (w.st.set n .dead)[i]? = some k := h2
  by_cases e : i = n
  · subst e
    rw [List.getElem?_set] at h2'
    simp only [if_true] at h2'
    split at h2'
    · cases h2'
      exact absurd rfl h3
    · cases h2'
  · rw [List.getElem?_set_ne (Ne.symm e)] at h2'
    exact .inr ⟨.inr ⟨i, k, h1', h2', h3⟩, i, e, h1'⟩
theorem kill_live' {n : Nat} {b : Addr} (h : Live (w.kill n) b) : Live w b := by
  rcases kill_live h with h | h
  · exact .inl h
  · exact h.1
theorem Ext.kill {n : Nat} : Ext w (w.kill n) := ⟨⟨[], by simp [Wd.kill]⟩, fun _ _ h nl => ⟨h, fun l => nl (kill_live' l)⟩, fun _ h => ⟨h, rfl⟩⟩
theorem Emb.kill (m : Emb K ga w) {n : Nat} : Emb K ga (w.kill n) := by
  refine ⟨?_, m.nd, m.dom, fun i b k h1 h2 => ?_, m.pvo⟩
  · show w.io.length = (w.st.set n .dead).length
    rw [List.length_set]; exact m.len
  · have h1' : w.io[i]? = some b := h1
    have h2' : (w.st.set n .dead)[i]? = some k := h2
    by_cases e : i = n
    · subst e
      rw [List.getElem?_set] at h2'
      simp only [if_true] at h2'
      split at h2'
      · cases h2'; trivial
      · cases h2'
    · rw [List.getElem?_set_ne (Ne.symm e)] at h2'
      exact (m.cell i b k h1' h2').mono m Ext.kill fun _ => rfl
theorem Rep.killed (m : Emb K ga w) {n : Nat} {a : Addr} {vs : List V} {ds : List Da} (ha : w.io[n]? = some a) (hH : w.H a = some (.lst vs)) (r : RepL K w vs ds) : Rep K (w.kill n) (.ref a) (.lst ds) := by
  refine .lst hH (fun l => ?_) (r.mono m Ext.kill)
  rcases kill_live l with h | ⟨_, i, hi, h⟩
  · exact (m.pvo a h).1 (List.mem_of_getElem? ha)
  · exact hi (io_inj m.nd h ha)
/-! ### a list that is being made: nobody else has it -/
def Wd.hid (w : Wd) (p : Addr) (vs : List V) : Wd := ⟨w.io, w.st, upd w.H p (.lst vs), p :: w.pv⟩
theorem Ext.hid (m : Emb K ga w) {p : Addr} {vs : List V} (hp : w.H p = none) : Ext w (w.hid p vs) := by
  refine ⟨⟨[], by simp [Wd.hid]⟩, fun a u h n => ⟨?_, fun l => ?_⟩, fun a ha => ⟨List.mem_cons_of_mem _ ha, ?_⟩⟩
  · show upd w.H p _ a = some u
    rw [upd_ne (ne_of_none h hp)]
    exact h
  · rcases l with l | l
    · have l' : a ∈ p :: w.pv := l
      rcases List.mem_cons.mp l' with l | l
      · exact ne_of_none h hp l
      · exact n (.inl l)
    · exact n (.inr l)
  · show upd w.H p _ a = w.H a
    rw [upd_ne (show a ≠ p from fun z => m.freshP hp (z ▸ ha))]
theorem Emb.hid (m : Emb K ga w) {p : Addr} {vs : List V} (hp : w.H p = none) : Emb K ga (w.hid p vs) := by
  refine ⟨m.len, m.nd, fun a ha => ?_, fun n a c h1 h2 => ?_, fun a ha => ?_⟩
  · obtain ⟨u, e⟩ := m.dom a ha
    refine ⟨u, ?_⟩
    show upd w.H p _ a = some u
    rw [upd_ne (ne_of_none e hp)]
    exact e
  · refine (m.cell n a c h1 h2).mono m (Ext.hid m hp) fun _ => ?_
    show upd w.H p _ a = w.H a
    rw [upd_ne (show a ≠ p from fun z => m.fresh hp (z ▸ List.mem_of_getElem? h1))]
  · have ha' : a ∈ p :: w.pv := ha
    rcases List.mem_cons.mp ha' with e | ha
    · rw [e]
      exact ⟨m.fresh hp, vs, upd_same⟩
    · obtain ⟨h1, us, h2⟩ := m.pvo a ha
      refine ⟨h1, us, ?_⟩
      show upd w.H p _ a = some (.lst us)
      rw [upd_ne (ne_of_none h2 hp)]
      exact h2
/-- it grows -/
def Wd.grow (w : Wd) (p : Addr) (vs : List V) : Wd := ⟨w.io, w.st, upd w.H p (.lst vs), w.pv⟩
theorem grow_live {p : Addr} {vs : List V} {a : Addr} : Live (w.grow p vs) a ↔ Live w a := Iff.rfl
/-- all but p -/
structure ExtP (p : Addr) (w w' : Wd) : Prop where
  io : ∃ t, w'.io = w.io ++ t
  keep : ∀ a o, w.H a = some o → ¬ Live w a → w'.H a = some o ∧ ¬ Live w' a
  pvk : ∀ a ∈ w.pv, a ∈ w'.pv ∧ (a ≠ p → w'.H a = w.H a)
theorem ExtP.grow (m : Emb K ga w) {p : Addr} {vs : List V} (hp : p ∈ w.pv) : ExtP p w (w.grow p vs) := by
  refine ⟨⟨[], by simp [Wd.grow]⟩, fun a u h n => ⟨?_, n⟩, fun a ha => ⟨ha, fun ne => ?_⟩⟩
  · show upd w.H p _ a = some u
    rw [upd_ne (show a ≠ p from fun z => n (.inl (z ▸ hp)))]
    exact h
  · show upd w.H p _ a = w.H a
    rw [upd_ne ne]
mutual
theorem Rep.monoP {p : Addr} (m : Emb K ga w) (x : ExtP p w w') : ∀ {v : V} {d : Da}, Rep K w v d → Rep K w' v d
  | _, _, .non => .non
  | _, _, .bl b => .bl b
  | _, _, .int i => .int i
  | _, _, .str s => .str s
  | _, _, .tup h r => .tup (by
      rcases h with (h | ⟨o, h⟩) | h
      · exact .inl (.inl (x.keep _ _ h (m.noTup h)).1)
      · exact .inl (.inr ⟨o, (x.keep _ _ h (m.noFrz h)).1⟩)
      · exact .inr h) (RepL.monoP m x r)
  | _, _, .lst h n r => .lst (x.keep _ _ h n).1 (x.keep _ _ h n).2 (RepL.monoP m x r)
  | _, _, .fro h r => .fro (by
      rcases h with ⟨o, h⟩ | h
      · exact .inl ⟨o, (x.keep _ _ h (m.noFrz h)).1⟩
      · exact .inr h) (RepL.monoP m x r)
  | _, _, .han h => .han (by
      obtain ⟨t, ht⟩ := x.io
      rw [ht, List.getElem?_append_left (List.getElem?_eq_some_iff.mp h).1]
      exact h)
theorem RepL.monoP {p : Addr} (m : Emb K ga w) (x : ExtP p w w') : ∀ {vs : List V} {ds : List Da}, RepL K w vs ds → RepL K w' vs ds
  | _, _, .nil => .nil
  | _, _, .cons h r => .cons (Rep.monoP m x h) (RepL.monoP m x r)
end
theorem RepF.monoP {p : Addr} (m : Emb K ga w) (x : ExtP p w w') : ∀ {vs : List (Str × V)} {ds : List (Str × Da)}, RepF K w vs ds → RepF K w' vs ds
  | _, _, .nil => .nil
  | _, _, .cons h r => .cons (h.monoP m x) (r.monoP m x)
theorem RepK.monoP {p : Addr} (m : Emb K ga w) (x : ExtP p w w') : ∀ {vs : List (Key × V)} {ds : List (Key × Da)}, RepK K w vs ds → RepK K w' vs ds
  | _, _, .nil => .nil
  | _, _, .cons h r => .cons (h.monoP m x) (r.monoP m x)
theorem Emb.grow (m : Emb K ga w) {p : Addr} {vs : List V} (hp : p ∈ w.pv) : Emb K ga (w.grow p vs) := by
  have x : ExtP p w (w.grow p vs) := ExtP.grow m hp
  have ne : ∀ a ∈ w.io, a ≠ p := fun a ha z => (m.pvo p hp).1 (z ▸ ha)
  refine ⟨m.len, m.nd, fun a ha => ?_, fun n a c h1 h2 => ?_, fun a ha => ⟨(m.pvo a ha).1, ?_⟩⟩
  · obtain ⟨u, e⟩ := m.dom a ha
    refine ⟨u, ?_⟩
    show upd w.H p _ a = some u
    rw [upd_ne (ne a ha)]
    exact e
  · have q := m.cell n a c h1 h2
    have hH : (w.grow p vs).H a = w.H a := by
      show upd w.H p _ a = w.H a
      rw [upd_ne (ne a (List.mem_of_getElem? h1))]
    cases c with
    | lst ds => obtain ⟨us, e, r⟩ := q; exact ⟨us, hH.trans e, r.monoP m x⟩
    | ins c fs => obtain ⟨dx, us, e, r⟩ := q; exact ⟨dx, us, hH.trans e, r.monoP m x⟩
    | dK ds => obtain ⟨us, e, r⟩ := q; exact ⟨us, hH.trans e, r.monoP m x⟩
    | dead => trivial
  · by_cases e : a = p
    · rw [e]; exact ⟨vs, upd_same⟩
    · obtain ⟨us, h2⟩ := (m.pvo a ha).2
      refine ⟨us, ?_⟩
      show upd w.H p _ a = some (.lst us)
      rw [upd_ne e]
      exact h2
theorem Ext.thenGrow {w0 : Wd} (x : Ext w0 w) (m : Emb K ga w) {p : Addr} {vs : List V} (hp : p ∈ w.pv) (h0 : w0.H p = none) (hm0 : p ∉ w0.pv) : Ext w0 (w.grow p vs) := by
  refine ⟨x.io, fun a u h n => ?_, fun a ha => ?_⟩
  · obtain ⟨h1, n1⟩ := x.keep a u h n
    refine ⟨?_, n1⟩
    show upd w.H p _ a = some u
    rw [upd_ne (ne_of_none h h0)]
    exact h1
  · obtain ⟨h1, e1⟩ := x.pvk a ha
    refine ⟨h1, ?_⟩
    show upd w.H p _ a = w0.H a
    rw [upd_ne (show a ≠ p from fun z => hm0 (z ▸ ha))]
    exact e1
/-- it is made -/
def Wd.unh (w : Wd) (l : List Addr) : Wd := ⟨w.io, w.st, w.H, l⟩
theorem Ext.unh {p : Addr} {l : List Addr} (hl : w.pv = p :: l) : ∀ a o, w.H a = some o → ¬ Live w a → (w.unh l).H a = some o ∧ ¬ Live (w.unh l) a := fun a o h n => ⟨h, fun z => by
  rcases z with z | z
  · exact n (.inl (by rw [hl]; exact List.mem_cons_of_mem _ z))
  · exact n (.inr z)⟩
mutual
theorem Rep.unh {p : Addr} {l : List Addr} (hl : w.pv = p :: l) : ∀ {v : V} {d : Da}, Rep K w v d → Rep K (w.unh l) v d
  | _, _, .non => .non
  | _, _, .bl b => .bl b
  | _, _, .int i => .int i
  | _, _, .str s => .str s
  | _, _, .tup h r => .tup h (RepL.unh hl r)
  | _, _, .lst h n r => .lst h (Ext.unh hl _ _ h n).2 (RepL.unh hl r)
  | _, _, .fro h r => .fro h (RepL.unh hl r)
  | _, _, .han h => .han h
theorem RepL.unh {p : Addr} {l : List Addr} (hl : w.pv = p :: l) : ∀ {vs : List V} {ds : List Da}, RepL K w vs ds → RepL K (w.unh l) vs ds
  | _, _, .nil => .nil
  | _, _, .cons h r => .cons (Rep.unh hl h) (RepL.unh hl r)
end
theorem RepF.unh {p : Addr} {l : List Addr} (hl : w.pv = p :: l) : ∀ {vs : List (Str × V)} {ds : List (Str × Da)}, RepF K w vs ds → RepF K (w.unh l) vs ds
  | _, _, .nil => .nil
  | _, _, .cons h r => .cons (h.unh hl) (r.unh hl)
theorem RepK.unh {p : Addr} {l : List Addr} (hl : w.pv = p :: l) : ∀ {vs : List (Key × V)} {ds : List (Key × Da)}, RepK K w vs ds → RepK K (w.unh l) vs ds
  | _, _, .nil => .nil
  | _, _, .cons h r => .cons (h.unh hl) (r.unh hl)
theorem Emb.unh (m : Emb K ga w) {p : Addr} {l : List Addr} (hl : w.pv = p :: l) : Emb K ga (w.unh l) := by
  refine ⟨m.len, m.nd, m.dom, fun n a c h1 h2 => ?_, fun a ha => m.pvo a (by rw [hl]; exact List.mem_cons_of_mem _ ha)⟩
  have q := m.cell n a c h1 h2
  cases c with
  | lst ds => obtain ⟨us, e, r⟩ := q; exact ⟨us, e, r.unh hl⟩
  | ins c fs => obtain ⟨dx, us, e, r⟩ := q; exact ⟨dx, us, e, r.unh hl⟩
  | dK ds => obtain ⟨us, e, r⟩ := q; exact ⟨us, e, r.unh hl⟩
  | dead => trivial
/-- back to where it began -/
theorem Ext.back {w0 : Wd} {p : Addr} (x : Ext w0 w) (hl : w.pv = p :: w0.pv) : Ext w0 (w.unh w0.pv) :=
  ⟨x.io, fun a o h n => Ext.unh hl a o (x.keep a o h n).1 (x.keep a o h n).2, fun a ha => ⟨ha, (x.pvk a ha).2⟩⟩
theorem unh_free (m : Emb K ga w) {p : Addr} {l : List Addr} (hl : w.pv = p :: l) (hn : p ∉ l) : ¬ Live (w.unh l) p := fun z => by
  rcases z with z | ⟨n, c, h1, _, _⟩
  · exact hn z
  · exact (m.pvo p (by rw [hl]; exact List.mem_cons_self)).1 (List.mem_of_getElem? h1)
/-! ### as if it had not been made -/
def del (H : Hp) (p : Addr) : Hp := fun a => if a = p then none else H a
theorem del_same {H : Hp} {p : Addr} : del H p p = none := by unfold del; rw [if_pos rfl]
theorem del_ne {H : Hp} {p a : Addr} (h : a ≠ p) : del H p a = H a := by unfold del; rw [if_neg h]
theorem upd_del {H : Hp} {p : Addr} {o : HO} (h : H p = some o) : upd (del H p) p o = H := by
  funext a
  by_cases e : a = p
  · rw [e, upd_same, h]
  · rw [upd_ne e, del_ne e]
def Wd.del (w : Wd) (p : Addr) (l : List Addr) : Wd := ⟨w.io, w.st, CL.del w.H p, l⟩
theorem del_live {p a : Addr} {l : List Addr} (hl : w.pv = p :: l) (h : Live (w.del p l) a) : Live w a := by
  rcases h with h | h
  · exact .inl (by rw [hl]; exact List.mem_cons_of_mem _ h)
  · exact .inr h
mutual
theorem Rep.del {p : Addr} {l : List Addr} {us : List V} (hl : w.pv = p :: l) (hp : w.H p = some (.lst us)) : ∀ {v : V} {d : Da}, Rep K w v d → Rep K (w.del p l) v d
  | _, _, .non => .non
  | _, _, .bl b => .bl b
  | _, _, .int i => .int i
  | _, _, .str s => .str s
  | _, _, .tup (a := a) h r => .tup (by
      have tr : ∀ o, w.H a = some o → (∀ zs, o ≠ .lst zs) → (w.del p l).H a = some o := fun o ho hz => by
        show CL.del w.H p a = some o
        have ne : a ≠ p := fun z => by
          rw [z, hp] at ho
          exact hz us (Option.some.inj ho).symm
        rw [del_ne ne]
        exact ho
      rcases h with (h | ⟨o, h⟩) | h
      · exact .inl (.inl (tr _ h fun _ z => nomatch z))
      · exact .inl (.inr ⟨o, tr _ h fun _ z => nomatch z⟩)
      · exact .inr h) (RepL.del hl hp r)
  | _, _, .lst (a := a) h n r => .lst (by
      have ne : a ≠ p := fun z => n (.inl (by rw [hl, z]; exact List.mem_cons_self))
      show CL.del w.H p a = _
      rw [del_ne ne]
      exact h) (fun z => n (del_live hl z)) (RepL.del hl hp r)
  | _, _, .fro (a := a) h r => .fro (by
      rcases h with ⟨o, h⟩ | h
      · have ne : a ≠ p := fun z => by
          rw [z, hp] at h
          cases h
        refine .inl ⟨o, ?_⟩
        show CL.del w.H p a = _
        rw [del_ne ne]
        exact h
      · exact .inr h) (RepL.del hl hp r)
  | _, _, .han h => .han h
theorem RepL.del {p : Addr} {l : List Addr} {us : List V} (hl : w.pv = p :: l) (hp : w.H p = some (.lst us)) : ∀ {vs : List V} {ds : List Da}, RepL K w vs ds → RepL K (w.del p l) vs ds
  | _, _, .nil => .nil
  | _, _, .cons h r => .cons (Rep.del hl hp h) (RepL.del hl hp r)
end
theorem RepF.del {p : Addr} {l : List Addr} {us : List V} (hl : w.pv = p :: l) (hp : w.H p = some (.lst us)) : ∀ {vs : List (Str × V)} {ds : List (Str × Da)}, RepF K w vs ds → RepF K (w.del p l) vs ds
  | _, _, .nil => .nil
  | _, _, .cons h r => .cons (h.del hl hp) (r.del hl hp)
theorem RepK.del {p : Addr} {l : List Addr} {us : List V} (hl : w.pv = p :: l) (hp : w.H p = some (.lst us)) : ∀ {vs : List (Key × V)} {ds : List (Key × Da)}, RepK K w vs ds → RepK K (w.del p l) vs ds
  | _, _, .nil => .nil
  | _, _, .cons h r => .cons (h.del hl hp) (r.del hl hp)
theorem Emb.del (m : Emb K ga w) {p : Addr} {l : List Addr} {us : List V} (hl : w.pv = p :: l) (hp : w.H p = some (.lst us)) (hn : p ∉ l) : Emb K ga (w.del p l) := by
  have ne : ∀ a ∈ w.io, a ≠ p := fun a ha z => (m.pvo p (by rw [hl]; exact List.mem_cons_self)).1 (z ▸ ha)
  refine ⟨m.len, m.nd, fun a ha => ?_, fun n a c h1 h2 => ?_, fun a ha => ?_⟩
  · obtain ⟨o, e⟩ := m.dom a ha
    refine ⟨o, ?_⟩
    show CL.del w.H p a = _
    rw [del_ne (ne a ha)]
    exact e
  · have q := m.cell n a c h1 h2
    have hH : (w.del p l).H a = w.H a := del_ne (ne a (List.mem_of_getElem? h1))
    cases c with
    | lst ds => obtain ⟨vs, e, r⟩ := q; exact ⟨vs, hH.trans e, r.del hl hp⟩
    | ins c fs => obtain ⟨dx, vs, e, r⟩ := q; exact ⟨dx, vs, hH.trans e, r.del hl hp⟩
    | dK ds => obtain ⟨vs, e, r⟩ := q; exact ⟨vs, hH.trans e, r.del hl hp⟩
    | dead => trivial
  · obtain ⟨h1, vs, h2⟩ := m.pvo a (by rw [hl]; exact List.mem_cons_of_mem _ ha)
    refine ⟨h1, vs, ?_⟩
    show CL.del w.H p a = _
    rw [del_ne (show a ≠ p from fun z => hn (z ▸ ha))]
    exact h2
theorem Ext.del {w0 : Wd} {p : Addr} (x : Ext w0 w) (hl : w.pv = p :: w0.pv) (h0 : w0.H p = none) (hn : p ∉ w0.pv) : Ext w0 (w.del p w0.pv) := by
  refine ⟨x.io, fun a o h n => ?_, fun a ha => ⟨ha, ?_⟩⟩
  · obtain ⟨h1, n1⟩ := x.keep a o h n
    refine ⟨?_, fun z => n1 (del_live hl z)⟩
    show CL.del w.H p a = _
    rw [del_ne (ne_of_none h h0)]
    exact h1
  · show CL.del w.H p a = _
    rw [del_ne (show a ≠ p from fun z => hn (z ▸ ha))]
    exact (x.pvk a ha).2
end
/-! ### less: nothing of the lists that are being made -/
structure ExtW (w w' : Wd) : Prop where
  io : ∃ t, w'.io = w.io ++ t
  keep : ∀ a o, w.H a = some o → ¬ Live w a → w'.H a = some o ∧ ¬ Live w' a
theorem Ext.w {w w' : Wd} (x : Ext w w') : ExtW w w' := ⟨x.io, x.keep⟩
theorem ExtP.w {p : Addr} {w w' : Wd} (x : ExtP p w w') : ExtW w w' := ⟨x.io, x.keep⟩
theorem ExtW.refl (w : Wd) : ExtW w w := (Ext.refl w).w
theorem ExtW.trans {a b c : Wd} (x : ExtW a b) (y : ExtW b c) : ExtW a c := by
  obtain ⟨t, ht⟩ := x.io
  obtain ⟨u, hu⟩ := y.io
  refine ⟨⟨t ++ u, by rw [hu, ht, List.append_assoc]⟩, fun p o h n => ?_⟩
  obtain ⟨h1, n1⟩ := x.keep p o h n
  exact y.keep p o h1 n1
theorem ExtW.at {w w' : Wd} (x : ExtW w w') {n : Nat} {a : Addr} (h : w.io[n]? = some a) : w'.io[n]? = some a := by
  obtain ⟨t, ht⟩ := x.io
  rw [ht, List.getElem?_append_left (List.getElem?_eq_some_iff.mp h).1]
  exact h
section
variable {K : PySem.W.Frag} {ga : Str → Addr} {w w' : Wd}
theorem sqT_monoW (m : Emb K ga w) (x : ExtW w w') {a : Addr} {vs : List V} (h : SqT K w.H a vs) : SqT K w'.H a vs := by
  rcases h with (h | ⟨o, h⟩) | h
  · exact .inl (.inl (x.keep a _ h (m.noTup h)).1)
  · exact .inl (.inr ⟨o, (x.keep a _ h (m.noFrz h)).1⟩)
  · exact .inr h
mutual
theorem Rep.monoW (m : Emb K ga w) (x : ExtW w w') : ∀ {v : V} {d : Da}, Rep K w v d → Rep K w' v d
  | _, _, .non => .non
  | _, _, .bl b => .bl b
  | _, _, .int i => .int i
  | _, _, .str s => .str s
  | _, _, .tup h r => .tup (sqT_monoW m x h) (RepL.monoW m x r)
  | _, _, .lst h n r => .lst (x.keep _ _ h n).1 (x.keep _ _ h n).2 (RepL.monoW m x r)
  | _, _, .fro h r => .fro (by
      rcases h with ⟨o, h⟩ | h
      · exact .inl ⟨o, (x.keep _ _ h (m.noFrz h)).1⟩
      · exact .inr h) (RepL.monoW m x r)
  | _, _, .han h => .han (x.at h)
theorem RepL.monoW (m : Emb K ga w) (x : ExtW w w') : ∀ {vs : List V} {ds : List Da}, RepL K w vs ds → RepL K w' vs ds
  | _, _, .nil => .nil
  | _, _, .cons h r => .cons (Rep.monoW m x h) (RepL.monoW m x r)
end
end
end CL
namespace CL
open PySem PySem.Spec L2
/-! ### results: a value and the store; a refusal (class, what it bears); nothing is said -/
inductive Res (A : Type) where
  | ok (a : A) (st : Store)
  | exc (c : Str) (as : List Da) (st : Store)
  | bad
abbrev Mo (A : Type) := Store → Res A
def bnd {A B : Type} (m : Mo A) (f : A → Mo B) : Mo B := fun st => match m st with
  | .ok a st' => f a st'
  | .exc c as st' => .exc c as st'
  | .bad => .bad
def ret {A : Type} (a : A) : Mo A := fun st => .ok a st
def nop {A : Type} : Mo A := fun _ => .bad
@[simp] theorem bnd_ret {A B : Type} (a : A) (f : A → Mo B) : bnd (ret a) f = f a := rfl
@[simp] theorem bnd_nop {A B : Type} (f : A → Mo B) : bnd (nop : Mo A) f = nop := rfl
theorem bnd_ok {A B : Type} {m : Mo A} {f : A → Mo B} {st st' : Store} {a : A} (h : m st = .ok a st') : bnd m f st = f a st' := by unfold bnd; rw [h]
theorem bnd_assoc {A B C : Type} (m : Mo A) (f : A → Mo B) (g : B → Mo C) : bnd (bnd m f) g = bnd m fun a => bnd (f a) g := by
  funext st
  unfold bnd
  cases m st <;> rfl
abbrev Sl := List (Option Da)
abbrev Em (K : PySem.W.Frag) (w : Wd) : Prop := Emb K (He.ga K) w
/-- what a result must bring -/
def Run (K : PySem.W.Frag) {A : Type} (w : Wd) (r : Res A) (ok : A → Wd → Prop) (ex : Str → List Da → Wd → Prop) : Prop := match r with
  | .ok a st => ∀ io H, Ext w ⟨io, st, H, w.pv⟩ → Em K ⟨io, st, H, w.pv⟩ → ok a ⟨io, st, H, w.pv⟩
  | .exc c as st => ∀ io H, Ext w ⟨io, st, H, w.pv⟩ → Em K ⟨io, st, H, w.pv⟩ → ex c as ⟨io, st, H, w.pv⟩
  | .bad => False
section
variable {K : PySem.W.Frag} {A B : Type} {w w' : Wd} {ok ok' : A → Wd → Prop} {ex ex' : Str → List Da → Wd → Prop}
theorem Run.ext {r : Res A} (h : Run K w r ok ex) (x : Ext w w') (e : w'.pv = w.pv) : Run K w' r ok ex := by
  cases r with
  | ok a st =>
    intro io H x' m
    rw [e] at x' m ⊢
    exact h io H (x.trans x') m
  | exc c as st =>
    intro io H x' m
    rw [e] at x' m ⊢
    exact h io H (x.trans x') m
  | bad => exact h
theorem Run.mono {r : Res A} (h : Run K w r ok ex) (h1 : ∀ a w', Ext w w' → w'.pv = w.pv → Em K w' → ok a w' → ok' a w') (h2 : ∀ c as w', ex c as w' → ex' c as w') : Run K w r ok' ex' := by
  cases r with
  | ok a st => exact fun io H x m => h1 a _ x rfl m (h io H x m)
  | exc c as st => exact fun io H x m => h2 c as _ (h io H x m)
  | bad => exact h
theorem Run.bind {m : Mo A} {f : A → Mo B} {ok : B → Wd → Prop} (h : Run K w (bnd m f w.st) ok ex) : Run K w (m w.st) (fun a w' => Run K w' (f a w'.st) ok ex) ex := by
  unfold bnd at h
  cases q : m w.st with
  | ok a st =>
    rw [q] at h
    exact fun io H x e => Run.ext (w' := ⟨io, st, H, w.pv⟩) h x rfl
  | exc c as st =>
    rw [q] at h
    exact h
  | bad =>
    rw [q] at h
    exact h
theorem Run.here {a : A} (m : Em K w) (h : Run K w (.ok a w.st) ok ex) : ok a w := h w.io w.H (Ext.refl w) m
theorem Run.at {a : A} {st : Store} (h : Run K w (.ok a st) ok ex) (x : Ext w w') (m : Em K w') (e1 : w'.st = st) (e2 : w'.pv = w.pv) : ok a w' := by
  obtain ⟨io, st', H, pv⟩ := w'
  cases e1
  cases e2
  exact h io H x m
end
/-! ### slots -/
structure En (K : PySem.W.Frag) (w : Wd) (ro : Sl) (σ : St) : Prop where
  emb : Em K w
  len : σ.length = ro.length
  slot : ∀ (i : Nat) (d : Da), ro[i]? = some (some d) → ∃ v, σ[i]? = some (some v) ∧ Rep K w v d
section
variable {K : PySem.W.Frag} {w w' : Wd} {ro : Sl} {σ : St}
theorem En.mono (e : En K w ro σ) (x : Ext w w') (m : Em K w') : En K w' ro σ :=
  ⟨m, e.len, fun i d h => let ⟨v, h1, h2⟩ := e.slot i d h; ⟨v, h1, h2.mono e.emb x⟩⟩
theorem En.set (e : En K w ro σ) {i : Nat} {v : V} {d : Da} (r : Rep K w v d) : En K w (ro.set i (some d)) (σ.set i (some v)) := by
  refine ⟨e.emb, by simp [e.len], fun j x h => ?_⟩
  by_cases hj : j = i
  · subst hj
    rw [List.getElem?_set] at h
    simp only [if_true] at h
    split at h
    · rename_i hlt
      cases h
      refine ⟨v, ?_, r⟩
      rw [List.getElem?_set_self (by rw [e.len]; exact hlt)]
    · cases h
  · rw [List.getElem?_set_ne (Ne.symm hj)] at h
    obtain ⟨u, h1, h2⟩ := e.slot j x h
    exact ⟨u, by rw [List.getElem?_set_ne (Ne.symm hj)]; exact h1, h2⟩
end
/-! ### an error as it lies behind a call -/
def ExcD (K : PySem.W.Frag) (w : Wd) (as : List Da) (dd : Option Addr) : Prop := match as with
  | [] => dd = none
  | d :: _ => ∃ a v, dd = some a ∧ w.H a = some (.xd [(("place" : Str), v)]) ∧ Rep K w v d
def XP (K : PySem.W.Frag) (E : XK) (c : Str) (as : List Da) (w : Wd) : Prop := ∀ dd, ExcD K w as dd → E (.ref (He.ga K c)) dd w.H
/-! ### readings and mirrors -/
abbrev OkV (K : PySem.W.Frag) (Q : VK) (d : Da) (w : Wd) : Prop := ∀ v, Rep K w v d → Q v w.H
def SE (K : PySem.W.Frag) (E : St → XK) (te : TE) (m : Sl → Mo Da) : Prop := ∀ (w : Wd) (ro : Sl) (σ : St) (Q : VK), En K w ro σ →
  Run K w (m ro w.st) (OkV K Q) (XP K (E σ)) → te σ w.H Q
def ST (K : PySem.W.Frag) (E : St → XK) (tt : TT) (m : Sl → Mo Bool) : Prop := ∀ (w : Wd) (ro : Sl) (σ : St) (Q : Bool → Hp → Prop), En K w ro σ →
  Run K w (m ro w.st) (fun b w' => Q b w'.H) (XP K (E σ)) → tt σ w.H Q
def SA (K : PySem.W.Frag) (E : St → XK) (ta : TA) (m : Sl → Mo (List Da)) : Prop := ∀ (w : Wd) (ro : Sl) (σ : St) (Q : List V → Hp → Prop), En K w ro σ →
  Run K w (m ro w.st) (fun ds w' => ∀ vs, RepL K w' vs ds → Q vs w'.H) (XP K (E σ)) → ta σ w.H Q
/-- a list that is new -/
def OkL (K : PySem.W.Frag) (Q : VK) (ds : List Da) (w : Wd) : Prop := ∀ p vs, w.H p = none → RepL K w vs ds → Q (.ref p) (upd w.H p (.lst vs))
def SL (K : PySem.W.Frag) (E : St → XK) (te : TE) (m : Sl → Mo (List Da)) : Prop := ∀ (w : Wd) (ro : Sl) (σ : St) (Q : VK), En K w ro σ →
  Run K w (m ro w.st) (OkL K Q) (XP K (E σ)) → te σ w.H Q
theorem okL_fresh {K : PySem.W.Frag} {w : Wd} {Q : VK} {ex : Str → List Da → Wd → Prop} {p : Addr} {vs : List V} {ds : List Da} {st : Store} (m : Em K w) (h : Run K w (.ok ds st) (OkL K Q) ex) (es : st = w.st) (hp : w.H p = none) (r : RepL K w vs ds) : Q (.ref p) (upd w.H p (.lst vs)) := by
  subst es
  exact h.here m p vs hp r
inductive Fl where
  | nx (ro : Sl) | rt (d : Da) | bk (ro : Sl) | ct (ro : Sl)
def OkF (K : PySem.W.Frag) (D : Ends) (f : Fl) (w : Wd) : Prop := match f with
  | .nx ro => ∀ σ, En K w ro σ → D.nx σ w.H
  | .rt d => ∀ v, Rep K w v d → D.rt v w.H
  | .bk ro => ∀ σ, En K w ro σ → D.bk σ w.H
  | .ct ro => ∀ σ, En K w ro σ → D.ct σ w.H
def SS (K : PySem.W.Frag) (E : St → XK) (ts : TS) (m : Sl → Mo Fl) : Prop := ∀ (w : Wd) (ro : Sl) (σ : St) (D : Ends), En K w ro σ →
  Run K w (m ro w.st) (OkF K D) (fun c as w' => ∀ σ', XP K (E σ') c as w') → ts D σ w.H
/-- a two-place operation by values; a one-place one; a call by values -/
def S2 (K : PySem.W.Frag) (r : R2) (f : Da → Da → Mo Da) : Prop := ∀ (w : Wd) (x y : V) (d e : Da) (Q : VK) (ex : Str → List Da → Wd → Prop), Em K w → Rep K w x d → Rep K w y e →
  Run K w (f d e w.st) (OkV K Q) ex → r x y w.H Q
def S1 (K : PySem.W.Frag) (r : V → Hp → VK → Prop) (f : Da → Mo Da) : Prop := ∀ (w : Wd) (x : V) (d : Da) (Q : VK) (ex : Str → List Da → Wd → Prop), Em K w → Rep K w x d →
  Run K w (f d w.st) (OkV K Q) ex → r x w.H Q
def SC (K : PySem.W.Frag) (r : List V → Hp → VK → Prop) (f : List Da → Mo Da) : Prop := ∀ (w : Wd) (xs : List V) (ds : List Da) (Q : VK) (ex : Str → List Da → Wd → Prop), Em K w → RepL K w xs ds →
  Run K w (f ds w.st) (OkV K Q) ex → r xs w.H Q
def SCL (K : PySem.W.Frag) (r : List V → Hp → VK → Prop) (f : List Da → Mo (List Da)) : Prop := ∀ (w : Wd) (xs : List V) (ds : List Da) (Q : VK) (ex : Str → List Da → Wd → Prop), Em K w → RepL K w xs ds →
  Run K w (f ds w.st) (OkL K Q) ex → r xs w.H Q
/-! ### the mirrors' words -/
def eVar (i : Nat) : Sl → Mo Da := fun ro st => match ro[i]? with
  | some (some d) => .ok d st
  | _ => .bad
def eC (d : Da) : Sl → Mo Da := fun _ st => .ok d st
def e2 (f : Da → Da → Mo Da) (a b : Sl → Mo Da) : Sl → Mo Da := fun ro => bnd (a ro) fun x => bnd (b ro) fun y => f x y
def e1 (f : Da → Mo Da) (a : Sl → Mo Da) : Sl → Mo Da := fun ro => bnd (a ro) f
def toB : Da → Mo Bool
  | .bl b => ret b
  | _ => nop
def tst (a : Sl → Mo Da) : Sl → Mo Bool := fun ro => bnd (a ro) toB
def tAnd_ (a b : Sl → Mo Bool) : Sl → Mo Bool := fun ro => bnd (a ro) fun c => if c = true then b ro else ret false
def tOr_ (a b : Sl → Mo Bool) : Sl → Mo Bool := fun ro => bnd (a ro) fun c => if c = true then ret true else b ro
def tNot_ (a : Sl → Mo Bool) : Sl → Mo Bool := fun ro => bnd (a ro) fun c => ret (!c)
def vAnd (a b : Sl → Mo Da) : Sl → Mo Da := fun ro => bnd (tst a ro) fun c => if c = true then b ro else ret (.bl false)
def vOr (a b : Sl → Mo Da) : Sl → Mo Da := fun ro => bnd (tst a ro) fun c => if c = true then ret (.bl true) else b ro
def vNot (a : Sl → Mo Da) : Sl → Mo Da := fun ro => bnd (tst a ro) fun c => ret (.bl (!c))
def eIf (t : Sl → Mo Bool) (a b : Sl → Mo Da) : Sl → Mo Da := fun ro => bnd (t ro) fun c => if c = true then a ro else b ro
def aNil : Sl → Mo (List Da) := fun _ => ret []
def aCons (a : Sl → Mo Da) (r : Sl → Mo (List Da)) : Sl → Mo (List Da) := fun ro => bnd (a ro) fun x => bnd (r ro) fun xs => ret (x :: xs)
def eTup (a : Sl → Mo (List Da)) : Sl → Mo Da := fun ro => bnd (a ro) fun xs => if xs.length ≤ 1000 then ret (.tup xs) else nop
def lDisp (a : Sl → Mo (List Da)) : Sl → Mo (List Da) := fun ro => bnd (a ro) fun xs => if xs.length ≤ 1000 then ret xs else nop
def eL (a : Sl → Mo (List Da)) : Sl → Mo Da := fun ro => bnd (a ro) fun xs => ret (.lst xs)
def eH (a : Sl → Mo (List Da)) : Sl → Mo Da := fun ro => bnd (a ro) fun xs st => .ok (.han st.length) (st ++ [.lst xs])
def fz : Da → Mo Da
  | .han n => fun st => match st[n]? with
    | some (.lst ds) => .ok (.lst ds) (st.set n .dead)
    | _ => .bad
  | d => ret d
def eF (a : Sl → Mo Da) : Sl → Mo Da := fun ro => bnd (a ro) fz
def eChain (f g : Da → Da → Mo Da) (a b c : Sl → Mo Da) : Sl → Mo Da := fun ro => bnd (a ro) fun x => bnd (b ro) fun y => bnd (bnd (f x y) toB) fun k => if k = true then bnd (c ro) fun z => g y z else ret (.bl false)
def eCall (f : List Da → Mo Da) (a : Sl → Mo (List Da)) : Sl → Mo Da := fun ro => bnd (a ro) f
section
variable {K : PySem.W.Frag} {E : St → XK} {ta tb tc te : TE} {t u : TT} {a b c : Sl → Mo Da} {p q : Sl → Mo Bool} {r : R2} {f g : Da → Da → Mo Da} {tA : TA} {al : Sl → Mo (List Da)}
theorem s_var {i : Nat} : SE K E (tVar i) (eVar i) := fun w ro σ Q e h => by
  unfold eVar at h
  cases q : ro[i]? with
  | none => rw [q] at h; exact h.elim
  | some o =>
    cases o with
    | none => rw [q] at h; exact h.elim
    | some d =>
      rw [q] at h
      obtain ⟨v, h1, h2⟩ := e.slot i d q
      exact ⟨v, h1, h.here e.emb v h2⟩
theorem s_c {v : V} {d : Da} (hr : ∀ w, Em K w → Rep K w v d) : SE K E (tC v) (eC d) := fun w ro σ Q e h => h.here e.emb v (hr w e.emb)
theorem s_op (h2 : S2 K r f) (ha : SE K E ta a) (hb : SE K E tb b) : SE K E (tOp r ta tb) (e2 f a b) := fun w ro σ Q e h =>
  ha w ro σ _ e (h.bind.mono (fun d w1 x1 p1 m1 k v rv => hb w1 ro σ _ (e.mono x1 m1) (k.bind.mono (fun d2 w2 x2 p2 m2 k2 v2 rv2 =>
    h2 w2 v v2 d d2 Q _ m2 (rv.mono m1 x2) rv2 k2) fun _ _ _ z => z)) fun _ _ _ z => z)
theorem s_un {r : V → Hp → VK → Prop} {f : Da → Mo Da} (h1 : S1 K r f) (ha : SE K E ta a) : SE K E (tUn r ta) (e1 f a) := fun w ro σ Q e h =>
  ha w ro σ _ e (h.bind.mono (fun d w1 x1 p1 m1 k v rv => h1 w1 v d Q _ m1 rv k) fun _ _ _ z => z)
theorem toB_run {w : Wd} {d : Da} {ok : Bool → Wd → Prop} {ex : Str → List Da → Wd → Prop} (m : Em K w) (h : Run K w (toB d w.st) ok ex) : ∃ k, d = .bl k ∧ ok k w := by
  cases d with
  | bl k => exact ⟨k, rfl, h.here m⟩
  | non => exact h.elim
  | int i => exact h.elim
  | str s => exact h.elim
  | tup xs => exact h.elim
  | lst xs => exact h.elim
  | fro xs => exact h.elim
  | han n => exact h.elim
theorem rep_bl {w : Wd} {v : V} {k : Bool} (r : Rep K w v (.bl k)) : v = .bl k := by cases r; rfl
theorem rep_int {w : Wd} {v : V} {k : Int} (r : Rep K w v (.int k)) : v = .int k := by cases r; rfl
theorem rep_str {w : Wd} {v : V} {k : Str} (r : Rep K w v (.str k)) : v = .str k := by cases r; rfl
theorem rep_non {w : Wd} {v : V} (r : Rep K w v .non) : v = .non := by cases r; rfl
theorem s_tst (ha : SE K E ta a) : ST K E (tTest ta) (tst a) := fun w ro σ Q e h =>
  ha w ro σ _ e (h.bind.mono (fun d w1 x1 p1 m1 k v rv => by
    obtain ⟨c, rfl, q⟩ := toB_run m1 k
    exact ⟨c, rep_bl rv, q⟩) fun _ _ _ z => z)
theorem s_tB (ha : SE K E ta a) : ST K E (tB ta) (tst a) := s_tst ha
theorem s_and (ha : ST K E t p) (hb : ST K E u q) : ST K E (tAnd t u) (tAnd_ p q) := fun w ro σ Q e h =>
  ha w ro σ _ e (h.bind.mono (fun c w1 x1 p1 m1 k => by
    cases c with
    | true => rw [if_pos rfl] at k ⊢; exact hb w1 ro σ Q (e.mono x1 m1) k
    | false => rw [if_neg Bool.false_ne_true] at k ⊢; exact k.here m1) fun _ _ _ z => z)
theorem s_or (ha : ST K E t p) (hb : ST K E u q) : ST K E (tOr t u) (tOr_ p q) := fun w ro σ Q e h =>
  ha w ro σ _ e (h.bind.mono (fun c w1 x1 p1 m1 k => by
    cases c with
    | true => rw [if_pos rfl] at k ⊢; exact k.here m1
    | false => rw [if_neg Bool.false_ne_true] at k ⊢; exact hb w1 ro σ Q (e.mono x1 m1) k) fun _ _ _ z => z)
theorem s_not (ha : ST K E t p) : ST K E (tNot t) (tNot_ p) := fun w ro σ Q e h =>
  ha w ro σ _ e (h.bind.mono (fun c w1 x1 p1 m1 k => k.here m1) fun _ _ _ z => z)
theorem s_vAnd (ha : SE K E ta a) (hb : SE K E tb b) : SE K E (tAndV ta tb) (vAnd a b) := fun w ro σ Q e h => by
  unfold vAnd tst at h
  rw [bnd_assoc] at h
  refine ha w ro σ _ e (h.bind.mono (fun d w1 x1 p1 m1 k v rv => ?_) fun _ _ _ z => z)
  obtain ⟨c, rfl, k2⟩ := toB_run m1 k.bind
  refine ⟨c, rep_bl rv, ?_⟩
  cases c with
  | true => rw [if_pos rfl] at k2 ⊢; exact hb w1 ro σ Q (e.mono x1 m1) k2
  | false => rw [if_neg Bool.false_ne_true] at k2 ⊢; exact k2.here m1 _ (.bl false)
theorem s_vOr (ha : SE K E ta a) (hb : SE K E tb b) : SE K E (tOrV ta tb) (vOr a b) := fun w ro σ Q e h => by
  unfold vOr tst at h
  rw [bnd_assoc] at h
  refine ha w ro σ _ e (h.bind.mono (fun d w1 x1 p1 m1 k v rv => ?_) fun _ _ _ z => z)
  obtain ⟨c, rfl, k2⟩ := toB_run m1 k.bind
  refine ⟨c, rep_bl rv, ?_⟩
  cases c with
  | true => rw [if_pos rfl] at k2 ⊢; exact k2.here m1 _ (.bl true)
  | false => rw [if_neg Bool.false_ne_true] at k2 ⊢; exact hb w1 ro σ Q (e.mono x1 m1) k2
theorem s_vNot (ha : SE K E ta a) : SE K E (tNotV ta) (vNot a) := fun w ro σ Q e h => by
  unfold vNot tst at h
  rw [bnd_assoc] at h
  refine ha w ro σ _ e (h.bind.mono (fun d w1 x1 p1 m1 k v rv => ?_) fun _ _ _ z => z)
  obtain ⟨c, rfl, k2⟩ := toB_run m1 k.bind
  exact ⟨c, rep_bl rv, k2.here m1 _ (.bl (!c))⟩
theorem s_if (ht : ST K E t p) (ha : SE K E ta a) (hb : SE K E tb b) : SE K E (tIf t ta tb) (eIf p a b) := fun w ro σ Q e h =>
  ht w ro σ _ e (h.bind.mono (fun c w1 x1 p1 m1 k => by
    cases c with
    | true => rw [if_pos rfl] at k ⊢; exact ha w1 ro σ Q (e.mono x1 m1) k
    | false => rw [if_neg Bool.false_ne_true] at k ⊢; exact hb w1 ro σ Q (e.mono x1 m1) k) fun _ _ _ z => z)
theorem s_nil : SA K E tNil aNil := fun w ro σ Q e h => h.here e.emb [] .nil
theorem s_cons (ha : SE K E ta a) (hr : SA K E tA al) : SA K E (tCons ta tA) (aCons a al) := fun w ro σ Q e h =>
  ha w ro σ _ e (h.bind.mono (fun d w1 x1 p1 m1 k v rv => hr w1 ro σ _ (e.mono x1 m1) (k.bind.mono (fun ds w2 x2 p2 m2 k2 vs rvs =>
    k2.here m2 (v :: vs) (.cons (rv.mono m1 x2) rvs)) fun _ _ _ z => z)) fun _ _ _ z => z)
theorem le_line {n : Nat} (h : n ≤ 1000) : n ≤ sizeLine := Nat.le_of_lt (small1000 h)
theorem s_tup (ha : SA K E tA al) : SE K E (tTup tA) (eTup al) := fun w ro σ Q e h =>
  ha w ro σ _ e (h.bind.mono (fun ds w1 x1 p1 m1 k vs rvs => by
    by_cases hl : ds.length ≤ 1000
    · rw [if_pos hl] at k
      refine ⟨by rw [rvs.length]; exact le_line hl, fun p hp => ?_⟩
      exact k.at (w' := w1.new p (.tup vs)) (Ext.new m1 hp) (m1.new hp) rfl rfl _ (Rep.newTup m1 hp rvs)
    · rw [if_neg hl] at k; exact k.elim) fun _ _ _ z => z)
theorem s_lst (ha : SA K E tA al) : SL K E (tLst tA) (lDisp al) := fun w ro σ Q e h =>
  ha w ro σ _ e (h.bind.mono (fun ds w1 x1 p1 m1 k vs rvs => by
    by_cases hl : ds.length ≤ 1000
    · rw [if_pos hl] at k
      exact ⟨by rw [rvs.length]; exact le_line hl, fun p hp => okL_fresh m1 k rfl hp rvs⟩
    · rw [if_neg hl] at k; exact k.elim) fun _ _ _ z => z)
/-- a new list as data, as a thing -/
theorem s_L (ha : SL K E te al) : SE K E te (eL al) := fun w ro σ Q e h =>
  ha w ro σ _ e (h.bind.mono (fun ds w1 x1 p1 m1 k p vs hp rvs =>
    k.at (w' := w1.new p (.lst vs)) (Ext.new m1 hp) (m1.new hp) rfl rfl _ (Rep.newLst m1 hp rvs)) fun _ _ _ z => z)
theorem s_H (ha : SL K E te al) : SE K E te (eH al) := fun w ro σ Q e h =>
  ha w ro σ _ e (h.bind.mono (fun ds w1 x1 p1 m1 k p vs hp rvs => by
    have x2 : Ext w1 (w1.push p (.lst vs) (.lst ds)) := Ext.push m1 hp
    exact Run.at (w' := w1.push p (.lst vs) (.lst ds)) k x2 (m1.push hp ⟨vs, upd_same, rvs.mono m1 x2⟩) rfl rfl _ (.han (push_at m1))) fun _ _ _ z => z)
/-- a thing stops changing, where it is told -/
theorem s_F (ha : SE K E te a) : SE K E te (eF a) := fun w ro σ Q e h =>
  ha w ro σ _ e (h.bind.mono (fun d w1 x1 p1 m1 k v rv => by
    cases d with
    | han n =>
      have k' : Run K w1 (match w1.st[n]? with | some (.lst ds) => .ok (.lst ds) (w1.st.set n .dead) | _ => .bad) (OkV K Q) (XP K (E σ)) := k
      cases rv with
      | han ha =>
        cases q : w1.st[n]? with
        | none => rw [q] at k'; exact k'.elim
        | some c =>
          rw [q] at k'
          cases c with
          | lst ds =>
            obtain ⟨vs, hH, r⟩ := m1.cell n _ _ ha q
            exact Run.at (w' := w1.kill n) k' Ext.kill m1.kill rfl rfl _ (Rep.killed m1 ha hH r)
          | ins c fs => exact k'.elim
          | dK kvs => exact k'.elim
          | dead => exact k'.elim
    | non => exact k.here m1 v rv
    | bl b => exact k.here m1 v rv
    | int i => exact k.here m1 v rv
    | str s => exact k.here m1 v rv
    | tup xs => exact k.here m1 v rv
    | lst xs => exact k.here m1 v rv
    | fro xs => exact k.here m1 v rv) fun _ _ _ z => z)
theorem s_chain {r' : R2} (h1 : S2 K r f) (h2 : S2 K r' g) (ha : SE K E ta a) (hb : SE K E tb b) (hc : SE K E tc c) : SE K E (tChain r r' ta tb tc) (eChain f g a b c) := fun w ro σ Q e h =>
  ha w ro σ _ e (h.bind.mono (fun d w1 x1 p1 m1 k v rv => hb w1 ro σ _ (e.mono x1 m1) (k.bind.mono (fun d2 w2 x2 p2 m2 k2 v2 rv2 => by
    rw [bnd_assoc] at k2
    refine h1 w2 v v2 d d2 _ _ m2 (rv.mono m1 x2) rv2 (k2.bind.mono (fun z w3 x3 p3 m3 k3 v3 rv3 => ?_) fun _ _ _ z => z)
    obtain ⟨cc, rfl, k5⟩ := toB_run m3 k3.bind
    refine ⟨cc, rep_bl rv3, ?_⟩
    have e3 := e.mono (x1.trans (x2.trans x3)) m3
    cases cc with
    | true =>
      rw [if_pos rfl] at k5 ⊢
      exact hc w3 ro σ _ e3 (k5.bind.mono (fun d4 w4 x4 p4 m4 k4 v4 rv4 => h2 w4 v2 v4 d2 d4 Q _ m4 ((rv2.mono m2 x3).mono m3 x4) rv4 k4) fun _ _ _ z => z)
    | false => rw [if_neg Bool.false_ne_true] at k5 ⊢; exact k5.here m3 _ (.bl false)) fun _ _ _ z => z)) fun _ _ _ z => z)
theorem s_cb {r : List V → Hp → VK → Prop} {f : List Da → Mo Da} (hc : SC K r f) (ha : SA K E tA al) : SE K E (tCB r tA) (eCall f al) := fun w ro σ Q e h =>
  ha w ro σ _ e (h.bind.mono (fun ds w1 x1 p1 m1 k vs rvs => hc w1 vs ds Q _ m1 rvs k) fun _ _ _ z => z)
end
end CL
namespace CL
open PySem PySem.Spec L2
abbrev szD : Nat := 1000000
theorem szD_le {n : Nat} (h : n ≤ szD) : n ≤ sizeLine := Nat.le_trans h (by decide)
theorem szD_lt {n : Nat} (h : n < szD) : n < sizeLine := Nat.lt_of_lt_of_le h (by decide)
/-- the items of a list -/
def lsOf (st : Store) : Da → Option (List Da)
  | .lst xs => some xs
  | .han n => match st[n]? with
    | some (.lst xs) => some xs
    | _ => none
  | _ => none
/-- .. of a list or tuple, the script too -/
def sqOf (st : Store) : Da → Option (List Da)
  | .tup xs => some xs
  | .fro xs => some xs
  | d => lsOf st d
section
variable {K : PySem.W.Frag} {w : Wd}
theorem ls_rep {v : V} {d : Da} {ds : List Da} (m : Em K w) (r : Rep K w v d) (h : lsOf w.st d = some ds) : ∃ a vs, v = .ref a ∧ w.H a = some (.lst vs) ∧ RepL K w vs ds := by
  cases r with
  | lst h1 _ r1 => cases h; exact ⟨_, _, rfl, h1, r1⟩
  | @han a n ha =>
    have h' : (match w.st[n]? with | some (.lst xs) => some xs | _ => none) = some ds := h
    cases q : w.st[n]? with
    | none => rw [q] at h'; cases h'
    | some c =>
      rw [q] at h'
      cases c with
      | lst xs =>
        cases h'
        obtain ⟨vs, hH, r⟩ := m.cell n a _ ha q
        exact ⟨a, vs, rfl, hH, r⟩
      | ins c fs => cases h'
      | dK kvs => cases h'
      | dead => cases h'
  | non => cases h
  | bl b => cases h
  | int i => cases h
  | str s => cases h
  | tup h1 r1 => cases h
  | fro h1 r1 => cases h
theorem sq_rep {v : V} {d : Da} {ds : List Da} (m : Em K w) (r : Rep K w v d) (h : sqOf w.st d = some ds) : ∃ a vs, v = .ref a ∧ (SqL K w.H a vs ∨ SqT K w.H a vs) ∧ RepL K w vs ds := by
  cases r with
  | tup h1 r1 => cases h; exact ⟨_, _, rfl, .inr h1, r1⟩
  | fro h1 r1 => cases h; exact ⟨_, _, rfl, .inl h1.sq, r1⟩
  | lst h1 n1 r1 =>
    obtain ⟨a, vs, e, h2, r2⟩ := ls_rep m (.lst h1 n1 r1) h
    exact ⟨a, vs, e, .inl (SqL.of h2), r2⟩
  | han ha =>
    obtain ⟨a, vs, e, h2, r2⟩ := ls_rep m (.han ha) h
    exact ⟨a, vs, e, .inl (SqL.of h2), r2⟩
  | non => cases h
  | bl b => cases h
  | int i => cases h
  | str s => cases h
end
/-! ### operators -/
def addD : Da → Da → Mo Da
  | .int i, .int j => ret (.int (i + j))
  | .str a, .str b => if a.length + b.length ≤ szD then ret (.str (a ++ b)) else nop
  | .tup xs, .tup ys => if xs.length + ys.length ≤ szD then ret (.tup (xs ++ ys)) else nop
  | d, e => fun st => match lsOf st d, lsOf st e with
    | some xs, some ys => if xs.length + ys.length ≤ szD then .ok (.lst (xs ++ ys)) st else .bad
    | _, _ => .bad
def catL (d e : Da) : Mo (List Da) := fun st => match lsOf st d, lsOf st e with
    | some xs, some ys => if xs.length + ys.length ≤ szD then .ok (xs ++ ys) st else .bad
    | _, _ => .bad
def subD : Da → Da → Mo Da
  | .int i, .int j => ret (.int (i - j))
  | _, _ => nop
instance (i j : Int) : Decidable (CMul i j) := by unfold CMul; infer_instance
instance (i j : Int) : Decidable (CDivN i j) := by unfold CDivN; infer_instance
instance (i j : Int) : Decidable (CPow i j) := by unfold CPow; infer_instance
def mulD : Da → Da → Mo Da
  | .int i, .int j => if CMul i j then ret (.int (i * j)) else nop
  | _, _ => nop
def repL (d : Da) (e : Da) : Mo (List Da) := fun st => match lsOf st d, e with
    | some xs, .int k => if -(2 ^ 63) ≤ k ∧ k < 2 ^ 63 ∧ xs.length * k.toNat ≤ szD then .ok (List.replicate k.toNat xs).flatten st else .bad
    | _, _ => .bad
def fdivD : Da → Da → Mo Da
  | .int i, .int j => if CDivN i j then ret (.int (i.fdiv j)) else nop
  | _, _ => nop
def modD : Da → Da → Mo Da
  | .int i, .int j => if j ≠ 0 then ret (.int (i.fmod j)) else nop
  | _, _ => nop
def powD : Da → Da → Mo Da
  | .int i, .int j => if CPow i j then ret (.int (i ^ j.toNat)) else nop
  | _, _ => nop
def cmpI (f : Int → Int → Bool) : Da → Da → Mo Da
  | .int i, .int j => ret (.bl (f i j))
  | _, _ => nop
def ltD := cmpI fun i j => decide (i < j)
def leD := cmpI fun i j => decide (i ≤ j)
def gtD := cmpI fun i j => decide (j < i)
def geD := cmpI fun i j => decide (j ≤ i)
/-! ### data without things -/
mutual
def pyW (hf : Nat → Option PyData) : Da → Option PyData
  | .non => some .none
  | .bl b => some (.bool b)
  | .int i => some (.int i)
  | .str s => some (.str s)
  | .tup xs => (pyWL hf xs).map .tuple
  | .lst xs => (pyWL hf xs).map .list
  | .fro xs => (pyWL hf xs).map .list
  | .han n => hf n
def pyWL (hf : Nat → Option PyData) : List Da → Option (List PyData)
  | [] => some []
  | x :: xs => match pyW hf x, pyWL hf xs with
    | some d, some ds => some (d :: ds)
    | _, _ => none
end
abbrev py0 : Da → Option PyData := pyW fun _ => none
abbrev py0L : List Da → Option (List PyData) := pyWL fun _ => none
def hfOf (st : Store) (n : Nat) : Option PyData := match st[n]? with
  | some (.lst xs) => (py0L xs).map .list
  | _ => none
abbrev pyD (st : Store) : Da → Option PyData := pyW (hfOf st)
section
variable {K : PySem.W.Frag} {w : Wd}
mutual
theorem dp_of {hf : Nat → Option PyData} (hh : ∀ n a p, hf n = some p → w.io[n]? = some a → Dp K w.H (.ref a) p) : ∀ (d : Da) (v : V) (p : PyData), Rep K w v d → pyW hf d = some p → Dp K w.H v p
  | .non, _, _, r, h => by cases r; cases h; exact .non
  | .bl b, _, _, r, h => by cases r; cases h; exact .bl b
  | .int i, _, _, r, h => by cases r; cases h; exact .int i
  | .str s, _, _, r, h => by cases r; cases h; exact .str s
  | .tup xs, _, _, r, h => by
    cases r with
    | tup h1 r1 =>
      unfold pyW at h
      cases q : pyWL hf xs with
      | none => rw [q] at h; cases h
      | some ps => rw [q] at h; cases h; exact .tup h1 (dpAll_of hh xs _ ps r1 q)
  | .lst xs, _, _, r, h => by
    cases r with
    | lst h1 _ r1 =>
      unfold pyW at h
      cases q : pyWL hf xs with
      | none => rw [q] at h; cases h
      | some ps => rw [q] at h; cases h; exact .lst (SqL.of h1) (dpAll_of hh xs _ ps r1 q)
  | .fro xs, _, _, r, h => by
    cases r with
    | fro h1 r1 =>
      unfold pyW at h
      cases q : pyWL hf xs with
      | none => rw [q] at h; cases h
      | some ps => rw [q] at h; cases h; exact .lst h1.sq (dpAll_of hh xs _ ps r1 q)
  | .han n, _, _, r, h => by
    cases r with
    | han ha => exact hh n _ _ (by unfold pyW at h; exact h) ha
theorem dpAll_of {hf : Nat → Option PyData} (hh : ∀ n a p, hf n = some p → w.io[n]? = some a → Dp K w.H (.ref a) p) : ∀ (ds : List Da) (vs : List V) (ps : List PyData), RepL K w vs ds → pyWL hf ds = some ps → DpAll K w.H vs ps
  | [], _, _, r, h => by cases r; cases h; exact .nil
  | d :: ds, _, _, r, h => by
    cases r with
    | cons r1 r2 =>
      unfold pyWL at h
      cases q1 : pyW hf d with
      | none => rw [q1] at h; cases h
      | some p =>
        cases q2 : pyWL hf ds with
        | none => rw [q1, q2] at h; cases h
        | some ps => rw [q1, q2] at h; cases h; exact .cons (dp_of hh d _ p r1 q1) (dpAll_of hh ds _ ps r2 q2)
end
theorem dp_py0 {d : Da} {v : V} {p : PyData} (r : Rep K w v d) (h : py0 d = some p) : Dp K w.H v p := dp_of (hf := fun _ => none) (fun _ _ _ z => nomatch z) d v p r h
theorem dp_hf (m : Em K w) : ∀ n a p, hfOf w.st n = some p → w.io[n]? = some a → Dp K w.H (.ref a) p := fun n a p h ha => by
  unfold hfOf at h
  cases q : w.st[n]? with
  | none => rw [q] at h; cases h
  | some c =>
    rw [q] at h
    cases c with
    | lst xs =>
      obtain ⟨vs, hH, r⟩ := m.cell n a _ ha q
      have h' : (py0L xs).map PyData.list = some p := h
      cases q2 : py0L xs with
      | none => rw [q2] at h'; cases h'
      | some ps =>
        rw [q2] at h'
        cases h'
        exact .lst (SqL.of hH) (dpAll_of (hf := fun _ => none) (fun _ _ _ z => nomatch z) xs vs ps r q2)
    | ins c fs => cases h
    | dK kvs => cases h
    | dead => cases h
theorem dp_py (m : Em K w) {d : Da} {v : V} {p : PyData} (r : Rep K w v d) (h : pyD w.st d = some p) : Dp K w.H v p := dp_of (dp_hf m) d v p r h
end
def eqB (neg : Bool) (d e : Da) : Mo Da := fun st => match pyD st d, pyD st e with
  | some p, some q => if (SeqAt.shaped p && SeqAt.shaped q) = true then .ok (.bl (if neg then !PyData.eqv p q else PyData.eqv p q)) st else .bad
  | _, _ => .bad
abbrev eqD := eqB false
abbrev neD := eqB true
/-- x in a list or tuple of flat things; of data (a list) -/
def flatD : Da → Bool
  | .non => true
  | .bl _ => true
  | .int _ => true
  | .str _ => true
  | _ => false
def vOf : Da → V
  | .non => .non
  | .bl b => .bl b
  | .int i => .int i
  | .str s => .str s
  | _ => .non
def inB (neg : Bool) (d e : Da) : Mo Da := fun st => match sqOf st e with
  | some xs => if (flatD d && xs.all flatD) = true then .ok (.bl (if neg then !inV (vOf d) (xs.map vOf) else inV (vOf d) (xs.map vOf))) st else .bad
  | none => .bad
def inDB (neg : Bool) (d e : Da) : Mo Da := fun st => match pyD st d, pyD st e with
  | some p, some (.list qs) => if (SeqAt.shaped p && SeqAt.shaped (.list qs)) = true then .ok (.bl (if neg then !qs.any (fun z => PyData.eqv z p) else qs.any fun z => PyData.eqv z p)) st else .bad
  | _, _ => .bad
def isB (neg : Bool) : Da → Da → Mo Da
  | .bl a, .bl b => ret (.bl (if neg then !decide (a = b) else decide (a = b)))
  | d, .non => ret (.bl (if neg then !(match d with | .non => true | _ => false) else match d with | .non => true | _ => false))
  | _, _ => nop
def negD : Da → Mo Da
  | .int i => ret (.int (-i))
  | _ => nop
/-! ### subscripts -/
def ixD (d e : Da) : Mo Da := fun st => match e with
  | .int i => (match d with
    | .str s => if s.length ≤ szD then (match atI s.cps.toList i with
      | some c => .ok (.str ⟨#[c]⟩) st
      | none => .bad) else .bad
    | d => (match d with
      | .fro _ => .bad
      | d => match sqOf st d with
        | some xs => (match atI xs i with
          | some x => .ok x st
          | none => .bad)
        | none => .bad))
  | _ => .bad
def cutD (xs : List Da) (lo hi : Option Int) : List Da := (xs.drop (HT.sIx xs.length 0 lo)).take (HT.sIx xs.length xs.length hi - HT.sIx xs.length 0 lo)
structure QO (X : Cx) (f : Value → Value → Sem Value) (r : R2) (g : Da → Da → Mo Da) : Prop where
  op : OpR X f r
  s2 : S2 X.K r g
def rOr (r r' : R2) : R2 := fun x y H Q => r x y H Q ∨ r' x y H Q
section
variable {X : Cx} {K : PySem.W.Frag} {w : Wd}
theorem OpR.or {f : Value → Value → Sem Value} {r r' : R2} (h : OpR X f r) (h' : OpR X f r') : OpR X f (rOr r r') := fun pins s σ H x y v u Q I rx ry q => by
  rcases q with q | q
  · exact h pins s σ H x y v u Q I rx ry q
  · exact h' pins s σ H x y v u Q I rx ry q
theorem QO.or2 {f : Value → Value → Sem Value} {g : Da → Da → Mo Da} {r r' : R2} (h : OpR X f r) (h' : OpR X f r') (s : S2 X.K (rOr r r') g) : QO X f (rOr r r') g := ⟨OpR.or h h', s⟩
theorem at_map {vs : List V} {ds : List Da} {i : Int} {x : Da} (r : RepL K w vs ds) (h : atI ds i = some x) : ∃ v, atI vs i = some v ∧ Rep K w v x := by
  unfold atI at h ⊢
  rw [r.length]
  cases q : ixN ds.length i with
  | none => rw [q] at h; cases h
  | some j =>
    rw [q] at h
    exact r.get h
theorem q_sub : QO X (binaryOp .Sub) (rI0 fun i j => .int (i - j)) subD := ⟨op_sub, fun w x y d e Q ex m rx ry h => by
  unfold subD at h
  split at h
  · cases rx; cases ry
    exact ⟨_, _, rfl, rfl, h.here m _ (.int _)⟩
  · exact h.elim⟩
theorem q_mul : QO X (binaryOp .Mult) (rI CMul fun i j => .int (i * j)) mulD := ⟨op_mul, fun w x y d e Q ex m rx ry h => by
  unfold mulD at h
  split at h
  · cases rx; cases ry
    split at h
    · rename_i hc
      exact ⟨_, _, rfl, rfl, hc, h.here m _ (.int _)⟩
    · exact h.elim
  · exact h.elim⟩
theorem q_fdiv : QO X (binaryOp .FloorDiv) (rI CDivN fun i j => .int (i.fdiv j)) fdivD := ⟨op_fdivN, fun w x y d e Q ex m rx ry h => by
  unfold fdivD at h
  split at h
  · cases rx; cases ry
    split at h
    · rename_i hc
      exact ⟨_, _, rfl, rfl, hc, h.here m _ (.int _)⟩
    · exact h.elim
  · exact h.elim⟩
theorem q_mod : QO X (binaryOp .Mod) (rI (fun _ j => j ≠ 0) fun i j => .int (i.fmod j)) modD := ⟨op_modN, fun w x y d e Q ex m rx ry h => by
  unfold modD at h
  split at h
  · cases rx; cases ry
    split at h
    · rename_i hc
      exact ⟨_, _, rfl, rfl, hc, h.here m _ (.int _)⟩
    · exact h.elim
  · exact h.elim⟩
theorem q_pow : QO X (binaryOp .Pow) (rI CPow fun i j => .int (i ^ j.toNat)) powD := ⟨op_pow, fun w x y d e Q ex m rx ry h => by
  unfold powD at h
  split at h
  · cases rx; cases ry
    split at h
    · rename_i hc
      exact ⟨_, _, rfl, rfl, hc, h.here m _ (.int _)⟩
    · exact h.elim
  · exact h.elim⟩
theorem q_cmpI {op : CmpOp} {f : Int → Int → Bool} (ho : OpR X (compareOp op) (rI0 fun i j => .bl (f i j))) : QO X (compareOp op) (rI0 fun i j => .bl (f i j)) (cmpI f) := ⟨ho, fun w x y d e Q ex m rx ry h => by
  unfold cmpI at h
  split at h
  · cases rx; cases ry
    exact ⟨_, _, rfl, rfl, h.here m _ (.bl _)⟩
  · exact h.elim⟩
theorem q_lt : QO X (compareOp .Lt) (rI0 fun i j => .bl (decide (i < j))) ltD := q_cmpI op_lt
theorem q_le : QO X (compareOp .LtE) (rI0 fun i j => .bl (decide (i ≤ j))) leD := q_cmpI op_le
theorem q_gt : QO X (compareOp .Gt) (rI0 fun i j => .bl (decide (j < i))) gtD := q_cmpI op_gt
theorem q_ge : QO X (compareOp .GtE) (rI0 fun i j => .bl (decide (j ≤ i))) geD := q_cmpI op_ge
theorem q_eqB {op : CmpOp} {neg : Bool} {r : R2} (ho : OpR X (compareOp op) r) (hr : ∀ x y H Q d e, Dp X.K H x d → Dp X.K H y e → SeqAt.shaped d = true → SeqAt.shaped e = true → Q (.bl (if neg then !PyData.eqv d e else PyData.eqv d e)) H → r x y H Q) : QO X (compareOp op) r (eqB neg) := ⟨ho, fun w x y d e Q ex m rx ry h => by
  unfold eqB at h
  split at h
  · rename_i p q h1 h2
    split at h
    · rename_i hs
      obtain ⟨s1, s2⟩ := Bool.and_eq_true_iff.mp hs
      exact hr x y w.H Q p q (dp_py m rx h1) (dp_py m ry h2) s1 s2 (h.here m _ (.bl _))
    · exact h.elim
  · exact h.elim⟩
theorem q_eq' (hu : X.A.units + 64 < cLine) : QO X (compareOp .Eq) (rEqD X.K) eqD := q_eqB (op_eqD hu) fun x y H Q d e h1 h2 h3 h4 h => ⟨d, e, h1, h2, h3, h4, h⟩
theorem q_ne' (hu : X.A.units + 64 < cLine) : QO X (compareOp .NotEq) (rNeD X.K) neD := q_eqB (op_neD hu) fun x y H Q d e h1 h2 h3 h4 h => ⟨d, e, h1, h2, h3, h4, h⟩
theorem rep_flat {d : Da} {v : V} (r : Rep K w v d) (h : flatD d = true) : v = vOf d ∧ flatV v = true := by
  cases r <;> first | exact ⟨rfl, rfl⟩ | cases h
theorem repL_flat : ∀ {ds : List Da} {vs : List V}, RepL K w vs ds → ds.all flatD = true → vs = ds.map vOf ∧ vs.all flatV = true
  | _, _, .nil, _ => ⟨rfl, rfl⟩
  | _, _, .cons r t, h => by
    obtain ⟨h1, h2⟩ := Bool.and_eq_true_iff.mp (show (_ && _) = true from h)
    obtain ⟨e1, f1⟩ := rep_flat r h1
    obtain ⟨e2, f2⟩ := repL_flat t h2
    refine ⟨by rw [List.map_cons, e1, ← e2], ?_⟩
    rw [List.all_cons, f1, f2]; rfl
theorem q_inB {op : CmpOp} {neg : Bool} (ho : OpR X (compareOp op) (rIn X.K neg)) : QO X (compareOp op) (rIn X.K neg) (inB neg) := ⟨ho, fun w x y d e Q ex m rx ry h => by
  unfold inB at h
  split at h
  · rename_i xs h1
    split at h
    · rename_i hs
      obtain ⟨s1, s2⟩ := Bool.and_eq_true_iff.mp hs
      obtain ⟨a, vs, rfl, hq, rl⟩ := sq_rep m ry h1
      obtain ⟨e1, f1⟩ := rep_flat rx s1
      obtain ⟨e2, f2⟩ := repL_flat rl s2
      refine ⟨a, vs, rfl, hq, f1, f2, ?_⟩
      rw [e1, e2]
      exact h.here m _ (.bl _)
    · exact h.elim
  · exact h.elim⟩
theorem q_in' : QO X (compareOp .In) (rIn X.K false) (inB false) := q_inB op_in_seq
theorem q_notIn' : QO X (compareOp .NotIn) (rIn X.K true) (inB true) := q_inB op_notIn_seq
theorem q_inDB {op : CmpOp} {neg : Bool} {r : R2} (ho : OpR X (compareOp op) r) (hr : ∀ x y H Q d ds, Dp X.K H x d → Dp X.K H y (.list ds) → SeqAt.shaped d = true → SeqAt.shaped (.list ds) = true → Q (.bl (if neg then !ds.any (fun z => PyData.eqv z d) else ds.any fun z => PyData.eqv z d)) H → r x y H Q) : QO X (compareOp op) r (inDB neg) := ⟨ho, fun w x y d e Q ex m rx ry h => by
  unfold inDB at h
  split at h
  · rename_i p q h1 h2
    split at h
    · rename_i hs
      obtain ⟨s1, s2⟩ := Bool.and_eq_true_iff.mp hs
      exact hr x y w.H Q p q (dp_py m rx h1) (dp_py m ry h2) s1 s2 (h.here m _ (.bl _))
    · exact h.elim
  · exact h.elim⟩
theorem q_inD' (hu : X.A.units + 65 < cLine) : QO X (compareOp .In) (rInD X.K) (inDB false) := q_inDB (op_inD hu) fun x y H Q d e h1 h2 h3 h4 h => ⟨d, e, h1, h2, h3, h4, h⟩
theorem q_notInD' (hu : X.A.units + 65 < cLine) : QO X (compareOp .NotIn) (rNotInD X.K) (inDB true) := q_inDB (op_notInD hu) fun x y H Q d e h1 h2 h3 h4 h => ⟨d, e, h1, h2, h3, h4, h⟩
theorem q_isB {op : CmpOp} {neg : Bool} {r r' : R2} (ho : OpR X (compareOp op) r) (ho' : OpR X (compareOp op) r') (h1 : ∀ x H Q, Q (.bl (if neg then !decide (x = .non) else decide (x = .non))) H → r x .non H Q) (h2 : ∀ a b H Q, Q (.bl (if neg then !decide (a = b) else decide (a = b))) H → r' (.bl a) (.bl b) H Q) :
    QO X (compareOp op) (rOr r r') (isB neg) := QO.or2 ho ho' fun w x y d e Q ex m rx ry h => by
  unfold isB at h
  split at h
  · cases rx; cases ry
    exact .inr (h2 _ _ _ _ (h.here m _ (.bl _)))
  · cases ry
    refine .inl (h1 _ _ _ ?_)
    have k := h.here m _ (.bl _)
    cases rx <;> exact k
  · exact h.elim
abbrev rIs : R2 := rOr (fun x y H Q => y = .non ∧ Q (.bl (decide (x = .non))) H) (fun x y H Q => ∃ a b, x = .bl a ∧ y = .bl b ∧ Q (.bl (decide (a = b))) H)
abbrev rIsNot : R2 := rOr (fun x y H Q => y = .non ∧ Q (.bl (!decide (x = .non))) H) (fun x y H Q => ∃ a b, x = .bl a ∧ y = .bl b ∧ Q (.bl (!decide (a = b))) H)
theorem q_is : QO X (compareOp .Is) rIs (isB false) := q_isB op_isN op_is_bl (fun x H Q h => ⟨rfl, h⟩) fun a b H Q h => ⟨a, b, rfl, rfl, h⟩
theorem q_isNot : QO X (compareOp .IsNot) rIsNot (isB true) := q_isB op_notN op_isnot_bl (fun x H Q h => ⟨rfl, h⟩) fun a b H Q h => ⟨a, b, rfl, rfl, h⟩
def rAddA (K : PySem.W.Frag) : R2 := rOr (rOr (rI0 fun i j => .int (i + j)) (fun x y H Q => ∃ i j, x = .str i ∧ y = .str j ∧ i.length + j.length ≤ sizeLine ∧ Q (.str (i ++ j)) H)) (rOr (rCatA K) rCat)
theorem q_add' : QO X (binaryOp .Add) (rAddA X.K) addD := by
  refine ⟨OpR.or (OpR.or op_add op_add_str) (OpR.or op_catA op_cat), fun w x y d e Q ex m rx ry h => ?_⟩
  unfold addD at h
  split at h
  · cases rx; cases ry
    exact .inl (.inl ⟨_, _, rfl, rfl, h.here m _ (.int _)⟩)
  · cases rx; cases ry
    split at h
    · rename_i hl
      exact .inl (.inr ⟨_, _, rfl, rfl, szD_le hl, h.here m _ (.str _)⟩)
    · exact h.elim
  · split at h
    · rename_i hl
      cases rx with
      | @tup a vs _ h1 r1 =>
        cases ry with
        | @tup b us _ h2 r2 =>
          refine .inr (.inl ⟨a, b, vs, us, rfl, rfl, h1, h2, ?_, fun e => ?_, fun n1 e => ?_, fun n1 n2 p hp => ?_⟩)
          · rw [r1.length, r2.length]; exact szD_le hl
          · subst e; cases r1; exact h.here m _ (.tup h2 r2)
          · subst e; cases r2; rw [List.append_nil] at h; exact h.here m _ (.tup h1 r1)
          · exact Run.at (w' := w.new p (.tup (vs ++ us))) h (Ext.new m hp) (m.new hp) rfl rfl _ (Rep.newTup m hp (r1.append r2))
    · exact h.elim
  · dsimp only at h
    split at h
    · rename_i xs ys h1 h2
      split at h
      · rename_i hl
        obtain ⟨a, vs, rfl, hH, r1⟩ := ls_rep m rx h1
        obtain ⟨b, us, rfl, hH2, r2⟩ := ls_rep m ry h2
        refine .inr (.inr ⟨a, b, vs, us, rfl, rfl, hH, hH2, by rw [r1.length, r2.length]; exact szD_le hl, fun p hp => ?_⟩)
        exact Run.at (w' := w.new p (.lst (vs ++ us))) h (Ext.new m hp) (m.new hp) rfl rfl _ (Rep.newLst m hp (r1.append r2))
      · exact h.elim
    · exact h.elim
/-- a new list out of two operands -/
structure QOL (X : Cx) (f : Value → Value → Sem Value) (r : R2) (g : Da → Da → Mo (List Da)) : Prop where
  op : OpR X f r
  s2 : ∀ (w : Wd) (x y : V) (d e : Da) (Q : VK) (ex : Str → List Da → Wd → Prop), Em X.K w → Rep X.K w x d → Rep X.K w y e →
  Run X.K w (g d e w.st) (OkL X.K Q) ex → r x y w.H Q
theorem ql_cat : QOL X (binaryOp .Add) rCat catL := ⟨op_cat, fun w x y d e Q ex m rx ry h => by
  unfold catL at h
  split at h
  · rename_i xs ys h1 h2
    split at h
    · rename_i hl
      obtain ⟨a, vs, rfl, hH, r1⟩ := ls_rep m rx h1
      obtain ⟨b, us, rfl, hH2, r2⟩ := ls_rep m ry h2
      exact ⟨a, b, vs, us, rfl, rfl, hH, hH2, by rw [r1.length, r2.length]; exact szD_le hl, fun p hp => h.here m p _ hp (r1.append r2)⟩
    · exact h.elim
  · exact h.elim⟩
theorem RepL.flat {vs : List V} {ds : List Da} (r : RepL K w vs ds) : ∀ n, RepL K w (List.replicate n vs).flatten (List.replicate n ds).flatten
  | 0 => .nil
  | n + 1 => by
    rw [List.replicate_succ, List.replicate_succ, List.flatten_cons, List.flatten_cons]
    exact r.append (RepL.flat r n)
theorem ql_rep : QOL X (binaryOp .Mult) rRep repL := ⟨op_rep, fun w x y d e Q ex m rx ry h => by
  unfold repL at h
  split at h
  · rename_i xs k h1
    split at h
    · rename_i hl
      obtain ⟨a, vs, rfl, hH, r1⟩ := ls_rep m rx h1
      cases ry
      exact ⟨a, k, vs, rfl, rfl, hH, hl.1, hl.2.1, by rw [r1.length]; exact szD_le hl.2.2, fun p hp => h.here m p _ hp (r1.flat _)⟩
    · exact h.elim
  · exact h.elim⟩
/-! ### subscripts -/
theorem q_ix : IxR X (rIx X.K) ∧ S2 X.K (rIx X.K) ixD := by
  refine ⟨ix_seq, fun w x y d e Q ex m rx ry h => ?_⟩
  unfold ixD at h
  split at h
  · cases ry
    split at h
    · cases rx
      split at h
      · rename_i hl
        split at h
        · rename_i c hc
          exact .inr (.inr ⟨_, _, c, rfl, rfl, szD_le hl, hc, h.here m _ (.str _)⟩)
        · exact h.elim
      · exact h.elim
    · split at h
      · exact h.elim
      · rename_i hs hf
        split at h
        · rename_i xs hx
          split at h
          · rename_i z hz
            obtain ⟨a, vs, rfl, hq, rl⟩ := sq_rep m rx hx
            obtain ⟨v, hv, rv⟩ := at_map rl hz
            rcases hq with hq | hq
            · exact .inl ⟨a, vs, _, v, rfl, rfl, hq, hv, h.here m v rv⟩
            · exact .inr (.inl ⟨a, vs, _, v, rfl, rfl, hq, hv, h.here m v rv⟩)
          · exact h.elim
        · exact h.elim
  · exact h.elim
theorem cut_rep {vs : List V} {ds : List Da} (r : RepL K w vs ds) (lo hi : Option Int) : RepL K w (cutV vs lo hi) (cutD ds lo hi) := by
  unfold cutV cutD
  rw [r.length]
  exact (r.drop _).take _
/-- slices of tuples and texts, as data; of lists: a new list -/
def slT : Da → Option Int → Option Int → Mo Da
  | .tup xs, lo, hi => ret (.tup (cutD xs lo hi))
  | _, _, _ => nop
def slS : Da → Option Int → Option Int → Mo Da
  | .str s, lo, hi => if s.length ≤ szD then ret (.str (cutS s lo hi)) else nop
  | _, _, _ => nop
def slL (d : Da) (lo hi : Option Int) : Mo (List Da) := fun st => match lsOf st d with
  | some xs => .ok (cutD xs lo hi) st
  | none => .bad
def slA : Da → Option Int → Option Int → Mo Da
  | .tup xs, lo, hi => ret (.tup (cutD xs lo hi))
  | .str s, lo, hi => if s.length ≤ szD then ret (.str (cutS s lo hi)) else nop
  | d, lo, hi => fun st => match lsOf st d with
    | some xs => .ok (.lst (cutD xs lo hi)) st
    | none => .bad
def S3 (K : PySem.W.Frag) (r : V → Option Int → Option Int → Hp → VK → Prop) (f : Da → Option Int → Option Int → Mo Da) : Prop := ∀ (w : Wd) (x : V) (d : Da) (lo hi : Option Int) (Q : VK) (ex : Str → List Da → Wd → Prop), Em K w → Rep K w x d →
  Run K w (f d lo hi w.st) (OkV K Q) ex → r x lo hi w.H Q
def rSlAll (K : PySem.W.Frag) : V → Option Int → Option Int → Hp → VK → Prop := fun x lo hi H Q => (rSlA K x lo hi H Q ∨ rSlS x lo hi H Q) ∨ rSlL K x lo hi H Q
theorem q_slA : SlR X (rSlAll X.K) ∧ S3 X.K (rSlAll X.K) slA := by
  refine ⟨SlR.or (SlR.or sl_tupA sl_str) sl_list, fun w x d lo hi Q ex m rx h => ?_⟩
  unfold slA at h
  split at h
  · rename_i ys
    cases rx with
    | @tup a vs _ h1 r1 =>
      refine .inl (.inl ⟨a, vs, rfl, h1, fun hw => ?_, fun _ p hp => ?_⟩)
      · have k := h.here m (.ref a)
        refine k (.tup h1 ?_)
        have e : cutD ys lo hi = ys := by
          unfold cutD
          rw [← r1.length, hw.1, hw.2]
          simp only [List.drop_zero, Nat.sub_zero]
          rw [r1.length, List.take_length]
        rw [e]
        exact r1
      · exact Run.at (w' := w.new p (.tup (cutV vs lo hi))) h (Ext.new m hp) (m.new hp) rfl rfl _ (Rep.newTup m hp (cut_rep r1 lo hi))
  · cases rx
    split at h
    · rename_i hl
      exact .inl (.inr ⟨_, rfl, szD_le hl, h.here m _ (.str _)⟩)
    · exact h.elim
  · dsimp only at h
    split at h
    · rename_i xs h1
      obtain ⟨a, vs, rfl, hH, r1⟩ := ls_rep m rx h1
      refine .inr ⟨a, vs, rfl, SqL.of hH, fun p hp => ?_⟩
      exact Run.at (w' := w.new p (.lst (cutV vs lo hi))) h (Ext.new m hp) (m.new hp) rfl rfl _ (Rep.newLst m hp (cut_rep r1 lo hi))
    · exact h.elim
theorem q_eq {K : PySem.W.Frag} (hu : X.A.units + 64 < cLine) (hK : X.K = K := by rfl) : QO X (compareOp .Eq) (rEqD K) eqD := by subst hK; exact q_eq' hu
theorem q_ne {K : PySem.W.Frag} (hu : X.A.units + 64 < cLine) (hK : X.K = K := by rfl) : QO X (compareOp .NotEq) (rNeD K) neD := by subst hK; exact q_ne' hu
theorem q_in {K : PySem.W.Frag} (hK : X.K = K := by rfl) : QO X (compareOp .In) (rIn K false) (inB false) := by subst hK; exact q_in'
theorem q_notIn {K : PySem.W.Frag} (hK : X.K = K := by rfl) : QO X (compareOp .NotIn) (rIn K true) (inB true) := by subst hK; exact q_notIn'
theorem q_inD {K : PySem.W.Frag} (hu : X.A.units + 65 < cLine) (hK : X.K = K := by rfl) : QO X (compareOp .In) (rInD K) (inDB false) := by subst hK; exact q_inD' hu
theorem q_notInD {K : PySem.W.Frag} (hu : X.A.units + 65 < cLine) (hK : X.K = K := by rfl) : QO X (compareOp .NotIn) (rNotInD K) (inDB true) := by subst hK; exact q_notInD' hu
theorem q_add {K : PySem.W.Frag} (hK : X.K = K := by rfl) : QO X (binaryOp .Add) (rAddA K) addD := by subst hK; exact q_add'
end
end CL
namespace CL
open PySem PySem.Spec L2
/-! ### kinds -/
inductive Tn where
  | non | bool | int | str | list | tuple | dict
  deriving DecidableEq
def Tn.name : Tn → String
  | .non => "NoneType"
  | .bool => "bool"
  | .int => "int"
  | .str => "str"
  | .list => "list"
  | .tuple => "tuple"
  | .dict => "dict"
def isTn (a t : Tn) : Bool := decide (a = t) || (decide (a = .bool) && decide (t = .int))
def tyN (st : Store) : Da → Option Tn
  | .non => some .non
  | .bl _ => some .bool
  | .int _ => some .int
  | .str _ => some .str
  | .tup _ => some .tuple
  | .lst _ => some .list
  | .fro _ => some .list
  | .han n => match st[n]? with
    | some (.lst _) => some .list
    | some (.dK _) => some .dict
    | _ => none
theorem kit_tn : ∀ a t : Tn, t ≠ .non → t ≠ .dict → kitB a.name t.name = some (isTn a t) := by
  intro a t
  cases t <;> intro h1 h2 <;> first | exact absurd rfl h1 | exact absurd rfl h2 | (cases a <;> decide +kernel)
def isT (t : Tn) (d : Da) : Mo Da := fun st => match tyN st d with
  | some a => .ok (.bl (isTn a t)) st
  | none => .bad
def lenD (d : Da) : Mo Da := fun st => match d with
  | .str s => if s.length ≤ szD then .ok (.int s.length) st else .bad
  | d => match sqOf st d with
    | some xs => .ok (.int xs.length) st
    | none => .bad
def one {A : Type} (f : Da → Mo A) : List Da → Mo A
  | [d] => f d
  | _ => nop
def two {A : Type} (f : Da → Da → Mo A) : List Da → Mo A
  | [d, e] => f d e
  | _ => nop
def listD (d : Da) : Mo (List Da) := fun st => match sqOf st d with
  | some xs => .ok xs st
  | none => .bad
def tupleD (d : Da) : Mo Da := fun st => match d with
  | .fro _ => .bad
  | d => match sqOf st d with
    | some xs => .ok (.tup xs) st
    | none => .bad
def blsOf : List Da → Option (List Bool)
  | [] => some []
  | .bl b :: r => (blsOf r).map (b :: ·)
  | _ => none
def intsOf : List Da → Option (List Int)
  | [] => some []
  | .int b :: r => (intsOf r).map (b :: ·)
  | _ => none
def allD (d : Da) : Mo Da := fun st => match lsOf st d with
  | some xs => (match blsOf xs with
    | some bs => .ok (.bl (bs.all id)) st
    | none => .bad)
  | none => .bad
def maxD : Da → Da → Mo Da
  | .int i, .int j => ret (.int (if j > i then j else i))
  | _, _ => nop
def minD : Da → Da → Mo Da
  | .int i, .int j => ret (.int (if j < i then j else i))
  | _, _ => nop
section
variable {X : Cx} {K : PySem.W.Frag} {w : Wd}
theorem ty_rep {v : V} {d : Da} {a : Tn} (m : Em K w) (r : Rep K w v d) (h : tyN w.st d = some a) : TyX K w.H v (.type a.name) := by
  cases r with
  | non => cases h; exact .base .non
  | bl b => cases h; exact .base (.bl b)
  | int i => cases h; exact .base (.int i)
  | str s => cases h; exact .base (.str s)
  | tup h1 r1 =>
    cases h
    rcases h1 with (h1 | ⟨o, h1⟩) | ⟨o, its, n, h1, h2, _⟩
    · exact .base (.tup h1)
    · exact .fTuple h1
    · exact .kTuple h1 h2
  | lst h1 _ r1 => cases h; exact .base (.lst h1)
  | fro h1 r1 =>
    cases h
    rcases h1 with ⟨o, h1⟩ | ⟨o, its, n, h1, h2, _⟩
    · exact .base (.frz h1)
    · exact .kList h1 h2
  | @han a n ha =>
    have h' : (match w.st[n]? with | some (.lst _) => some Tn.list | some (.dK _) => some Tn.dict | _ => none) = some _ := h
    cases q : w.st[n]? with
    | none => rw [q] at h'; cases h'
    | some c =>
      rw [q] at h'
      have ok := m.cell n a c ha q
      cases c with
      | lst xs => cases h'; obtain ⟨vs, hH, _⟩ := ok; exact .base (.lst hH)
      | dK xs => cases h'; obtain ⟨vs, hH, _⟩ := ok; exact .base (.dK hH)
      | ins c fs => cases h'
      | dead => cases h'
theorem sc_isT {t : Tn} (h1 : t ≠ .non) (h2 : t ≠ .dict) : ∀ (w : Wd) (x : V) (d : Da) (Q : VK) (ex : Str → List Da → Wd → Prop), Em K w → Rep K w x d → Run K w (isT t d w.st) (OkV K Q) ex → rIsi K [x, .ty t.name] w.H Q := fun w x d Q ex m rx h => by
  unfold isT at h
  split at h
  · rename_i a ha
    exact ⟨x, .ty t.name, .type a.name, .type t.name, isTn a t, rfl, .ty _, ty_rep m rx ha, kit_ty (kit_tn a t h1 h2), h.here m _ (.bl _)⟩
  · exact h.elim
theorem one_rep {A : Type} {vs : List V} {ds : List Da} {f : Da → Mo A} {ok : A → Wd → Prop} {ex : Str → List Da → Wd → Prop} (r : RepL K w vs ds) (h : Run K w (one f ds w.st) ok ex) : ∃ v d, vs = [v] ∧ ds = [d] ∧ Rep K w v d ∧ Run K w (f d w.st) ok ex := by
  unfold one at h
  split at h
  · cases r with
    | cons r1 r2 => cases r2; exact ⟨_, _, rfl, rfl, r1, h⟩
  · exact h.elim
theorem two_rep {A : Type} {vs : List V} {ds : List Da} {f : Da → Da → Mo A} {ok : A → Wd → Prop} {ex : Str → List Da → Wd → Prop} (r : RepL K w vs ds) (h : Run K w (two f ds w.st) ok ex) : ∃ v u d e, vs = [v, u] ∧ ds = [d, e] ∧ Rep K w v d ∧ Rep K w u e ∧ Run K w (f d e w.st) ok ex := by
  unfold two at h
  split at h
  · cases r with
    | cons r1 r2 => cases r2 with
      | cons r2 r3 => cases r3; exact ⟨_, _, _, _, rfl, rfl, r1, r2, h⟩
  · exact h.elim
theorem sc_len : SC K (fun xs H Q => ∃ x n, xs = [x] ∧ LenV K x H n ∧ Q (.int n) H) (one lenD) := fun w xs ds Q ex m r h => by
  obtain ⟨v, d, rfl, rfl, rv, h⟩ := one_rep r h
  unfold lenD at h
  split at h
  · cases rv
    split at h
    · rename_i hl
      exact ⟨_, _, rfl, ⟨szD_le hl, rfl⟩, h.here m _ (.int _)⟩
    · exact h.elim
  · split at h
    · rename_i ys hy
      obtain ⟨a, vs, rfl, hq, rl⟩ := sq_rep m rv hy
      rw [← rl.length] at h
      rcases hq with hq | hq
      · exact ⟨_, vs.length, rfl, .inl ⟨vs, hq, rfl⟩, h.here m _ (.int _)⟩
      · exact ⟨_, vs.length, rfl, .inr ⟨vs, hq, rfl⟩, h.here m _ (.int _)⟩
    · exact h.elim
theorem sc_list : SCL K (fun xs H Q => ∃ p ys, xs = [.ref p] ∧ (SqL K H p ys ∨ SqT K H p ys) ∧ ∀ l, H l = none → Q (.ref l) (upd H l (.lst ys))) (one listD) := fun w xs ds Q ex m r h => by
  obtain ⟨v, d, rfl, rfl, rv, h⟩ := one_rep r h
  unfold listD at h
  split at h
  · rename_i ys hy
    obtain ⟨a, vs, rfl, hq, rl⟩ := sq_rep m rv hy
    exact ⟨a, vs, rfl, hq, fun p hp => okL_fresh m h rfl hp rl⟩
  · exact h.elim
theorem sc_tuple : SC K (fun xs H Q => ∃ p ys, xs = [.ref p] ∧ ((SqL K H p ys ∧ ∀ l, H l = none → Q (.ref l) (upd H l (.tup ys))) ∨ (SqT K H p ys ∧ Q (.ref p) H))) (one tupleD) := fun w xs ds Q ex m r h => by
  obtain ⟨v, d, rfl, rfl, rv, h⟩ := one_rep r h
  unfold tupleD at h
  split at h
  · exact h.elim
  · split at h
    · rename_i ys hy
      obtain ⟨a, vs, rfl, hq, rl⟩ := sq_rep m rv hy
      rcases hq with hq | hq
      · exact ⟨a, vs, rfl, .inl ⟨hq, fun p hp => Run.at (w' := w.new p (.tup vs)) h (Ext.new m hp) (m.new hp) rfl rfl _ (Rep.newTup m hp rl)⟩⟩
      · exact ⟨a, vs, rfl, .inr ⟨hq, h.here m _ (.tup hq rl)⟩⟩
    · exact h.elim
theorem bls_rep : ∀ {ds : List Da} {vs : List V} {bs : List Bool}, RepL K w vs ds → blsOf ds = some bs → vs = bs.map V.bl
  | [], _, _, .nil, h => by cases h; rfl
  | .bl b :: r, _, _, .cons r1 r2, h => by
    unfold blsOf at h
    cases q : blsOf r with
    | none => rw [q] at h; cases h
    | some bs =>
      rw [q] at h
      cases h
      cases r1
      rw [bls_rep r2 q]
      rfl
  | .non :: r, _, _, _, h => by unfold blsOf at h; cases h
  | .int _ :: r, _, _, _, h => by unfold blsOf at h; cases h
  | .str _ :: r, _, _, _, h => by unfold blsOf at h; cases h
  | .tup _ :: r, _, _, _, h => by unfold blsOf at h; cases h
  | .lst _ :: r, _, _, _, h => by unfold blsOf at h; cases h
  | .fro _ :: r, _, _, _, h => by unfold blsOf at h; cases h
  | .han _ :: r, _, _, _, h => by unfold blsOf at h; cases h
theorem ints_rep : ∀ {ds : List Da} {vs : List V} {bs : List Int}, RepL K w vs ds → intsOf ds = some bs → vs = bs.map V.int
  | [], _, _, .nil, h => by cases h; rfl
  | .int b :: r, _, _, .cons r1 r2, h => by
    unfold intsOf at h
    cases q : intsOf r with
    | none => rw [q] at h; cases h
    | some bs =>
      rw [q] at h
      cases h
      cases r1
      rw [ints_rep r2 q]
      rfl
  | .non :: r, _, _, _, h => by unfold intsOf at h; cases h
  | .bl _ :: r, _, _, _, h => by unfold intsOf at h; cases h
  | .str _ :: r, _, _, _, h => by unfold intsOf at h; cases h
  | .tup _ :: r, _, _, _, h => by unfold intsOf at h; cases h
  | .lst _ :: r, _, _, _, h => by unfold intsOf at h; cases h
  | .fro _ :: r, _, _, _, h => by unfold intsOf at h; cases h
  | .han _ :: r, _, _, _, h => by unfold intsOf at h; cases h
theorem sc_all : SC K (rAll K) (one allD) := fun w xs ds Q ex m r h => by
  obtain ⟨v, d, rfl, rfl, rv, h⟩ := one_rep r h
  unfold allD at h
  split at h
  · rename_i ys hy
    obtain ⟨a, vs, rfl, hH, rl⟩ := ls_rep m rv hy
    split at h
    · rename_i bs hb
      have e := bls_rep rl hb
      subst e
      exact ⟨a, bs, rfl, SqL.of hH, h.here m _ (.bl _)⟩
    · exact h.elim
  · exact h.elim
theorem sc_max : SC K (fun xs H Q => ∃ i j, xs = [.int i, .int j] ∧ Q (.int (if j > i then j else i)) H) (two maxD) := fun w xs ds Q ex m r h => by
  obtain ⟨v, u, d, e, rfl, rfl, rv, ru, h⟩ := two_rep r h
  unfold maxD at h
  split at h
  · cases rv; cases ru
    exact ⟨_, _, rfl, h.here m _ (.int _)⟩
  · exact h.elim
theorem sc_min : SC K (fun xs H Q => ∃ i j, xs = [.int i, .int j] ∧ Q (.int (if j < i then j else i)) H) (two minD) := fun w xs ds Q ex m r h => by
  obtain ⟨v, u, d, e, rfl, rfl, rv, ru, h⟩ := two_rep r h
  unfold minD at h
  split at h
  · cases rv; cases ru
    exact ⟨_, _, rfl, h.here m _ (.int _)⟩
  · exact h.elim
end
/-! ### methods of lists that change -/
def isLs (d : Da) : Mo Unit := fun st => match lsOf st d with
  | some _ => .ok () st
  | none => .bad
def appD (d x : Da) : Mo Da := fun st => match d with
  | .han n => (match st[n]? with
    | some (.lst xs) => if xs.length < szD then .ok .non (st.set n (.lst (xs ++ [x]))) else .bad
    | _ => .bad)
  | _ => .bad
def popD (d : Da) : Mo Da := fun st => match d with
  | .han n => (match st[n]? with
    | some (.lst xs) => (match xs[xs.length - 1]? with
      | some x => .ok x (st.set n (.lst xs.dropLast))
      | none => .bad)
    | _ => .bad)
  | _ => .bad
def setD (d i x : Da) : Mo Unit := fun st => match d, i with
  | .han n, .int k => (match st[n]? with
    | some (.lst xs) => (match ixN xs.length k with
      | some j => .ok () (st.set n (.lst (xs.set j x)))
      | none => .bad)
    | _ => .bad)
  | _, _ => .bad
def eApp (a b : Sl → Mo Da) : Sl → Mo Da := fun ro => bnd (a ro) fun d => bnd (isLs d) fun _ => bnd (b ro) fun x => appD d x
def ePop (a : Sl → Mo Da) : Sl → Mo Da := fun ro => bnd (a ro) fun d => bnd (isLs d) fun _ => popD d
section
variable {K : PySem.W.Frag} {E : St → XK} {ta tb te : TE} {a b : Sl → Mo Da} {w : Wd}
theorem isLs_run {d : Da} {v : V} {ok : Unit → Wd → Prop} {ex : Str → List Da → Wd → Prop} (m : Em K w) (rv : Rep K w v d) (h : Run K w (isLs d w.st) ok ex) : tyV K "list" v w.H ∧ ok () w := by
  unfold isLs at h
  split at h
  · rename_i xs hx
    obtain ⟨a, vs, rfl, hH, rl⟩ := ls_rep m rv hx
    exact ⟨.inl ⟨rfl, vs, SqL.of hH⟩, h.here m⟩
  · exact h.elim
theorem app_run {d x : Da} {v u : V} {Q : VK} {ex : Str → List Da → Wd → Prop} (m : Em K w) (rv : Rep K w v d) (ru : Rep K w u x) (h : Run K w (appD d x w.st) (OkV K Q) ex) : rAppend v [u] w.H Q := by
  unfold appD at h
  split at h
  · rename_i n
    split at h
    · rename_i xs hx
      split at h
      · rename_i hl
        cases rv with
        | @han a _ ha =>
          obtain ⟨vs, hH, rl⟩ := m.cell n a _ ha hx
          have x2 : Ext w (w.put n a (.lst (vs ++ [u])) (.lst (xs ++ [x]))) := Ext.put m ha hx (by intro z; cases z)
          refine ⟨a, vs, u, rfl, rfl, hH, by rw [rl.length]; exact szD_lt hl, ?_⟩
          exact Run.at (w' := w.put n a (.lst (vs ++ [u])) (.lst (xs ++ [x]))) h x2 (m.put ha hx (by intro z; cases z) ⟨_, upd_same, (rl.append (.cons ru .nil)).mono m x2⟩) rfl rfl _ .non
      · exact h.elim
    · exact h.elim
  · exact h.elim
theorem s_app (ha : SE K E ta a) (hb : SE K E tb b) : SE K E (tBM K "list" rAppend ta (tCons tb tNil)) (eApp a b) := fun w ro σ Q e h =>
  ha w ro σ _ e (h.bind.mono (fun d w1 x1 p1 m1 k v rv => by
    obtain ⟨ty, k2⟩ := isLs_run m1 rv k.bind
    refine ⟨ty, hb w1 ro σ _ (e.mono x1 m1) (k2.bind.mono (fun x w2 x2 p2 m2 k3 u ru => ?_) fun _ _ _ z => z)⟩
    exact app_run m2 (rv.mono m1 x2) ru k3) fun _ _ _ z => z)
theorem s_pop (ha : SE K E ta a) : SE K E (tBM0 K "list" rPop ta) (ePop a) := fun w ro σ Q e h =>
  ha w ro σ _ e (h.bind.mono (fun d w1 x1 p1 m1 k v rv => by
    obtain ⟨ty, k2⟩ := isLs_run m1 rv k.bind
    refine ⟨ty, ?_⟩
    unfold popD at k2
    split at k2
    · rename_i n
      split at k2
      · rename_i xs hx
        split at k2
        · rename_i x hxx
          cases rv with
          | @han a _ ha =>
            obtain ⟨vs, hH, rl⟩ := m1.cell n a _ ha hx
            obtain ⟨u, hu, ru⟩ := rl.get hxx
            have x2 : Ext w1 (w1.put n a (.lst vs.dropLast) (.lst xs.dropLast)) := Ext.put m1 ha hx (by intro z; cases z)
            refine ⟨a, vs, u, rfl, rfl, hH, by rw [rl.length]; exact hu, ?_⟩
            exact Run.at (w' := w1.put n a (.lst vs.dropLast) (.lst xs.dropLast)) k2 x2 (m1.put ha hx (by intro z; cases z) ⟨_, upd_same, rl.dropLast.mono m1 x2⟩) rfl rfl _ (ru.mono m1 x2)
        · exact k2.elim
      · exact k2.elim
    · exact k2.elim) fun _ _ _ z => z)
theorem set_run {d i x : Da} {v k u : V} {Q : Hp → Prop} {ex : Str → List Da → Wd → Prop} (m : Em K w) (rv : Rep K w v d) (ri : Rep K w k i) (ru : Rep K w u x) (h : Run K w (setD d i x w.st) (fun _ w' => Q w'.H) ex) : rSetL v k u w.H Q := by
  unfold setD at h
  split at h
  · rename_i n k
    split at h
    · rename_i xs hx
      split at h
      · rename_i j hj
        cases rv with
        | @han a _ ha =>
          cases ri
          obtain ⟨vs, hH, rl⟩ := m.cell n a _ ha hx
          have x2 : Ext w (w.put n a (.lst (vs.set j u)) (.lst (xs.set j x))) := Ext.put m ha hx (by intro z; cases z)
          refine ⟨a, vs, k, j, rfl, rfl, hH, by rw [rl.length]; exact hj, ?_⟩
          exact Run.at (w' := w.put n a (.lst (vs.set j u)) (.lst (xs.set j x))) h x2 (m.put ha hx (by intro z; cases z) ⟨_, upd_same, (rl.set ru j).mono m x2⟩) rfl rfl
      · exact h.elim
    · exact h.elim
  · exact h.elim
end
end CL
namespace CL
open PySem PySem.Spec L2
/-! ### targets -/
abbrev Tg := Da → Sl → Option Sl
abbrev Tgs := List Da → Sl → Option Sl
def SameOut (ws : List Nat) (σ σ' : St) : Prop := σ'.length = σ.length ∧ ∀ i : Nat, i ∉ ws → σ'[i]? = σ[i]?
def SG (K : PySem.W.Frag) (g : TG) (t : Tg) (ws : List Nat) : Prop := ∀ (w : Wd) (v : V) (d : Da) (ro ro' : Sl) (σ : St), En K w ro σ → Rep K w v d → t d ro = some ro' →
  ∃ σ', En K w ro' σ' ∧ SameOut ws σ σ' ∧ ∀ Q : St → Hp → Prop, Q σ' w.H → g v σ w.H Q
def SGs (K : PySem.W.Frag) (g : TGs) (t : Tgs) (ws : List Nat) : Prop := ∀ (w : Wd) (vs : List V) (ds : List Da) (ro ro' : Sl) (σ : St), En K w ro σ → RepL K w vs ds → t ds ro = some ro' →
  ∃ σ', En K w ro' σ' ∧ SameOut ws σ σ' ∧ ∀ Q : St → Hp → Prop, Q σ' w.H → g vs σ w.H Q
def gN (i : Nat) : Tg := fun d ro => some (ro.set i (some d))
def gsN : Tgs := fun ds ro => match ds with
  | [] => some ro
  | _ => none
def gsC (t : Tg) (u : Tgs) : Tgs := fun ds ro => match ds with
  | d :: r => (t d ro).bind fun ro1 => u r ro1
  | _ => none
def gT (n : Nat) (t : Tgs) : Tg := fun d ro => match d with
  | .tup xs => if xs.length = n then t xs ro else none
  | _ => none
section
variable {K : PySem.W.Frag}
theorem SameOut.trans {ws us : List Nat} {σ σ1 σ2 : St} (a : SameOut ws σ σ1) (b : SameOut us σ1 σ2) : SameOut (ws ++ us) σ σ2 :=
  ⟨b.1.trans a.1, fun i h => (b.2 i fun z => h (List.mem_append_right _ z)).trans (a.2 i fun z => h (List.mem_append_left _ z))⟩
theorem sg_name {i : Nat} : SG K (gName i) (gN i) [i] := fun w v d ro ro' σ e r h => by
  cases h
  refine ⟨σ.set i (some v), e.set r, ⟨by simp, fun j hj => ?_⟩, fun Q q => q⟩
  rw [List.getElem?_set_ne fun z => hj (by simp [z])]
theorem sgs_nil : SGs K gNil gsN [] := fun w vs ds ro ro' σ e r h => by
  unfold gsN at h
  split at h
  · cases h
    cases r
    exact ⟨σ, e, ⟨rfl, fun _ _ => rfl⟩, fun Q q => ⟨rfl, q⟩⟩
  · cases h
theorem sgs_cons {g : TG} {gs : TGs} {t : Tg} {u : Tgs} {ws us : List Nat} (h1 : SG K g t ws) (h2 : SGs K gs u us) : SGs K (gCons g gs) (gsC t u) (ws ++ us) := fun w vs ds ro ro' σ e r h => by
  unfold gsC at h
  split at h
  · rename_i d rr
    cases r with
    | cons r1 r2 =>
      cases q : t d ro with
      | none => rw [q] at h; cases h
      | some ro1 =>
        rw [q] at h
        obtain ⟨σ1, e1, s1, k1⟩ := h1 w _ d ro ro1 σ e r1 q
        obtain ⟨σ2, e2, s2, k2⟩ := h2 w _ rr ro1 ro' σ1 e1 r2 h
        exact ⟨σ2, e2, s1.trans s2, fun Q q => ⟨_, _, rfl, k1 _ (k2 Q q)⟩⟩
  · cases h
theorem sg_tup {n : Nat} {gs : TGs} {t : Tgs} {ws : List Nat} (h : SGs K gs t ws) : SG K (gTup K n gs) (gT n t) ws := fun w v d ro ro' σ e r hh => by
  unfold gT at hh
  split at hh
  · rename_i xs
    split at hh
    · rename_i hl
      cases r with
      | tup h1 r1 =>
        obtain ⟨σ1, e1, s1, k1⟩ := h w _ xs ro ro' σ e r1 hh
        exact ⟨σ1, e1, s1, fun Q q => ⟨_, _, rfl, h1, by rw [r1.length]; exact hl, k1 Q q⟩⟩
    · cases hh
  · cases hh
end
/-! ### what is walked -/
mutual
def beqD : Da → Da → Bool
  | .non, .non => true
  | .bl a, .bl b => a == b
  | .int a, .int b => a == b
  | .str a, .str b => decide (a = b)
  | .tup a, .tup b => beqL a b
  | .lst a, .lst b => beqL a b
  | .fro a, .fro b => beqL a b
  | .han a, .han b => a == b
  | _, _ => false
def beqL : List Da → List Da → Bool
  | [], [] => true
  | a :: r, b :: s => beqD a b && beqL r s
  | _, _ => false
end
mutual
theorem beqD_eq : ∀ a b : Da, beqD a b = true → a = b
  | .non, b, h => by cases b <;> first | rfl | (unfold beqD at h; cases h)
  | .bl a, b, h => by cases b <;> first | (unfold beqD at h; cases h; done) | (unfold beqD at h; rw [eq_of_beq h])
  | .int a, b, h => by cases b <;> first | (unfold beqD at h; cases h; done) | (unfold beqD at h; rw [eq_of_beq h])
  | .str a, b, h => by cases b <;> first | (unfold beqD at h; cases h; done) | (unfold beqD at h; rw [of_decide_eq_true h])
  | .tup a, b, h => by cases b <;> first | (unfold beqD at h; cases h; done) | (unfold beqD at h; rw [beqL_eq _ _ h])
  | .lst a, b, h => by cases b <;> first | (unfold beqD at h; cases h; done) | (unfold beqD at h; rw [beqL_eq _ _ h])
  | .fro a, b, h => by cases b <;> first | (unfold beqD at h; cases h; done) | (unfold beqD at h; rw [beqL_eq _ _ h])
  | .han a, b, h => by cases b <;> first | (unfold beqD at h; cases h; done) | (unfold beqD at h; rw [eq_of_beq h])
theorem beqL_eq : ∀ a b : List Da, beqL a b = true → a = b
  | [], [], _ => rfl
  | [], _ :: _, h => by unfold beqL at h; cases h
  | _ :: _, [], h => by unfold beqL at h; cases h
  | a :: r, b :: s, h => by
    unfold beqL at h
    obtain ⟨h1, h2⟩ := Bool.and_eq_true_iff.mp h
    rw [beqD_eq a b h1, beqL_eq r s h2]
end
/-- a thing that is walked stands still -/
def chk (o : Option Nat) (xs : List Da) (st : Store) : Bool := match o with
  | none => true
  | some n => match st[n]? with
    | some (.lst ys) => beqL ys xs
    | _ => false
structure Src where
  xs : List Da
  o : Option Nat
def ItOk (K : PySem.W.Frag) (w : Wd) (J : It) (s : Src) : Prop := ∀ w', ExtW w w' → Em K w' → chk s.o s.xs w'.st = true →
  (∀ (i : Nat) (x : Da), s.xs[i]? = some x → J.go i w'.H ∧ ∀ v H', J.yld i w'.H v H' → ∃ w3 : Wd, w3.H = H' ∧ w3.st = w'.st ∧ w3.pv = w'.pv ∧ Ext w' w3 ∧ Em K w3 ∧ Rep K w3 v x) ∧ J.stop s.xs.length w'.H
def SI (K : PySem.W.Frag) (E : St → XK) (wi : TI) (m : Sl → Mo Src) : Prop := ∀ (w : Wd) (ro : Sl) (σ : St) (R : It → Hp → Prop), En K w ro σ →
  Run K w (m ro w.st) (fun s w' => ∀ J, ItOk K w' J s → R J w'.H) (XP K (E σ)) → wi σ w.H R
def srcV (d : Da) : Mo Src := fun st => match d with
  | .lst xs => .ok ⟨xs, none⟩ st
  | .tup xs => .ok ⟨xs, none⟩ st
  | .fro xs => .ok ⟨xs, none⟩ st
  | .han n => (match st[n]? with
    | some (.lst xs) => .ok ⟨xs, some n⟩ st
    | _ => .bad)
  | _ => .bad
def iV (a : Sl → Mo Da) : Sl → Mo Src := fun ro => bnd (a ro) srcV
def rngL (lo : Int) (n : Nat) : List Da := (List.range n).map fun (i : Nat) => Da.int (lo + (i : Int))
def big (i : Int) : Prop := -(2 ^ 62) ≤ i ∧ i < 2 ^ 62
instance (i : Int) : Decidable (big i) := by unfold big; infer_instance
def srcR1 : List Da → Mo Src
  | [.int j] => if big j then ret ⟨rngL 0 j.toNat, none⟩ else nop
  | _ => nop
def srcR2 : List Da → Mo Src
  | [.int i, .int j] => if big i ∧ big j then ret ⟨rngL i (j - i).toNat, none⟩ else nop
  | _ => nop
def iR1 (a : Sl → Mo (List Da)) : Sl → Mo Src := fun ro => bnd (a ro) srcR1
def iR2 (a : Sl → Mo (List Da)) : Sl → Mo Src := fun ro => bnd (a ro) srcR2
def iSeq (K : PySem.W.Frag) (tl : TE) : TI := fun σ H R => tl σ H fun x H1 => ∃ a, x = .ref a ∧ (((∃ xs, SqL K H1 a xs) ∧ R (Itl K a) H1) ∨ ((∃ xs, SqT K H1 a xs) ∧ R (Itt K a) H1))
section
variable {X : Cx} {tg : Expr}
theorem pi_seq {l : Expr} {tl : TE} (hl : PE X l tl) : PI X tg l (iSeq X.K tl) := by
  refine ⟨fun pins s σ H R I h => ?_⟩
  refine thn (hl.run pins s σ H _ I h) fun v s1 ⟨x, H1, I1, r1, q1⟩ => ?_
  obtain ⟨a, e, q1⟩ := q1
  subst e
  cases r1
  rcases q1 with ⟨⟨xs, hq⟩, q⟩ | ⟨⟨xs, hq⟩, q⟩
  · obtain ⟨its, rv, p, hz⟩ := I1.list hq
    refine wpAny_pyIter_list p.isList ?_
    refine ⟨s1.heap.objs.size, [s1.heap.objs.size], _, _, H1, rfl, I1.kept (t' := s1.toks) fun b o e => Heap.get?_push_of_some _ e, turn_list a _, ⟨_, Heap.get?_push_size _ rfl, rfl, rfl⟩, fun b hb => ?_, q⟩
    have e : b = s1.heap.objs.size := by simpa using hb
    subst e
    exact I1.fpOk (Nat.le_refl _) (I1.hok.fresh (Nat.le_refl _))
  · obtain ⟨its, rv, p, hz⟩ := I1.tuple hq
    refine wpAny_pyIter_tuple (show s1.heap.IsTuple a its.toArray from p) ?_
    refine ⟨s1.heap.objs.size, [s1.heap.objs.size], _, _, H1, rfl, I1.kept (t' := s1.toks) fun b o e => Heap.get?_push_of_some _ e, turn_tuple a _, ⟨_, Heap.get?_push_size _ rfl, rfl, rfl⟩, fun b hb => ?_, q⟩
    have e : b = s1.heap.objs.size := by simpa using hb
    subst e
    exact I1.fpOk (Nat.le_refl _) (I1.hok.fresh (Nat.le_refl _))
end
section
variable {K : PySem.W.Frag} {E : St → XK} {ta : TE} {a : Sl → Mo Da} {tA : TA} {al : Sl → Mo (List Da)} {w : Wd}
theorem it_list {p : Addr} {vs : List V} {s : Src} (hs : ∀ w', ExtW w w' → Em K w' → chk s.o s.xs w'.st = true → ∃ vs, SqL K w'.H p vs ∧ RepL K w' vs s.xs) : ItOk K w (Itl K p) s := fun w' x m c => by
  obtain ⟨us, hq, r⟩ := hs w' x m c
  refine ⟨fun i d hd => ?_, ⟨us, hq, by rw [r.length]; exact Nat.le_refl _⟩⟩
  obtain ⟨v, hv, rv⟩ := r.get hd
  refine ⟨⟨us, v, hq, hv⟩, fun u H' hy => ⟨w', hy.1.symm, rfl, rfl, Ext.refl _, m, ?_⟩⟩
  have := hy.2 us hq
  rw [hv] at this
  cases this
  exact rv
theorem it_tup {p : Addr} {vs : List V} {s : Src} (hs : ∀ w', ExtW w w' → Em K w' → chk s.o s.xs w'.st = true → ∃ vs, SqT K w'.H p vs ∧ RepL K w' vs s.xs) : ItOk K w (Itt K p) s := fun w' x m c => by
  obtain ⟨us, hq, r⟩ := hs w' x m c
  refine ⟨fun i d hd => ?_, ⟨us, hq, by rw [r.length]; exact Nat.le_refl _⟩⟩
  obtain ⟨v, hv, rv⟩ := r.get hd
  refine ⟨⟨us, v, hq, hv⟩, fun u H' hy => ⟨w', hy.1.symm, rfl, rfl, Ext.refl _, m, ?_⟩⟩
  have := hy.2 us hq
  rw [hv] at this
  cases this
  exact rv
theorem si_v (ha : SE K E ta a) : SI K E (iSeq K ta) (iV a) := fun w ro σ R e h =>
  ha w ro σ _ e (h.bind.mono (fun d w1 x1 p1 m1 k v rv => by
    unfold srcV at k
    cases rv with
    | @lst p vs ds h1 n1 r1 =>
      exact ⟨_, rfl, .inl ⟨⟨vs, SqL.of h1⟩, k.here m1 _ (it_list (vs := vs) fun w' x m _ => ⟨vs, SqL.of (x.keep _ _ h1 n1).1, r1.monoW m1 x⟩)⟩⟩
    | @tup p vs ds h1 r1 =>
      exact ⟨_, rfl, .inr ⟨⟨vs, h1⟩, k.here m1 _ (it_tup (vs := vs) fun w' x m _ => ⟨vs, sqT_monoW m1 x h1, r1.monoW m1 x⟩)⟩⟩
    | @fro p vs ds h1 r1 =>
      refine ⟨_, rfl, .inl ⟨⟨vs, h1.sq⟩, k.here m1 _ (it_list (vs := vs) fun w' x m _ => ⟨vs, ?_, r1.monoW m1 x⟩)⟩⟩
      rcases h1 with ⟨o, h1⟩ | h1
      · exact .inl (.inr ⟨o, (x.keep _ _ h1 (m1.noFrz h1)).1⟩)
      · exact .inr h1
    | @han p n hp =>
      dsimp only at k
      split at k
      · rename_i xs hx
        obtain ⟨vs, hH, r⟩ := m1.cell n p _ hp hx
        refine ⟨_, rfl, .inl ⟨⟨vs, SqL.of hH⟩, k.here m1 _ (it_list (vs := vs) fun w' x m c => ?_)⟩⟩
        have hp' := x.at hp
        unfold chk at c
        dsimp only at c
        split at c
        · rename_i ys hy
          have e := beqL_eq _ _ c
          subst e
          obtain ⟨us, hH', r'⟩ := m.cell n p _ hp' hy
          exact ⟨us, SqL.of hH', r'⟩
        · cases c
      · exact k.elim
    | non => exact k.elim
    | bl b => exact k.elim
    | int i => exact k.elim
    | str s => exact k.elim) fun _ _ _ z => z)
theorem rng_get {lo : Int} {n i : Nat} {x : Da} (h : (rngL lo n)[i]? = some x) : i < n ∧ x = .int (lo + i) := by
  unfold rngL at h
  rw [List.getElem?_map] at h
  by_cases hi : i < n
  · rw [List.getElem?_range hi] at h
    cases h
    exact ⟨hi, rfl⟩
  · rw [List.getElem?_eq_none (by simpa using hi)] at h
    cases h
theorem it_rng {lo : Int} {n : Nat} : ItOk K w (Itr lo n) ⟨rngL lo n, none⟩ := fun w' x m c => by
  refine ⟨fun i d hd => ?_, ?_⟩
  · obtain ⟨hi, rfl⟩ := rng_get hd
    exact ⟨hi, fun v H' hy => ⟨w', hy.1.symm, rfl, rfl, Ext.refl _, m, by rw [hy.2]; exact .int _⟩⟩
  · show n ≤ (rngL lo n).length
    unfold rngL
    simp
theorem si_r1 (ha : SA K E tA al) : SI K E (iRng1 tA) (iR1 al) := fun w ro σ R e h =>
  ha w ro σ _ e (h.bind.mono (fun ds w1 x1 p1 m1 k vs rv => by
    unfold srcR1 at k
    split at k
    · rename_i j
      split at k
      · rename_i hb
        cases rv with
        | cons r1 r2 =>
          cases r2
          cases r1
          exact ⟨j, rfl, hb.1, hb.2, k.here m1 _ it_rng⟩
      · exact k.elim
    · exact k.elim) fun _ _ _ z => z)
theorem si_r2 (ha : SA K E tA al) : SI K E (iRng2 tA) (iR2 al) := fun w ro σ R e h =>
  ha w ro σ _ e (h.bind.mono (fun ds w1 x1 p1 m1 k vs rv => by
    unfold srcR2 at k
    split at k
    · rename_i i j
      split at k
      · rename_i hb
        cases rv with
        | cons r1 r2 =>
          cases r2 with
          | cons r2 r3 =>
            cases r3
            cases r1
            cases r2
            exact ⟨i, j, rfl, ⟨hb.1.1, hb.1.2, hb.2.1, hb.2.2⟩, k.here m1 _ it_rng⟩
      · exact k.elim
    · exact k.elim) fun _ _ _ z => z)
end
/-! ### statements -/
def mNil : Sl → Mo Fl := fun ro => ret (.nx ro)
def mSeq (a b : Sl → Mo Fl) : Sl → Mo Fl := fun ro => bnd (a ro) fun f => match f with
  | .nx ro' => b ro'
  | f => ret f
def mSet (i : Nat) (a : Sl → Mo Da) : Sl → Mo Fl := fun ro => bnd (a ro) fun d => ret (.nx (ro.set i (some d)))
def mTgt (t : Tg) (a : Sl → Mo Da) : Sl → Mo Fl := fun ro => bnd (a ro) fun d => match t d ro with
  | some ro' => ret (.nx ro')
  | none => nop
def mPar (i j : Nat) (a : Sl → Mo (List Da)) : Sl → Mo Fl := fun ro => bnd (a ro) fun ds => match ds with
  | [d, e] => ret (.nx ((ro.set i (some d)).set j (some e)))
  | _ => nop
def mRet (a : Sl → Mo Da) : Sl → Mo Fl := fun ro => bnd (a ro) fun d => ret (.rt d)
def mRetN : Sl → Mo Fl := fun ro => ret (.rt .non)
def mExpr (a : Sl → Mo Da) : Sl → Mo Fl := fun ro => bnd (a ro) fun _ => ret (.nx ro)
def mIf (t : Sl → Mo Bool) (a b : Sl → Mo Fl) : Sl → Mo Fl := fun ro => bnd (t ro) fun c => if c = true then a ro else b ro
def mBrk : Sl → Mo Fl := fun ro => ret (.bk ro)
def mCnt : Sl → Mo Fl := fun ro => ret (.ct ro)
def mNever : Sl → Mo Fl := fun _ => nop
def mSetI (v o i : Sl → Mo Da) : Sl → Mo Fl := fun ro => bnd (v ro) fun x => bnd (o ro) fun d => bnd (i ro) fun k => bnd (setD d k x) fun _ => ret (.nx ro)
def mAug (i : Nat) (f : Int → Int → Int) (a : Sl → Mo Da) : Sl → Mo Fl := fun ro => bnd (eVar i ro) fun x => bnd (a ro) fun y => match x, y with
  | .int p, .int q => ret (.nx (ro.set i (some (.int (f p q)))))
  | _, _ => nop
def loopK (go : Sl → Mo Fl) (f : Fl) : Mo Fl := match f with
  | .nx ro => go ro
  | .ct ro => go ro
  | .bk ro => ret (.nx ro)
  | .rt d => ret (.rt d)
def forGo (o : Option Nat) (all : List Da) (t : Tg) (body : Sl → Mo Fl) : List Da → Sl → Mo Fl
  | [], ro => fun st => if chk o all st = true then .ok (.nx ro) st else .bad
  | x :: r, ro => fun st => if chk o all st = true then (match t x ro with
    | some ro1 => bnd (body ro1) (loopK (forGo o all t body r)) st
    | none => .bad) else .bad
def mFor (s : Sl → Mo Src) (t : Tg) (body : Sl → Mo Fl) : Sl → Mo Fl := fun ro => bnd (s ro) fun s => forGo s.o s.xs t body s.xs ro
def whileF (t : Sl → Mo Bool) (body : Sl → Mo Fl) : Nat → Sl → Mo Fl
  | 0, _ => nop
  | n + 1, ro => bnd (t ro) fun c => if c = true then bnd (body ro) (loopK (whileF t body n)) else ret (.nx ro)
section
variable {K : PySem.W.Frag} {E : St → XK} {ta tb te tv to ti : TE} {a b v o i' : Sl → Mo Da} {tt : TT} {p : Sl → Mo Bool} {ts tu : TS} {m n : Sl → Mo Fl} {g : TG} {t : Tg} {ws : List Nat} {tA : TA} {al : Sl → Mo (List Da)}
theorem ss_nil : SS K E tNext mNil := fun w ro σ D e h => h.here e.emb σ e
theorem okF_nx {D D' : Ends} {f : Fl} {w : Wd} (h : OkF K D f w) (hn : ∀ ro, f ≠ .nx ro) (h1 : D'.rt = D.rt) (h2 : D'.bk = D.bk) (h3 : D'.ct = D.ct) : OkF K D' f w := by
  cases f with
  | nx ro => exact absurd rfl (hn ro)
  | rt d => show ∀ v, _ → D'.rt v w.H; rw [h1]; exact h
  | bk ro => show ∀ σ, _ → D'.bk σ w.H; rw [h2]; exact h
  | ct ro => show ∀ σ, _ → D'.ct σ w.H; rw [h3]; exact h
theorem ss_seq (h1 : SS K E ts m) (h2 : SS K E tu n) : SS K E (tSeq ts tu) (mSeq m n) := fun w ro σ D e h =>
  h1 w ro σ { D with nx := tu D } e (h.bind.mono (fun f w1 x1 p1 m1 k => by
    cases f with
    | nx ro' => exact fun σ' e' => h2 w1 ro' σ' D e' k
    | rt d => exact Run.here (ok := OkF K D) (a := Fl.rt d) m1 k
    | bk ro' => exact Run.here (ok := OkF K D) (a := Fl.bk ro') m1 k
    | ct ro' => exact Run.here (ok := OkF K D) (a := Fl.ct ro') m1 k) fun _ _ _ z => z)
theorem ss_set {i : Nat} (ha : SE K E ta a) : SS K E (tAsg ta (gName i)) (mSet i a) := fun w ro σ D e h =>
  ha w ro σ _ e (h.bind.mono (fun d w1 x1 p1 m1 k v rv => k.here m1 _ ((e.mono x1 m1).set rv)) fun _ _ _ z => z σ)
theorem ss_tgt (hg : SG K g t ws) (ha : SE K E ta a) : SS K E (tAsg ta g) (mTgt t a) := fun w ro σ D e h =>
  ha w ro σ _ e (h.bind.mono (fun d w1 x1 p1 m1 k v rv => by
    cases q : t d ro with
    | none => rw [q] at k; exact k.elim
    | some ro' =>
      rw [q] at k
      obtain ⟨σ', e', _, kk⟩ := hg w1 v d ro ro' σ (e.mono x1 m1) rv q
      exact kk _ (k.here m1 σ' e')) fun _ _ _ z => z σ)
theorem ss_par {i j : Nat} (ha : SA K E tA al) : SS K E (tPar i j tA) (mPar i j al) := fun w ro σ D e h =>
  ha w ro σ _ e (h.bind.mono (fun ds w1 x1 p1 m1 k vs rv => by
    split at k
    · cases rv with
      | cons r1 r2 =>
        cases r2 with
        | cons r2 r3 =>
          cases r3
          exact ⟨_, _, rfl, k.here m1 _ (((e.mono x1 m1).set r1).set r2)⟩
    · exact k.elim) fun _ _ _ z => z σ)
theorem ss_ret (ha : SE K E ta a) : SS K E (tRet ta) (mRet a) := fun w ro σ D e h =>
  ha w ro σ _ e (h.bind.mono (fun d w1 x1 p1 m1 k v rv => k.here m1 v rv) fun _ _ _ z => z σ)
theorem ss_retN : SS K E tRetN mRetN := fun w ro σ D e h => h.here e.emb _ .non
theorem ss_expr (ha : SE K E ta a) : SS K E (tDrop ta) (mExpr a) := fun w ro σ D e h =>
  ha w ro σ _ e (h.bind.mono (fun d w1 x1 p1 m1 k v rv => k.here m1 σ (e.mono x1 m1)) fun _ _ _ z => z σ)
theorem ss_if (ht : ST K E tt p) (h1 : SS K E ts m) (h2 : SS K E tu n) : SS K E (tIfS tt ts tu) (mIf p m n) := fun w ro σ D e h =>
  ht w ro σ _ e (h.bind.mono (fun c w1 x1 p1 m1 k => by
    cases c with
    | true => rw [if_pos rfl] at k ⊢; exact h1 w1 ro σ D (e.mono x1 m1) k
    | false => rw [if_neg Bool.false_ne_true] at k ⊢; exact h2 w1 ro σ D (e.mono x1 m1) k) fun _ _ _ z => z σ)
theorem ss_brk : SS K E tBreak mBrk := fun w ro σ D e h => h.here e.emb σ e
theorem ss_cnt : SS K E tCont mCnt := fun w ro σ D e h => h.here e.emb σ e
theorem ss_never : SS K E tNever mNever := fun w ro σ D e h => h.elim
theorem ss_setI (hv : SE K E tv v) (ho : SE K E to o) (hi : SE K E ti i') : SS K E (tAsg tv (gSub to ti rSetL)) (mSetI v o i') := fun w ro σ D e h =>
  hv w ro σ _ e (h.bind.mono (fun x w1 x1 p1 m1 k u ru => ho w1 ro σ _ (e.mono x1 m1) (k.bind.mono (fun d w2 x2 p2 m2 k2 u2 ru2 =>
    hi w2 ro σ _ (e.mono (x1.trans x2) m2) (k2.bind.mono (fun kk w3 x3 p3 m3 k3 u3 ru3 =>
      set_run m3 (ru2.mono m2 x3) ru3 (ru.mono m1 (x2.trans x3)) (k3.bind.mono (fun _ w4 x4 p4 m4 k4 => k4.here m4 σ (e.mono (x1.trans (x2.trans (x3.trans x4))) m4)) fun _ _ _ z => z)) fun _ _ _ z => z σ)) fun _ _ _ z => z σ)) fun _ _ _ z => z σ)
theorem ss_aug {i : Nat} {f : Int → Int → Int} (ha : SE K E ta a) : SS K E (tAug i ta (ipI f)) (mAug i f a) := fun w ro σ D e h => by
  have k := h.bind
  unfold eVar at k
  split at k
  · rename_i d hd
    obtain ⟨v, hv, rv⟩ := e.slot i d hd
    refine ⟨v, hv, ha w ro σ _ e ((k.here e.emb).bind.mono (fun y w1 x1 p1 m1 k2 u ru => ?_) fun _ _ _ z => z σ)⟩
    split at k2
    · cases rv; cases ru
      exact ⟨_, _, rfl, rfl, k2.here m1 _ ((e.mono x1 m1).set (.int _))⟩
    · exact k2.elim
  · exact k.elim
theorem loop_ok {D : Ends} {N : St → Hp → Prop} {go : Sl → Mo Fl} {ex : Str → List Da → Wd → Prop} {w : Wd} {f : Fl} (m : Em K w) (h : Run K w (loopK go f w.st) (OkF K D) ex)
    (hN : ∀ ro σ, En K w ro σ → Run K w (go ro w.st) (OkF K D) ex → N σ w.H) : OkF K { D with nx := N, ct := N, bk := D.nx } f w := by
  cases f with
  | nx ro => exact fun σ e => hN ro σ e h
  | ct ro => exact fun σ e => hN ro σ e h
  | bk ro => exact fun σ e => Run.here (ok := OkF K D) (a := Fl.nx ro) m h σ e
  | rt d => exact Run.here (ok := OkF K D) (a := Fl.rt d) m h
theorem ss_for {wi : TI} {s : Sl → Mo Src} (hs : SI K E wi s) (hg : SG K g t ws) (hb : SS K E ts m) : SS K E (tFor wi g ts) (mFor s t m) := fun w ro σ D e h => by
  refine hs w ro σ _ e (h.bind.mono (fun s w1 x1 p1 m1 k J hJ => ?_) fun _ _ _ z => z σ)
  refine ⟨fun i mm σ' H' => ∃ w2 ro2, w2.H = H' ∧ Ext w1 w2 ∧ w2.pv = w1.pv ∧ En K w2 ro2 σ' ∧ i ≤ s.xs.length ∧ mm = s.xs.length - i ∧ Run K w2 (forGo s.o s.xs t m (s.xs.drop i) ro2 w2.st) (OkF K D) (fun c as w' => ∀ σ', XP K (E σ') c as w'),
    ⟨s.xs.length, w1, ro, rfl, Ext.refl _, rfl, e.mono x1 m1, Nat.zero_le _, by omega, by rw [List.drop_zero]; exact k⟩, ?_⟩
  rintro i mm σ2 H2 ⟨w2, ro2, rfl, x2, p2, e2, hi, rfl, k2⟩
  by_cases hlt : i < s.xs.length
  · have hd : s.xs.drop i = s.xs[i] :: s.xs.drop (i + 1) := List.drop_eq_getElem_cons hlt
    rw [hd] at k2
    unfold forGo at k2
    split at k2
    · rename_i hc
      obtain ⟨hgo, hst⟩ := hJ w2 x2.w e2.emb hc
      obtain ⟨g1, g2⟩ := hgo i _ (List.getElem?_eq_getElem hlt)
      cases q : t s.xs[i] ro2 with
      | none => rw [q] at k2; exact k2.elim
      | some ro3 =>
        rw [q] at k2
        refine .inr ⟨g1, fun σ' H' => ∃ w3 ro3, w3.H = H' ∧ Ext w1 w3 ∧ w3.pv = w1.pv ∧ En K w3 ro3 σ' ∧ Run K w3 (forGo s.o s.xs t m (s.xs.drop (i + 1)) ro3 w3.st) (OkF K D) (fun c as w' => ∀ σ', XP K (E σ') c as w'),
          fun σ' H' ⟨w3, r3, h1, h2, h3, h4, h5⟩ => ⟨s.xs.length - (i + 1), by omega, w3, r3, h1, h2, h3, h4, hlt, rfl, h5⟩, fun v H' hy => ?_⟩
        obtain ⟨w3, rfl, es, ep, x3, m3, rv⟩ := g2 v H' hy
        obtain ⟨σ3, e3, _, kk⟩ := hg w3 v _ ro2 ro3 σ2 (e2.mono x3 m3) rv q
        refine kk _ (hb w3 ro3 σ3 _ e3 ?_)
        have k3 : Run K w3 (bnd (m ro3) (loopK (forGo s.o s.xs t m (s.xs.drop (i + 1)))) w3.st) (OkF K D) (fun c as w' => ∀ σ', XP K (E σ') c as w') := by
          rw [es]
          exact k2.ext x3 ep
        refine k3.bind.mono (fun f w4 x4 p4 m4 k4 => loop_ok m4 k4 fun ro5 σ5 e5 k5 => ?_) fun _ _ _ z => z
        exact ⟨w4, ro5, rfl, x2.trans (x3.trans x4), p4.trans (ep.trans p2), e5, k5⟩
    · exact k2.elim
  · have he : i = s.xs.length := by omega
    subst he
    rw [List.drop_length] at k2
    unfold forGo at k2
    split at k2
    · rename_i hc
      obtain ⟨_, hst⟩ := hJ w2 x2.w e2.emb hc
      exact .inl ⟨hst, k2.here e2.emb σ2 e2⟩
    · exact k2.elim
theorem ss_while {fuel : Nat} (ht : ST K E tt p) (hb : SS K E ts m) : SS K E (tWhile tt ts) (whileF p m fuel) := fun w ro σ D e h => by
  refine ⟨fun mm σ' H' => ∃ w2 ro2, w2.H = H' ∧ Ext w w2 ∧ w2.pv = w.pv ∧ En K w2 ro2 σ' ∧ Run K w2 (whileF p m mm ro2 w2.st) (OkF K D) (fun c as w' => ∀ σ', XP K (E σ') c as w'),
    ⟨fuel, w, ro, rfl, Ext.refl _, rfl, e, h⟩, ?_⟩
  rintro mm σ2 H2 ⟨w2, ro2, rfl, x2, p2, e2, k2⟩
  cases mm with
  | zero => exact k2.elim
  | succ mm =>
    unfold whileF at k2
    refine ht w2 ro2 σ2 _ e2 (k2.bind.mono (fun c w3 x3 p3 m3 k3 => ?_) fun _ _ _ z => z σ2)
    cases c with
    | true =>
      rw [if_pos rfl] at k3 ⊢
      refine ⟨fun σ' H' => ∃ w4 ro4, w4.H = H' ∧ Ext w w4 ∧ w4.pv = w.pv ∧ En K w4 ro4 σ' ∧ Run K w4 (whileF p m mm ro4 w4.st) (OkF K D) (fun c as w' => ∀ σ', XP K (E σ') c as w'),
        fun σ' H' hh => ⟨mm, Nat.lt_succ_self _, hh⟩, ?_⟩
      refine hb w3 ro2 σ2 _ (e2.mono x3 m3) (k3.bind.mono (fun f w4 x4 p4 m4 k4 => loop_ok m4 k4 fun ro5 σ5 e5 k5 => ?_) fun _ _ _ z => z)
      exact ⟨w4, ro5, rfl, x2.trans (x3.trans x4), p4.trans (p3.trans p2), e5, k5⟩
    | false =>
      rw [if_neg Bool.false_ne_true] at k3 ⊢
      exact k3.here m3 σ2 (e2.mono x3 m3)
end
end CL
namespace CL
open PySem PySem.Spec L2
/-! ### comprehensions -/
def noX {A : Type} (m : Mo A) : Mo A := fun st => match m st with
  | .ok a st' => .ok a st'
  | _ => .bad
def wipeS (ro : Sl) : List Nat → Sl
  | [] => ro
  | v :: vs => (wipeS ro vs).set v none
def compGo (o : Option Nat) (all : List Da) (t : Tg) (p : Sl → Mo Bool) (e : Sl → Mo Da) (ro : Sl) : List Da → List Da → Mo (List Da)
  | [], acc => fun st => if chk o all st = true then .ok acc st else .bad
  | x :: r, acc => fun st => if chk o all st = true then (match t x ro with
    | some ro1 => bnd (noX (p ro1)) (fun c => if c = true then bnd (noX (e ro1)) (fun y => if acc.length < szD then compGo o all t p e ro r (acc ++ [y]) else nop) else compGo o all t p e ro r acc) st
    | none => .bad) else .bad
def lComp (s : Sl → Mo Src) (t : Tg) (p : Sl → Mo Bool) (e : Sl → Mo Da) (vs : List Nat) : Sl → Mo (List Da) := fun ro => bnd (s ro) fun s => compGo s.o s.xs t p e (wipeS ro vs) s.xs []
theorem wipe_out {σ : St} {i : Nat} : ∀ {vs : List Nat}, i ∉ vs → (wipe σ vs)[i]? = σ[i]?
  | [], _ => rfl
  | v :: vs, h => by
    unfold wipe
    rw [List.getElem?_set_ne fun z => h (by simp [z])]
    exact wipe_out fun z => h (List.mem_cons_of_mem _ z)
theorem wipe_in {σ : St} {i : Nat} : ∀ {vs : List Nat}, i ∈ vs → (wipe σ vs)[i]? = if i < σ.length then some none else none
  | [], h => by cases h
  | v :: vs, h => by
    unfold wipe
    by_cases e : v = i
    · subst e
      rw [List.getElem?_set, if_pos rfl, wipe_length]
    · rw [List.getElem?_set_ne e]
      rcases List.mem_cons.mp h with z | z
      · exact absurd z.symm e
      · exact wipe_in z
theorem wipe_eq {σ τ : St} {vs : List Nat} (hl : τ.length = σ.length) (h : ∀ i : Nat, i ∉ vs → τ[i]? = σ[i]?) : wipe τ vs = wipe σ vs := by
  refine List.ext_getElem? fun i => ?_
  by_cases hi : i ∈ vs
  · rw [wipe_in hi, wipe_in hi, hl]
  · rw [wipe_out hi, wipe_out hi, h i hi]
theorem wipeS_some {ro : Sl} {i : Nat} {d : Da} : ∀ {vs : List Nat}, (wipeS ro vs)[i]? = some (some d) → ro[i]? = some (some d) ∧ i ∉ vs
  | [], h => ⟨h, by simp⟩
  | v :: vs, h => by
    unfold wipeS at h
    by_cases e : v = i
    · subst e
      rw [List.getElem?_set, if_pos rfl] at h
      split at h <;> cases h
    · rw [List.getElem?_set_ne e] at h
      obtain ⟨h1, h2⟩ := wipeS_some h
      exact ⟨h1, fun z => by
        rcases List.mem_cons.mp z with z | z
        · exact e z.symm
        · exact h2 z⟩
theorem wipeS_length (ro : Sl) : ∀ vs : List Nat, (wipeS ro vs).length = ro.length
  | [] => rfl
  | v :: vs => by unfold wipeS; rw [List.length_set, wipeS_length ro vs]
section
variable {K : PySem.W.Frag} {E E' : St → XK}
theorem En.wipe {w : Wd} {ro : Sl} {σ : St} (e : En K w ro σ) (vs : List Nat) : En K w (wipeS ro vs) (wipe σ vs) := by
  refine ⟨e.emb, by rw [wipe_length, wipeS_length]; exact e.len, fun i d h => ?_⟩
  obtain ⟨h1, h2⟩ := wipeS_some h
  obtain ⟨v, h3, h4⟩ := e.slot i d h1
  exact ⟨v, by rw [wipe_out h2]; exact h3, h4⟩
theorem run_noX {A B : Type} {w1 w2 : Wd} {m : Mo A} {f : A → Mo B} {ok : B → Wd → Prop} {ex ex' : Str → List Da → Wd → Prop} (h : Run K w1 (bnd (noX m) f w2.st) ok ex) :
    Run K w2 (m w2.st) (fun a w3 => Run K w1 (f a w3.st) ok ex) ex' := by
  unfold bnd noX at h
  cases q : m w2.st with
  | ok a st => rw [q] at h; exact fun io H x e => h
  | exc c as st => rw [q] at h; exact h.elim
  | bad => rw [q] at h; exact h.elim
theorem sl_comp {wi : TI} {s : Sl → Mo Src} {g : TG} {t : Tg} {ws vs : List Nat} {tt : TT} {p : Sl → Mo Bool} {te : TE} {m : Sl → Mo Da} (hs : SI K E wi s) (hg : SG K g t ws) (hw : ∀ i ∈ ws, i ∈ vs) (ht : ST K E' tt p) (he : SE K E' te m) :
    SL K E (tLc wi g tt te vs) (lComp s t p m vs) := fun w ro σ Q en h => by
  refine hs w ro σ _ en (h.bind.mono (fun s w1 x1 p1 m1 k J hJ D hD => ?_) fun _ _ _ z => z)
  have hDp : D ∉ w1.pv := m1.freshP hD
  refine ⟨fun i mm H' => ∃ w2 us acc, w2.H = H' ∧ Ext w1 w2 ∧ w2.pv = D :: w1.pv ∧ Em K w2 ∧ w2.H D = some (.lst us) ∧ RepL K w2 us acc ∧ i ≤ s.xs.length ∧ mm = s.xs.length - i ∧ Run K w1 (compGo s.o s.xs t p m (wipeS ro vs) (s.xs.drop i) acc w2.st) (OkL K Q) (XP K (E σ)),
    ⟨s.xs.length, w1.hid D [], [], [], rfl, Ext.hid m1 hD, rfl, m1.hid hD, upd_same, .nil, Nat.zero_le _, by omega, by rw [List.drop_zero]; exact k⟩, ?_⟩
  rintro i mm H2 ⟨w2, us, acc, rfl, x2, p2, m2, hHD, ru, hi, rfl, k2⟩
  by_cases hlt : i < s.xs.length
  · have hd : s.xs.drop i = s.xs[i] :: s.xs.drop (i + 1) := List.drop_eq_getElem_cons hlt
    rw [hd] at k2
    unfold compGo at k2
    split at k2
    · rename_i hc
      obtain ⟨hgo, hst⟩ := hJ w2 x2.w m2 hc
      obtain ⟨g1, g2⟩ := hgo i _ (List.getElem?_eq_getElem hlt)
      cases q : t s.xs[i] (wipeS ro vs) with
      | none => rw [q] at k2; exact k2.elim
      | some ro1 =>
        rw [q] at k2
        refine .inr ⟨g1, fun H' => ∃ w3 us acc, w3.H = H' ∧ Ext w1 w3 ∧ w3.pv = D :: w1.pv ∧ Em K w3 ∧ w3.H D = some (.lst us) ∧ RepL K w3 us acc ∧ Run K w1 (compGo s.o s.xs t p m (wipeS ro vs) (s.xs.drop (i + 1)) acc w3.st) (OkL K Q) (XP K (E σ)),
          fun H' ⟨w3, us, acc, h1, h2, h3, h4, h5, h6, h7⟩ => ⟨s.xs.length - (i + 1), by omega, w3, us, acc, h1, h2, h3, h4, h5, h6, hlt, rfl, h7⟩, fun v H' hy => ?_⟩
        obtain ⟨w3, rfl, es, ep, x3, m3, rv⟩ := g2 v H' hy
        have en3 : En K w3 (wipeS ro vs) (wipe σ vs) := (en.mono (x1.trans (x2.trans x3)) m3).wipe vs
        obtain ⟨σ3, e3, so, kk⟩ := hg w3 v _ (wipeS ro vs) ro1 (wipe σ vs) en3 rv q
        refine kk _ ⟨wipe_eq (by rw [so.1, wipe_length]) fun j hj => ?_, ?_⟩
        · rw [so.2 j fun z => hj (hw j z), wipe_out hj]
        · rw [← es] at k2
          refine ht w3 ro1 σ3 _ e3 ((run_noX k2).mono (fun c w4 x4 p4 m4 k4 => ?_) fun _ _ _ z => z)
          have pD : D ∈ w2.pv := by rw [p2]; exact List.mem_cons_self
          cases c with
          | true =>
            rw [if_pos rfl] at k4 ⊢
            refine he w4 ro1 σ3 _ (e3.mono x4 m4) ((run_noX k4).mono (fun y w5 x5 p5 m5 k5 v5 rv5 => ?_) fun _ _ _ z => z)
            have x25 : Ext w2 w5 := x3.trans (x4.trans x5)
            obtain ⟨pD5, hD5⟩ := x25.pvk D pD
            have hD5' : w5.H D = some (.lst us) := hD5.trans hHD
            split at k5
            · rename_i hl
              have ru5 := ru.mono m2 x25
              refine ⟨us, hD5', by rw [ru.length]; exact szD_lt hl, w5.grow D (us ++ [v5]), us ++ [v5], acc ++ [y], rfl, (x2.trans x25).thenGrow m5 pD5 hD hDp, ?_, m5.grow pD5, upd_same, ?_, k5⟩
              · show w5.pv = D :: w1.pv
                rw [p5, p4, ep, p2]
              · exact (ru5.append (.cons rv5 .nil)).monoP m5 (ExtP.grow m5 pD5)
            · exact k5.elim
          | false =>
            rw [if_neg Bool.false_ne_true] at k4 ⊢
            have x24 : Ext w2 w4 := x3.trans x4
            obtain ⟨pD4, hD4⟩ := x24.pvk D pD
            exact ⟨w4, us, acc, rfl, x2.trans x24, by rw [p4, ep, p2], m4, hD4.trans hHD, ru.mono m2 x24, k4⟩
    · exact k2.elim
  · have hE : i = s.xs.length := by omega
    subst hE
    rw [List.drop_length] at k2
    unfold compGo at k2
    split at k2
    · rename_i hc
      obtain ⟨_, hst⟩ := hJ w2 x2.w m2 hc
      refine .inl ⟨hst, ?_⟩
      have z := Run.at (w' := w2.del D w1.pv) k2 (x2.del p2 hD hDp) (m2.del p2 hHD hDp) rfl rfl D us del_same (ru.del p2 hHD)
      rw [show upd (w2.del D w1.pv).H D (.lst us) = w2.H from upd_del hHD] at z
      exact z
    · exact k2.elim
end
/-! ### defs -/
def ar {A : Type} (n : Nat) (f : List Da → Mo A) : List Da → Mo A := fun ds => if ds.length = n then f ds else nop
/-- a def's promise by its mirror -/
def SpOf (K : PySem.W.Frag) (n : Nat) (f : List Da → Mo Da) : Sp := fun vs H Q E => ∃ (w : Wd) (ds : List Da), w.H = H ∧ Em K w ∧ RepL K w vs ds ∧ vs.length = n ∧ Run K w (f ds w.st) (OkV K Q) (XP K E)
def startS (n : Nat) (ds : List Da) : Sl := ds.map some ++ List.replicate (n - ds.length) none
def fnE (f : Fl) : Mo Da := match f with
  | .nx _ => ret .non
  | .rt d => ret d
  | _ => nop
/-- the mirror of a def of so many slots by its body's -/
def fnM (n : Nat) (m : Sl → Mo Fl) : List Da → Mo Da := fun ds => bnd (m (startS n ds)) fnE
section
variable {K : PySem.W.Frag} {E : St → XK}
theorem spOf_of {n : Nat} {f : List Da → Mo Da} {w : Wd} {vs : List V} {ds : List Da} {Q : VK} {E : XK} (m : Em K w) (r : RepL K w vs ds) (h : Run K w (ar n f ds w.st) (OkV K Q) (XP K E)) : SpOf K n f vs w.H Q E := by
  unfold ar at h
  split at h
  · rename_i hl
    exact ⟨w, ds, rfl, m, r, r.length.trans hl, h⟩
  · exact h.elim
theorem s_call {n : Nat} {f : List Da → Mo Da} {tA : TA} {al : Sl → Mo (List Da)} {dvs : List V} {dds : List Da} (hd : ∀ w, Em K w → RepL K w dvs dds) (ha : SA K E tA al) : SE K E (tCallSD (SpOf K n f) dvs E tA) (eCall (fun ds => ar n f (ds ++ dds)) al) := fun w ro σ Q e h =>
  ha w ro σ _ e (h.bind.mono (fun ds w1 x1 p1 m1 k vs rv => spOf_of m1 (rv.append (hd w1 m1)) k) fun _ _ _ z => z)
theorem start_slot : ∀ {vs : List V} {ds : List Da} {w : Wd}, RepL K w vs ds → ∀ (n i : Nat) (d : Da), (ds.map some ++ List.replicate n none)[i]? = some (some d) → ∃ v, (vs.map some ++ List.replicate n none)[i]? = some (some v) ∧ Rep K w v d
  | _, _, w, .nil, n, i, d, h => by
    simp only [List.map_nil, List.nil_append] at h
    rw [List.getElem?_replicate] at h
    split at h <;> cases h
  | _, _, w, .cons r t, n, 0, d, h => by
    simp at h
    subst h
    exact ⟨_, rfl, r⟩
  | _, _, w, .cons r t, n, i + 1, d, h => by
    obtain ⟨v, h1, h2⟩ := start_slot t n i d (by simpa using h)
    exact ⟨v, by simpa using h1, h2⟩
theorem en_start {w : Wd} {vs : List V} {ds : List Da} (m : Em K w) (r : RepL K w vs ds) (N : List Str) : En K w (startS N.length ds) (L2.start N vs) := by
  refine ⟨m, ?_, fun i d h => ?_⟩
  · unfold L2.start startS
    simp [r.length]
  · unfold startS at h
    unfold L2.start
    rw [r.length]
    exact start_slot r _ i d h
theorem body_run {w : Wd} {N : List Str} {ts : TS} {m : Sl → Mo Fl} {vs : List V} {ds : List Da} {Q : VK} {E0 : XK} (hs : SS K (fun _ => E0) ts m) (em : Em K w) (r : RepL K w vs ds) (h : Run K w (fnM N.length m ds w.st) (OkV K Q) (XP K E0)) :
    ts { nx := fun _ H' => Q .non H', rt := Q } (L2.start N vs) w.H :=
  hs w _ _ _ (en_start em r N) (h.bind.mono (fun f w1 x1 p1 m1 k => by
    cases f with
    | nx ro => exact fun σ e => Run.here (ok := OkV K Q) (a := Da.non) m1 k _ .non
    | rt d => exact Run.here (ok := OkV K Q) (a := d) m1 k
    | bk ro => exact k.elim
    | ct ro => exact k.elim) fun _ _ _ z _ => z)
/-- a def keeps its mirror -/
theorem ok_of {P : Program} {wd : World} {mg : Str → Option Value} {base : Heap} {x qual : Str} {params : Arguments} {body : List Stmt} {scope : Scope} {dvs : List V} {kws : List (Str × V)} {f : Addr} {fd : FuncData} {N ps : List Str} {k n : Nat} {m : Sl → Mo Fl} {nN : Nat}
    (F : FunD K x qual params body scope dvs kws f fd) (S : FnScope N ps scope) (hn : ps.length = n) (hN : N.length = nN)
    (hb : ∀ (cdv : Value) (A : Around) (outer : List Env) (s : Shared) (H : Hp) (E : XK), Room k (A.deeper (PyProof.Rows.envOfC qual scope s.heap.objs.size f cdv)) →
      ∃ t, PSs (cxOf (L2.CX P wd) P wd K mg base N qual scope f cdv A outer s H E) body t ∧ SS K (fun _ => E) t m) :
    FnOk P wd K mg base (L2.CX P wd) (k + 1) f fd ps (SpOf K n (fnM nN m)) := by
  subst hn hN
  refine F.ok S (fun vs H Q E h => ?_) (fun cdv A outer s H vs Q E hr h => ?_)
  · obtain ⟨w, ds, _, _, _, hl, _⟩ := h
    exact hl
  · obtain ⟨w, ds, rfl, em, r, hl, k⟩ := h
    obtain ⟨t, ht, hs⟩ := hb cdv A outer s w.H E hr
    exact ⟨t, ht, body_run hs em r k⟩
end
end CL
namespace CL
open PySem PySem.Spec L2
structure QE (X : Cx) (E : St → XK) (e : Expr) (te : TE) (m : Sl → Mo Da) : Prop where
  pe : PE X e te
  se : SE X.K E te m
structure QT (X : Cx) (E : St → XK) (e : Expr) (tt : TT) (m : Sl → Mo Bool) : Prop where
  pt : PT X e tt
  st : ST X.K E tt m
structure QW (X : Cx) (E : St → XK) (e : Expr) (tt : TT) (m : Sl → Mo Bool) : Prop where
  pw : PW X e tt
  st : ST X.K E tt m
structure QA (X : Cx) (E : St → XK) (es : List Expr) (ta : TA) (m : Sl → Mo (List Da)) : Prop where
  pa : PA X es ta
  sa : SA X.K E ta m
structure QL (X : Cx) (E : St → XK) (e : Expr) (te : TE) (m : Sl → Mo (List Da)) : Prop where
  pe : PE X e te
  sl : SL X.K E te m
structure QI (X : Cx) (E : St → XK) (tg iter : Expr) (wi : TI) (m : Sl → Mo Src) : Prop where
  pi : PI X tg iter wi
  si : SI X.K E wi m
structure QG (X : Cx) (tg : Expr) (g : TG) (t : Tg) (ws : List Nat) : Prop where
  pg : PG X tg g
  sg : SG X.K g t ws
structure QGs (X : Cx) (tg : List Expr) (g : TGs) (t : Tgs) (ws : List Nat) : Prop where
  pg : PGs X tg g
  sg : SGs X.K g t ws
structure QS (X : Cx) (E : St → XK) (s : Stmt) (ts : TS) (m : Sl → Mo Fl) : Prop where
  ps : PS X s ts
  ss : SS X.K E ts m
structure QB (X : Cx) (E : St → XK) (s : List Stmt) (ts : TS) (m : Sl → Mo Fl) : Prop where
  ps : PSs X s ts
  ss : SS X.K E ts m
structure QP (X : Cx) (E : St → XK) (e : Option Expr) (to : TO) (m : Sl → Mo (Option Int)) : Prop where
  po : PO X e to
  so : ∀ (w : Wd) (ro : Sl) (σ : St) (Q : Option Int → Hp → Prop), En X.K w ro σ → Run X.K w (m ro w.st) (fun o w' => Q o w'.H) (XP X.K (E σ)) → to σ w.H Q
/-- a def that can be called by its name -/
structure Cal (P : Program) (wd : World) (K : PySem.W.Frag) (mg : Str → Option Value) (base : Heap) (k : Nat) (x : Str) (n : Nat) (f : List Da → Mo Da) (dvs : List V) : Prop where
  ex : ∃ (q : Addr) (fd : FuncData) (ps : List Str) (ds : List Value), mg x = some (.ref q) ∧ PySem.W.keepIn K (.ref q) = true ∧ Binds K fd ps ds ∧ Vals dvs ds ∧ FnOk P wd K mg base (L2.CX P wd) k q fd ps (SpOf K n f)
def noP : Sl → Mo (Option Int) := fun _ => ret none
def soP (a : Sl → Mo Da) : Sl → Mo (Option Int) := fun ro => bnd (a ro) fun d => match d with
  | .int i => ret (some i)
  | _ => nop
def eSl (f : Da → Option Int → Option Int → Mo Da) (a : Sl → Mo Da) (lo hi : Sl → Mo (Option Int)) : Sl → Mo Da := fun ro => bnd (a ro) fun d => bnd (lo ro) fun l => bnd (hi ro) fun h => f d l h
def lSl (a : Sl → Mo Da) (lo hi : Sl → Mo (Option Int)) : Sl → Mo (List Da) := fun ro => bnd (a ro) fun d => bnd (lo ro) fun l => bnd (hi ro) fun h => slL d l h
def l2 (f : Da → Da → Mo (List Da)) (a b : Sl → Mo Da) : Sl → Mo (List Da) := fun ro => bnd (a ro) fun x => bnd (b ro) fun y => f x y
def lCall (f : List Da → Mo (List Da)) (a : Sl → Mo (List Da)) : Sl → Mo (List Da) := fun ro => bnd (a ro) f
section
variable {X : Cx} {E : St → XK} {a b c e : Expr} {es rest : List Expr} {ta tb tc te : TE} {tt tu : TT} {tA : TA} {ma mb mc : Sl → Mo Da} {mp mq : Sl → Mo Bool} {al : Sl → Mo (List Da)} {pos p2 : Pos} {r r' : R2} {f g : Da → Da → Mo Da}
theorem q_var (i : Nat) {x : Str} (hN : X.N[i]? = some x := by rfl) (hv : Vis X.env.scope x := by first | exact Or.inl rfl | exact Or.inr (Or.inl rfl) | exact Or.inr (Or.inr rfl)) (hd : (x == ("__debug__" : Str)) = false := by decide)
    (hcd : (x == ("__classdict__" : Str)) = false := by decide) : QE X E (.Name x pos) (tVar i) (eVar i) := ⟨pe_var hN hv hd hcd, s_var⟩
theorem q_int {i : Int} {j} : QE X E (.Constant (.int i) j pos) (tC (.int i)) (eC (.int i)) := ⟨pe_int, s_c fun _ _ => .int i⟩
theorem q_bl {i : Bool} {j} : QE X E (.Constant (.bool i) j pos) (tC (.bl i)) (eC (.bl i)) := ⟨pe_bl, s_c fun _ _ => .bl i⟩
theorem q_str {i : Str} {j} : QE X E (.Constant (.str i) j pos) (tC (.str i)) (eC (.str i)) := ⟨pe_str, s_c fun _ _ => .str i⟩
theorem q_non {j} : QE X E (.Constant .none j pos) (tC .non) (eC .non) := ⟨pe_non, s_c fun _ _ => .non⟩
/-- a constant of the module -/
theorem q_gint {x : Str} {i : Int} (hm : ∃ t, X.mg x = some (.int i t)) (hg : Gl X x := by rfl) (hd : (x == ("__debug__" : Str)) = false := by decide) : QE X E (.Name x pos) (tC (.int i)) (eC (.int i)) :=
  ⟨by obtain ⟨t, h⟩ := hm; exact pe_glob hg h ⟨t, rfl⟩ hd, s_c fun _ _ => .int i⟩
theorem q_gstr {x : Str} {i : Str} (hm : ∃ t, X.mg x = some (.str i t)) (hg : Gl X x := by rfl) (hd : (x == ("__debug__" : Str)) = false := by decide) : QE X E (.Name x pos) (tC (.str i)) (eC (.str i)) :=
  ⟨by obtain ⟨t, h⟩ := hm; exact pe_glob hg h ⟨t, rfl⟩ hd, s_c fun _ _ => .str i⟩
theorem q_gdat {x : Str} {p : Addr} {d : Da} (hm : X.mg x = some (.ref p)) (hr : ∀ w, Em X.K w → Rep X.K w (.ref p) d) (hg : Gl X x := by rfl) (hd : (x == ("__debug__" : Str)) = false := by decide) : QE X E (.Name x pos) (tC (.ref p)) (eC d) :=
  ⟨pe_glob hg hm rfl hd, s_c hr⟩
theorem q_op {op : Operator} (ho : QO X (binaryOp op) r f) (ha : QE X E a ta ma) (hb : QE X E b tb mb) : QE X E (.BinOp a op b pos) (tOp r ta tb) (e2 f ma mb) := ⟨pe_op ho.op ha.pe hb.pe, s_op ho.s2 ha.se hb.se⟩
theorem q_un {op : UnaryOp} {r : V → Hp → VK → Prop} {f : Da → Mo Da} (ho : UnR X (unaryOp op) r) (hs : S1 X.K r f) (ha : QE X E a ta ma) : QE X E (.UnaryOp op a pos) (tUn r ta) (e1 f ma) := ⟨pe_un ho ha.pe, s_un hs ha.se⟩
theorem q_neg (ha : QE X E a ta ma) : QE X E (.UnaryOp .USub a pos) (tUn (rU fun i => .int (-i)) ta) (e1 negD ma) := q_un un_neg (fun w x d Q ex m rx h => by
  unfold negD at h
  split at h
  · cases rx; exact ⟨_, rfl, h.here m _ (.int _)⟩
  · exact h.elim) ha
theorem q_cmp {op : CmpOp} (ho : QO X (compareOp op) r f) (ha : QE X E a ta ma) (hb : QE X E b tb mb) (hm : behindInMarks op b = false := by first | rfl | exact nomark _) : QE X E (.Compare a [op] [b] pos) (tOp r ta tb) (e2 f ma mb) := ⟨pe_cmpR ho.op ha.pe hb.pe hm, s_op ho.s2 ha.se hb.se⟩
theorem q_chain {op op' : CmpOp} (ho : QO X (compareOp op) r f) (ho' : QO X (compareOp op') r' g) (ha : QE X E a ta ma) (hb : QE X E b tb mb) (hc : QE X E c tc mc) (hm : lastMarks [op, op'] [b, c] = false := by with_unfolding_all rfl) : QE X E (.Compare a [op, op'] [b, c] pos) (tChain r r' ta tb tc) (eChain f g ma mb mc) :=
  ⟨pe_chain ho.op ho'.op ha.pe hb.pe hc.pe hm, s_chain ho.s2 ho'.s2 ha.se hb.se hc.se⟩
theorem q_one {op} (h : QE X E a ta ma) : QE X E (.BoolOp op [a] pos) ta ma := ⟨pe_one h.pe, h.se⟩
theorem q_and (ha : QE X E a ta ma) (hb : QE X E (.BoolOp .And (b :: rest) pos) tb mb) : QE X E (.BoolOp .And (a :: b :: rest) pos) (tAndV ta tb) (vAnd ma mb) := ⟨pe_and ha.pe hb.pe, s_vAnd ha.se hb.se⟩
theorem q_or (ha : QE X E a ta ma) (hb : QE X E (.BoolOp .Or (b :: rest) pos) tb mb) : QE X E (.BoolOp .Or (a :: b :: rest) pos) (tOrV ta tb) (vOr ma mb) := ⟨pe_or ha.pe hb.pe, s_vOr ha.se hb.se⟩
theorem q_not (ha : QE X E a ta ma) : QE X E (.UnaryOp .Not a pos) (tNotV ta) (vNot ma) := ⟨pe_not ha.pe, s_vNot ha.se⟩
theorem q_ifx (ht : QT X E c tt mp) (ha : QE X E a ta ma) (hb : QE X E b tb mb) : QE X E (.IfExp c a b pos) (tIf tt ta tb) (eIf mp ma mb) := ⟨pe_ifExp ht.pt ha.pe hb.pe, s_if ht.st ha.se hb.se⟩
/-! tests -/
theorem qt_val (h : QE X E e te ma) (he : ∀ whole, isTrue e X.env whole = (do let v ← whole; standAt e.pos; holding [v] (truthy v)) := by intro _; rfl) : QT X E e (tB te) (tst ma) := ⟨pt_val h.pe he, s_tB h.se⟩
theorem qt_cmp {op : CmpOp} (ho : QO X (compareOp op) r f) (ha : QE X E a ta ma) (hb : QE X E b tb mb) (hm : behindInMarks op b = false := by first | rfl | exact nomark _) : QT X E (.Compare a [op] [b] pos) (tTest (tOp r ta tb)) (tst (e2 f ma mb)) := ⟨pt_cmpR ho.op ha.pe hb.pe hm, s_tst (s_op ho.s2 ha.se hb.se)⟩
theorem qt_chain {op op' : CmpOp} (ho : QO X (compareOp op) r f) (ho' : QO X (compareOp op') r' g) (ha : QE X E a ta ma) (hb : QE X E b tb mb) (hc : QE X E c tc mc) (hm : lastMarks [op, op'] [b, c] = false := by with_unfolding_all rfl) : QT X E (.Compare a [op, op'] [b, c] pos) (tTest (tChain r r' ta tb tc)) (tst (eChain f g ma mb mc)) :=
  ⟨pt_chain ho.op ho'.op ha.pe hb.pe hc.pe hm, s_tst (s_chain ho.s2 ho'.s2 ha.se hb.se hc.se)⟩
theorem qw_and1 (h : QT X E a tt mp) : QW X E (.BoolOp .And [a] pos) tt mp := ⟨pw_and1 h.pt, h.st⟩
theorem qw_or1 (h : QT X E a tt mp) : QW X E (.BoolOp .Or [a] pos) tt mp := ⟨pw_or1 h.pt, h.st⟩
theorem qw_and (h : QT X E a tt mp) (hb : QW X E (.BoolOp .And (b :: rest) pos) tu mq) : QW X E (.BoolOp .And (a :: b :: rest) pos) (tAnd tt tu) (tAnd_ mp mq) := ⟨pw_and h.pt hb.pw, s_and h.st hb.st⟩
theorem qw_or (h : QT X E a tt mp) (hb : QW X E (.BoolOp .Or (b :: rest) pos) tu mq) : QW X E (.BoolOp .Or (a :: b :: rest) pos) (tOr tt tu) (tOr_ mp mq) := ⟨pw_or h.pt hb.pw, s_or h.st hb.st⟩
theorem qt_w (h : QW X E a tt mp) : QT X E a tt mp := ⟨h.pw.pt, h.st⟩
theorem qt_not (h : QT X E a tt mp) : QT X E (.UnaryOp .Not a pos) (tNot tt) (tNot_ mp) := ⟨pt_not h.pt, s_not h.st⟩
/-! arguments, displays -/
theorem qa_nil : QA X E [] tNil aNil := ⟨pa_nil, s_nil⟩
theorem qa_cons (h : QE X E e te ma) (hr : QA X E es tA al) (hs : starEach (e :: es) X.env = (false, eval e X.env) :: starEach es X.env := by rfl) : QA X E (e :: es) (tCons te tA) (aCons ma al) := ⟨pa_cons h.pe hr.pa hs, s_cons h.se hr.sa⟩
theorem q_tup {k} (h : QA X E es tA al) : QE X E (.Tuple es k pos) (tTup tA) (eTup al) := ⟨pe_tup h.pa, s_tup h.sa⟩
theorem ql_disp (h : QA X E es tA al) : QL X E (.List es pos) (tLst tA) (lDisp al) := ⟨pe_lst h.pa, s_lst h.sa⟩
theorem q_L (h : QL X E e te al) : QE X E e te (eL al) := ⟨h.pe, s_L h.sl⟩
theorem q_H (h : QL X E e te al) : QE X E e te (eH al) := ⟨h.pe, s_H h.sl⟩
theorem q_F (h : QE X E e te ma) : QE X E e te (eF ma) := ⟨h.pe, s_F h.se⟩
theorem ql_op {op : Operator} {f : Da → Da → Mo (List Da)} (ho : QOL X (binaryOp op) r f) (ha : QE X E a ta ma) (hb : QE X E b tb mb) : QL X E (.BinOp a op b pos) (tOp r ta tb) (l2 f ma mb) := ⟨pe_op ho.op ha.pe hb.pe, fun w ro σ Q e h =>
  ha.se w ro σ _ e (h.bind.mono (fun d w1 x1 p1 m1 k v rv => hb.se w1 ro σ _ (e.mono x1 m1) (k.bind.mono (fun d2 w2 x2 p2 m2 k2 v2 rv2 =>
    ho.s2 w2 v v2 d d2 Q _ m2 (rv.mono m1 x2) rv2 k2) fun _ _ _ z => z)) fun _ _ _ z => z)⟩
/-! subscripts -/
theorem q_sub1 {K : PySem.W.Frag} (ha : QE X E a ta ma) (hb : QE X E b tb mb) (hs : PlainIx b := by exact fun _ _ => rfl) (hK : X.K = K := by rfl) : QE X E (.Subscript a b pos) (tOp (rIx K) ta tb) (e2 ixD ma mb) := by
  subst hK
  exact ⟨pe_ix q_ix.1 ha.pe hb.pe hs, s_op q_ix.2 ha.se hb.se⟩
theorem qp_none : QP X E none tNoPart noP := ⟨po_none, fun w ro σ Q e h => h.here e.emb⟩
theorem qp_some (h : QE X E e te ma) : QP X E (some e) (tPart te) (soP ma) := ⟨po_some h.pe, fun w ro σ Q en hh => h.se w ro σ _ en (hh.bind.mono (fun d w1 x1 p1 m1 k v rv => by
  split at k
  · cases rv; exact ⟨_, rfl, k.here m1⟩
  · exact k.elim) fun _ _ _ z => z)⟩
theorem q_slice {K : PySem.W.Frag} {lo hi : Option Expr} {tl th : TO} {ml mh : Sl → Mo (Option Int)} (ha : QE X E a ta ma) (hl : QP X E lo tl ml) (hh : QP X E hi th mh) (hK : X.K = K := by rfl) : QE X E (.Subscript a (.Slice lo hi none p2) pos) (tSl (rSlAll K) ta tl th) (eSl slA ma ml mh) := by
  subst hK
  exact ⟨pe_slice q_slA.1 ha.pe hl.po hh.po, fun w ro σ Q e h => ha.se w ro σ _ e (h.bind.mono (fun d w1 x1 p1 m1 k v rv => hl.so w1 ro σ _ (e.mono x1 m1) (k.bind.mono (fun l w2 x2 p2 m2 k2 =>
    hh.so w2 ro σ _ (e.mono (x1.trans x2) m2) (k2.bind.mono (fun u w3 x3 p3 m3 k3 => q_slA.2 w3 v d l u Q _ m3 (rv.mono m1 (x2.trans x3)) k3) fun _ _ _ z => z)) fun _ _ _ z => z)) fun _ _ _ z => z)⟩
theorem ql_slice {K : PySem.W.Frag} {lo hi : Option Expr} {tl th : TO} {ml mh : Sl → Mo (Option Int)} (ha : QE X E a ta ma) (hl : QP X E lo tl ml) (hh : QP X E hi th mh) (hK : X.K = K := by rfl) : QL X E (.Subscript a (.Slice lo hi none p2) pos) (tSl (rSlL K) ta tl th) (lSl ma ml mh) := by
  subst hK
  exact ⟨pe_slice sl_list ha.pe hl.po hh.po, fun w ro σ Q e h => ha.se w ro σ _ e (h.bind.mono (fun d w1 x1 p1 m1 k v rv => hl.so w1 ro σ _ (e.mono x1 m1) (k.bind.mono (fun l w2 x2 p2 m2 k2 =>
    hh.so w2 ro σ _ (e.mono (x1.trans x2) m2) (k2.bind.mono (fun u w3 x3 p3 m3 k3 => by
      unfold slL at k3
      split at k3
      · rename_i xs hx
        obtain ⟨q, vs, rfl, hH, rl⟩ := ls_rep m3 (rv.mono m1 (x2.trans x3)) hx
        exact ⟨q, vs, rfl, SqL.of hH, fun p hp => okL_fresh m3 k3 rfl hp (cut_rep rl l u)⟩
      · exact k3.elim) fun _ _ _ z => z)) fun _ _ _ z => z)) fun _ _ _ z => z)⟩
/-! built-in functions -/
theorem q_cb {x : Str} {id : String} {rr : List V → Hp → VK → Prop} {fm : List Da → Mo Da} {p : Pos} (hc : CallR X (.builtin id) rr) (hs : SC X.K rr fm) (hm : X.mg x = none) (ha : QA X E (e :: es) tA al) (hv : bootBuiltins x = some (.builtin id) := by decide +kernel) (hg : Gl X x := by rfl) (hn : x ≠ "__name__" := by decide) (hdb : (x == ("__debug__" : Str)) = false := by decide)
    (he : starEach (e :: es) X.env = (false, eval e X.env) :: starEach es X.env := by rfl) (hpl : (backTo pos (starEach es X.env)).any (·.1) = false := by rfl) : QE X E (.Call (.Name x p) (e :: es) [] pos) (tCB rr tA) (eCall fm al) :=
  ⟨pe_callB hc hg hm hv ha.pa hn hdb he hpl, s_cb hs ha.sa⟩
theorem q_ct {x : Str} {T : String} {rr : List V → Hp → VK → Prop} {fm : List Da → Mo Da} {p : Pos} (hc : CallR X (.type T) rr) (hs : SC X.K rr fm) (hm : X.mg x = none) (ha : QA X E (e :: es) tA al) (hv : bootBuiltins x = some (.type T) := by decide +kernel) (hg : Gl X x := by rfl) (hn : x ≠ "__name__" := by decide) (hdb : (x == ("__debug__" : Str)) = false := by decide)
    (he : starEach (e :: es) X.env = (false, eval e X.env) :: starEach es X.env := by rfl) (hpl : (backTo pos (starEach es X.env)).any (·.1) = false := by rfl) : QE X E (.Call (.Name x p) (e :: es) [] pos) (tCB rr tA) (eCall fm al) :=
  ⟨pe_callTy hc hg hm hv ha.pa hn hdb he hpl, s_cb hs ha.sa⟩
theorem ql_ct {x : Str} {T : String} {rr : List V → Hp → VK → Prop} {fm : List Da → Mo (List Da)} {p : Pos} (hc : CallR X (.type T) rr) (hs : SCL X.K rr fm) (hm : X.mg x = none) (ha : QA X E (e :: es) tA al) (hv : bootBuiltins x = some (.type T) := by decide +kernel) (hg : Gl X x := by rfl) (hn : x ≠ "__name__" := by decide) (hdb : (x == ("__debug__" : Str)) = false := by decide)
    (he : starEach (e :: es) X.env = (false, eval e X.env) :: starEach es X.env := by rfl) (hpl : (backTo pos (starEach es X.env)).any (·.1) = false := by rfl) : QL X E (.Call (.Name x p) (e :: es) [] pos) (tCB rr tA) (lCall fm al) :=
  ⟨pe_callTy hc hg hm hv ha.pa hn hdb he hpl, fun w ro σ Q e h => ha.sa w ro σ _ e (h.bind.mono (fun ds w1 x1 p1 m1 k vs rvs => hs w1 vs ds Q _ m1 rvs k) fun _ _ _ z => z)⟩
theorem q_isi {K : PySem.W.Frag} {p p3 : Pos} {T : Str} (t : Tn) (hm : X.mg "isinstance" = none) (hT : X.mg T = none) (ha : QE X E a ta ma) (hv : bootBuiltins T = some (.type t.name) := by decide +kernel) (h1 : t ≠ .non := by decide) (h2 : t ≠ .dict := by decide) (hg : Gl X "isinstance" := by rfl) (hgT : Gl X T := by rfl) (hn : T ≠ "__name__" := by decide) (hd : (T == ("__debug__" : Str)) = false := by decide)
    (hs : starEach (a :: [.Name T p3]) X.env = (false, eval a X.env) :: starEach [.Name T p3] X.env := by rfl) (hs2 : starEach (.Name T p3 :: []) X.env = (false, eval (.Name T p3) X.env) :: starEach [] X.env := by rfl) (hpl : (backTo pos (starEach [.Name T p3] X.env)).any (·.1) = false := by rfl) (hK : X.K = K := by rfl) :
    QE X E (.Call (.Name "isinstance" p) [a, .Name T p3] [] pos) (tCB (rIsi K) (tCons ta (tCons (tC (.ty t.name)) tNil))) (e1 (isT t) ma) := by
  subst hK
  exact ⟨pe_callB call_isi hg hm (by decide +kernel) (pa_cons ha.pe (pa_cons (pe_bltn hgT hT hv rfl hn hd) pa_nil hs2) hs) (by decide) (by decide) hs hpl, fun w ro σ Q e h =>
    ha.se w ro σ _ e (h.bind.mono (fun d w1 x1 p1 m1 k v rv => sc_isT h1 h2 w1 v d Q _ m1 rv k) fun _ _ _ z => z)⟩
/-! methods of lists -/
theorem q_app {K : PySem.W.Frag} {apos : Pos} (ha : QE X E a ta ma) (hb : QE X E b tb mb) (hbase : attributeBase a "append" X.env (eval a X.env) = eval a X.env := by rfl)
    (hfew : ((backTo pos (starEach (b :: []) X.env)).all (fun x => !x.1) && (backToKw pos (keywordEach [] X.env)).all (fun x => x.1.isSome) && decide ((b :: []).length + ([] : List Keyword).length + (if ([] : List Keyword).isEmpty then 0 else 1) < 30)) = true := by rfl) (hline : (apos.endLine == pos.line) = true := by rfl) (hs : starEach (b :: []) X.env = (false, eval b X.env) :: starEach [] X.env := by rfl) (hpl : (backTo pos (starEach [] X.env)).any (·.1) = false := by rfl) (hK : X.K = K := by rfl) :
    QE X E (.Call (.Attribute a "append" apos) [b] [] pos) (tBM K "list" rAppend ta (tCons tb tNil)) (eApp ma mb) := by
  subst hK
  exact ⟨pe_bm PySem.F.plainAttrs_list PySem.F.slot_list_append PySem.F.type_list_append mt_append ha.pe (pa_cons hb.pe pa_nil hs) hbase hfew hline hs hpl, s_app ha.se hb.se⟩
theorem q_pop {K : PySem.W.Frag} {apos : Pos} (ha : QE X E a ta ma) (hbase : attributeBase a "pop" X.env (eval a X.env) = eval a X.env := by rfl) (hline : (apos.endLine == pos.line) = true := by rfl) (hK : X.K = K := by rfl) :
    QE X E (.Call (.Attribute a "pop" apos) [] [] pos) (tBM0 K "list" rPop ta) (ePop ma) := by
  subst hK
  exact ⟨pe_bm0 PySem.F.plainAttrs_list PySem.F.slot_list_pop PySem.F.type_list_pop mt_pop ha.pe hbase hline, s_pop ha.se⟩
/-! calls of defs -/
theorem q_call {P : Program} {wd : World} {K : PySem.W.Frag} {mg : Str → Option Value} {base : Heap} {k n : Nat} {x : Str} {dvs : List V} {dds : List Da} {fm : List Da → Mo Da} {p : Pos} (F : Cal P wd K mg base k x n fm dvs) (hr : Room k X.A) (hx : ∀ σ, PassesAt (L2.CX X.prog X.w) X σ (E σ))
    (ha : QA X E (e :: es) tA al) (hP : X.prog = P := by rfl) (hw : X.w = wd := by rfl) (hK : X.K = K := by rfl) (hmg : X.mg = mg := by rfl) (hbase : X.base = base := by rfl) (hdd : ∀ w, Em K w → RepL K w dvs dds := by intro w m; first | exact .nil | exact .cons (.int _) .nil) (hg : Gl X x := by rfl) (hdb : (x == ("__debug__" : Str)) = false := by decide) (he : starEach (e :: es) X.env = (false, eval e X.env) :: starEach es X.env := by rfl) (hpl : (backTo pos (starEach es X.env)).any (·.1) = false := by rfl) :
    QE X E (.Call (.Name x p) (e :: es) [] pos) (tCallSD (SpOf K n fm) dvs E tA) (eCall (fun ds => ar n fm (ds ++ dds)) al) := by
  subst hP hw hK hmg hbase
  obtain ⟨q, fd, ps, ds, hm, hk, hb, hd, F⟩ := F.ex
  exact ⟨pe_callSD F hr hg hm hk hb hd hx ha.pa hdb he hpl, s_call hdd ha.sa⟩
/-! targets -/
theorem qg_name (i : Nat) {x : Str} (hN : X.N.Nodup) (hi : X.N[i]? = some x := by rfl) (hx : Loc X.env.scope x := by first | exact Or.inl rfl | exact Or.inr rfl) (hf : X.fn x = true ∨ X.env.scope.names.lookup x = some .local := by first | exact .inl rfl | exact .inr rfl | assumption) : QG X (.Name x pos) (gName i) (gN i) [i] := ⟨pg_name hN hi hx hf, sg_name⟩
theorem qgs_nil : QGs X [] gNil gsN [] := ⟨pgs_nil, sgs_nil⟩
theorem qgs_cons {g : TG} {gs : TGs} {t : Tg} {u : Tgs} {ws us : List Nat} (h1 : QG X e g t ws) (h2 : QGs X es gs u us) (hs : (assignEach (e :: es) X.env).map (·.2) = assign e X.env :: (assignEach es X.env).map (·.2) := by rfl) : QGs X (e :: es) (gCons g gs) (gsC t u) (ws ++ us) := ⟨pgs_cons h1.pg h2.pg hs, sgs_cons h1.sg h2.sg⟩
theorem qg_tup {K : PySem.W.Frag} {gs : TGs} {t : Tgs} {ws : List Nat} {k : Nat} (n : Nat) (hc : X.calm = true) (h : QGs X es gs t ws) (hn : (assignEach es X.env).length = n := by rfl) (hst : (assignEach es X.env).findIdx? (·.1) = none := by rfl) (hK : X.K = K := by rfl) : QG X (.Tuple es k pos) (gTup K n gs) (gT n t) ws := by
  subst hK
  exact ⟨pg_tup hc h.pg hn hst, sg_tup h.sg⟩
/-! what is walked -/
variable {tg iter : Expr}
theorem qi_v {K : PySem.W.Frag} (h : QE X E iter te ma) (hK : X.K = K := by rfl) : QI X E tg iter (iSeq K te) (iV ma) := by
  subst hK
  exact ⟨pi_seq h.pe, si_v h.se⟩
theorem qi_r1 {p : Pos} (hm : X.mg "range" = none) (h : QA X E [a] tA al) (hg : Gl X "range" := by rfl) (hs : starEach [a] X.env = [(false, eval a X.env)] := by rfl) : QI X E tg (.Call (.Name "range" p) [a] [] pos) (iRng1 tA) (iR1 al) := ⟨pi_range1 hg hm h.pa hs, si_r1 h.sa⟩
theorem qi_r2 {p : Pos} (hm : X.mg "range" = none) (h : QA X E [a, b] tA al) (hg : Gl X "range" := by rfl) (hs : starEach [a, b] X.env = [(false, eval a X.env), (false, eval b X.env)] := by rfl) (hs2 : starEach [b] X.env = [(false, eval b X.env)] := by rfl) : QI X E tg (.Call (.Name "range" p) [a, b] [] pos) (iRng2 tA) (iR2 al) := ⟨pi_range2 hg hm h.pa hs hs2, si_r2 h.sa⟩
end
section
variable {X : Cx} {E : St → XK} {a b c e tg iter : Expr} {es rest : List Expr} {ta tb tc te : TE} {tt : TT} {tA : TA} {ma mb mc : Sl → Mo Da} {mp : Sl → Mo Bool} {al : Sl → Mo (List Da)} {pos p2 : Pos} {s : Stmt} {ss s1 s2 : List Stmt} {ts tu : TS} {m n : Sl → Mo Fl} {g : TG} {t : Tg} {ws : List Nat} {wi : TI} {ms : Sl → Mo Src}
/-! comprehensions -/
structure QTs (X : Cx) (E : St → XK) (es : List Expr) (tt : TT) (m : Sl → Mo Bool) : Prop where
  pt : PTs X es tt
  st : ST X.K E tt m
def tYes_ : Sl → Mo Bool := fun _ => ret true
theorem qts_nil : QTs X E [] tYes tYes_ := ⟨pts_nil, fun w ro σ Q e h => h.here e.emb⟩
theorem qts_one (h : QT X E a tt mp) : QTs X E [a] tt mp := ⟨pts_one h.pt, h.st⟩
theorem ql_comp {elt : Expr} {ifs : List Expr} {scope : Scope} {own : List (Str × Nat)} {vs : List Nat} (hc : X.calm = true) (hN : X.N.Nodup) (hi : QI X E tg iter wi ms) (ok : BlkOk X.N X.env.scope scope own)
    (hg : ∀ (s : Shared) (H : Hp) (C : Addr) (cl : List (Str × Addr)) (fp : List Addr), QG (X.blk s H scope (PySem.compEnvC scope cl C X.env) fp) tg g t ws)
    (ht : ∀ (s : Shared) (H : Hp) (C : Addr) (cl : List (Str × Addr)) (fp : List Addr), QTs (X.blk s H scope (PySem.compEnvC scope cl C X.env) fp) (fun _ => E0) ifs tt mp)
    (he : ∀ (s : Shared) (H : Hp) (C : Addr) (cl : List (Str × Addr)) (fp : List Addr), QE (X.blk s H scope (PySem.compEnvC scope cl C X.env) fp) (fun _ => E0) elt te ma)
    (hv : own.map (·.2) = vs := by rfl) (hw : ∀ i ∈ ws, i ∈ vs := by decide) (hs : ∀ x, foldedSetIterable iter X.env x = pure x := by intro _; rfl) : QL X E (.ListComp elt [⟨tg, iter, ifs, 0⟩] scope pos) (tLc wi g tt te vs) (lComp ms t mp ma vs) :=
  ⟨by subst hv; exact pe_lc hc hN hi.pi ok (fun s H C cl fp => (hg s H C cl fp).pg) (fun s H C cl fp => (ht s H C cl fp).pt) (fun s H C cl fp => (he s H C cl fp).pe) hs,
    sl_comp hi.si (hg X.s_0 (fun _ => none) 0 [] []).sg hw (ht X.s_0 (fun _ => none) 0 [] []).st (he X.s_0 (fun _ => none) 0 [] []).se⟩
/-! statements -/
theorem qb_nil : QB X E [] tNext mNil := ⟨pss_nil, ss_nil⟩
theorem qb_cons (h1 : QS X E s ts m) (h2 : QB X E ss tu n) : QB X E (s :: ss) (tSeq ts tu) (mSeq m n) := ⟨pss_cons h1.ps h2.ps, ss_seq h1.ss h2.ss⟩
theorem qb_one (h1 : QS X E s ts m) : QB X E [s] ts m := ⟨pss_one h1.ps, h1.ss⟩
theorem qs_set (i : Nat) {x : Str} {pos' : Pos} (hN : X.N.Nodup) (ha : QE X E e te ma) (hi : X.N[i]? = some x := by rfl) (hx : Loc X.env.scope x := by first | exact Or.inl rfl | exact Or.inr rfl) (hs : swapsWith e (some (.Name x pos')) pos.line X.env = pure false := by rfl) (hf : X.fn x = true ∨ X.env.scope.names.lookup x = some .local := by first | exact .inl rfl | exact .inr rfl | assumption) :
    QS X E (.Assign [.Name x pos'] e pos) (tAsg te (gName i)) (mSet i ma) := ⟨ps_set hN hi hx ha.pe hs hf, ss_set ha.se⟩
theorem qs_tgt (hg : QG X tg g t ws) (ha : QE X E e te ma) (hs : swapsWithSole [tg] e pos.line X.env = pure false := by rfl) (hw : swappedStores [tg] e X.env = pure none := by rfl)
    (h1 : (assignEach [tg] X.env).map (·.2) = [assign tg X.env] := by rfl) : QS X E (.Assign [tg] e pos) (tAsg te g) (mTgt t ma) := ⟨ps_asg ha.pe hg.pg hs hw h1, ss_tgt hg.sg ha.se⟩
theorem qs_par (i j : Nat) {x y : Str} {px py pt : Pos} {kt k2 pt2} (hc : X.calm = true) (hN : X.N.Nodup) (ha : QA X E [a, b] tA al) (hi : X.N[i]? = some x := by rfl) (hj : X.N[j]? = some y := by rfl) (hij : i ≠ j := by decide) (hx : X.env.scope.names.lookup x = some .local := by rfl) (hy : X.env.scope.names.lookup y = some .local := by rfl)
    (hw : swappedStores [.Tuple [.Name x px, .Name y py] kt pt] (.Tuple [a, b] k2 pt2) X.env = pure (some [x, y]) := by rfl) (hs : swapsWithSole [.Tuple [.Name x px, .Name y py] kt pt] (.Tuple [a, b] k2 pt2) pos.line X.env = pure false := by rfl) :
    QS X E (.Assign [.Tuple [.Name x px, .Name y py] kt pt] (.Tuple [a, b] k2 pt2) pos) (tPar i j tA) (mPar i j al) := ⟨ps_par hc hN hi hj hij hx hy ha.pa hw hs, ss_par ha.sa⟩
theorem qs_setI {o i v : Expr} {to ti tv : TE} {mo mi mv : Sl → Mo Da} {pos' : Pos} (hv : QE X E v tv mv) (ho : QE X E o to mo) (hi : QE X E i ti mi) (ha : ∀ v, assign (.Subscript o i pos') X.env v = (do
      let ov ← holding [v] (eval o X.env)
      let iv ← holding [v, ov] (eval i X.env)
      standAt pos'
      holding [v, ov, iv] (setItem ov iv v)
      release [v, ov, iv] []) := by intro _; rfl) (hs : swapsWithSole [.Subscript o i pos'] v pos.line X.env = pure false := by rfl) (hw : swappedStores [.Subscript o i pos'] v X.env = pure none := by rfl)
    (h1 : (assignEach [.Subscript o i pos'] X.env).map (·.2) = [assign (.Subscript o i pos') X.env] := by rfl) : QS X E (.Assign [.Subscript o i pos'] v pos) (tAsg tv (gSub to ti rSetL)) (mSetI mv mo mi) :=
  ⟨ps_asg hv.pe (pg_sub ho.pe hi.pe set_list ha) hs hw h1, ss_setI hv.se ho.se hi.se⟩
theorem qs_ret (h : QE X E e te ma) : QS X E (.Return (some e) pos) (tRet te) (mRet ma) := ⟨ps_ret h.pe, ss_ret h.se⟩
theorem qs_retN : QS X E (.Return none pos) tRetN mRetN := ⟨ps_retN, ss_retN⟩
theorem qs_expr (h : QE X E e te ma) (hs : swapsWith e none pos.line X.env = pure false := by rfl) : QS X E (.Expr e pos) (tDrop te) (mExpr ma) := ⟨ps_expr h.pe hs, ss_expr h.se⟩
theorem qs_if (ht : QT X E c tt mp) (h1 : QB X E s1 ts m) (h2 : QB X E s2 tu n) : QS X E (.If c s1 s2 pos) (tIfS tt ts tu) (mIf mp m n) := ⟨ps_if ht.pt h1.ps h2.ps, ss_if ht.st h1.ss h2.ss⟩
theorem qs_pass : QS X E (.Pass pos) tNext mNil := ⟨ps_pass, ss_nil⟩
theorem qs_brk : QS X E (.Break pos) tBreak mBrk := ⟨ps_break, ss_brk⟩
theorem qs_cnt : QS X E (.Continue pos) tCont mCnt := ⟨ps_continue, ss_cnt⟩
theorem qs_never : QS X E s tNever mNever := ⟨ps_never, ss_never⟩
theorem qb_never : QB X E ss tNever mNever := ⟨pss_never, ss_never⟩
theorem qs_aug (i : Nat) {x : Str} {op : Operator} {f : Int → Int → Int} {pos' : Pos} (hN : X.N.Nodup) (ho : PIp X op (ipI f)) (ha : QE X E e te ma) (hi : X.N[i]? = some x := by rfl) (hx : Loc X.env.scope x := by first | exact Or.inl rfl | exact Or.inr rfl) (hf : X.fn x = true ∨ X.env.scope.names.lookup x = some .local := by first | exact .inl rfl | exact .inr rfl | assumption) :
    QS X E (.AugAssign (.Name x pos') op e pos) (tAug i te (ipI f)) (mAug i f ma) := ⟨ps_aug hN hi hx ha.pe ho hf, ss_aug ha.se⟩
theorem qs_for (hp : PassesOwn (model X.prog X.w) X.A X.env X.xe) (hc : X.calm = true) (hi : QI X E tg iter wi ms) (hg : QG X tg g t ws) (hb : QB X E ss ts m) (hs : ∀ x, foldedSetIterable iter X.env x = pure x := by intro _; rfl) : QS X E (.For tg iter ss [] pos) (tFor wi g ts) (mFor ms t m) :=
  ⟨ps_for hp hc hi.pi hg.pg hb.ps hs, ss_for hi.si hg.sg hb.ss⟩
theorem qs_while (fuel : Nat) (hp : PassesOwn (model X.prog X.w) X.A X.env X.xe) (ht : QT X E c tt mp) (hb : QB X E ss ts m) : QS X E (.While c ss [] pos) (tWhile tt ts) (whileF mp m fuel) := ⟨ps_while hp ht.pt hb.ps, ss_while ht.st hb.ss⟩
/-- y = [..]: a comprehension stored at once -/
theorem qs_setLc (i : Nat) {y : Str} {py spos : Pos} {elt : Expr} {ifs : List Expr} {scope : Scope} {own : List (Str × Nat)} {vs : List Nat} (hc : X.calm = true) (hN : X.N.Nodup) (hi : QI X E tg iter wi ms) (ok : BlkOk X.N X.env.scope scope own)
    (hg : ∀ (s : Shared) (H : Hp) (C : Addr) (cl : List (Str × Addr)) (fp : List Addr), QG (X.blk s H scope (PySem.compEnvC scope cl C X.env) fp) tg g t ws)
    (ht : ∀ (s : Shared) (H : Hp) (C : Addr) (cl : List (Str × Addr)) (fp : List Addr), QTs (X.blk s H scope (PySem.compEnvC scope cl C X.env) fp) (fun _ => E0) ifs tt mp)
    (he : ∀ (s : Shared) (H : Hp) (C : Addr) (cl : List (Str × Addr)) (fp : List Addr), QE (X.blk s H scope (PySem.compEnvC scope cl C X.env) fp) (fun _ => E0) elt te ma)
    (mk : (Sl → Mo (List Da)) → Sl → Mo Da) (hmut : ∀ {te : TE} {al : Sl → Mo (List Da)}, SL X.K E te al → SE X.K E te (mk al))
    (hsw : swapsWith (.ListComp elt [⟨tg, iter, ifs, 0⟩] scope pos) (some (.Name y py)) spos.line X.env = pure true)
    (hy : X.N[i]? = some y := by rfl) (hyl : X.env.scope.names.lookup y = some .local := by rfl) (hv : own.map (·.2) = vs := by rfl) (hw : ∀ i ∈ ws, i ∈ vs := by decide) (hs : ∀ x, foldedSetIterable iter X.env x = pure x := by intro _; rfl) :
    QS X E (.Assign [.Name y py] (.ListComp elt [⟨tg, iter, ifs, 0⟩] scope pos) spos) (tAsg (tLc wi g tt te vs) (gName i)) (mSet i (mk (lComp ms t mp ma vs))) :=
  ⟨by subst hv; exact ps_setLc hc hN hy hyl hsw hi.pi ok (fun s H C cl fp => (hg s H C cl fp).pg) (fun s H C cl fp => (ht s H C cl fp).pt) (fun s H C cl fp => (he s H C cl fp).pe) hs,
    ss_set (hmut (sl_comp hi.si (hg X.s_0 (fun _ => none) 0 [] []).sg hw (ht X.s_0 (fun _ => none) 0 [] []).st (he X.s_0 (fun _ => none) 0 [] []).se))⟩
end
end CL
namespace CL
open PySem PySem.Spec L2
/-! ### comprehensions of two clauses -/
def compGo2 (o : Option Nat) (all : List Da) (t : Tg) (p : Sl → Mo Bool) (s1 : Sl → Mo Src) (t1 : Tg) (p1 : Sl → Mo Bool) (e : Sl → Mo Da) (vs1 : List Nat) (ro : Sl) : List Da → List Da → Mo (List Da)
  | [], acc => fun st => if chk o all st = true then .ok acc st else .bad
  | x :: r, acc => fun st => if chk o all st = true then (match t x ro with
    | some ro1 => bnd (noX (p ro1)) (fun c => if c = true then bnd (noX (s1 ro1)) (fun s => bnd (compGo s.o s.xs t1 p1 e (wipeS ro1 vs1) s.xs acc) (fun acc2 => compGo2 o all t p s1 t1 p1 e vs1 ro r acc2)) else compGo2 o all t p s1 t1 p1 e vs1 ro r acc) st
    | none => .bad) else .bad
def lComp2 (s : Sl → Mo Src) (t : Tg) (p : Sl → Mo Bool) (s1 : Sl → Mo Src) (t1 : Tg) (p1 : Sl → Mo Bool) (e : Sl → Mo Da) (vs vs1 : List Nat) : Sl → Mo (List Da) := fun ro => bnd (s ro) fun s => compGo2 s.o s.xs t p s1 t1 p1 e vs1 (wipeS ro vs) s.xs []
section
variable {K : PySem.W.Frag} {E E' : St → XK}
/-- the second clause's loop, up to Nx -/
theorem comp_loop {A : Type} {w0 w1 : Wd} {J : It} {s : Src} {t : Tg} {p : Sl → Mo Bool} {m : Sl → Mo Da} {g : TG} {tt : TT} {te : TE} {ws vs : List Nat} {ro : Sl} {σ : St} {D : Addr} {us0 : List V} {acc0 : List Da} {G : List Da → Mo A} {ok : A → Wd → Prop} {ex : Str → List Da → Wd → Prop} {Nx : Hp → Prop}
    (hg : SG K g t ws) (hw : ∀ i ∈ ws, i ∈ vs) (ht : ST K E' tt p) (he : SE K E' te m) (hJ : ItOk K w1 J s) (en : En K w1 ro σ) (x0 : Ext w0 w1) (h0D : w0.H D = none) (h0p : D ∉ w0.pv) (p1 : w1.pv = D :: w0.pv) (hHD : w1.H D = some (.lst us0)) (r0 : RepL K w1 us0 acc0)
    (k : Run K w0 (bnd (compGo s.o s.xs t p m (wipeS ro vs) s.xs acc0) G w1.st) ok ex)
    (hN : ∀ w2 us acc, Ext w0 w2 → w2.pv = D :: w0.pv → Em K w2 → w2.H D = some (.lst us) → RepL K w2 us acc → Run K w0 (G acc w2.st) ok ex → Nx w2.H) :
    ∃ W : Nat → Nat → Hp → Prop, (∃ m, W 0 m w1.H) ∧ ∀ j k H, W j k H → (J.stop j H ∧ Nx H) ∨ (J.go j H ∧ ∃ Nx1 : Hp → Prop, (∀ H', Nx1 H' → ∃ k', k' < k ∧ W (j + 1) k' H') ∧ ∀ x H', J.yld j H x H' → g x (wipe σ vs) H' fun σ3 H5 => wipe σ3 vs = wipe σ vs ∧ tt σ3 H5 fun b H6 =>
      if b = true then te σ3 H6 fun y H7 => ∃ acc, H7 D = some (.lst acc) ∧ acc.length < sizeLine ∧ Nx1 (upd H7 D (.lst (acc ++ [y]))) else Nx1 H6) := by
  refine ⟨fun i mm H' => ∃ w2 us acc, w2.H = H' ∧ ExtW w1 w2 ∧ Ext w0 w2 ∧ w2.pv = D :: w0.pv ∧ En K w2 ro σ ∧ w2.H D = some (.lst us) ∧ RepL K w2 us acc ∧ i ≤ s.xs.length ∧ mm = s.xs.length - i ∧ Run K w0 (bnd (compGo s.o s.xs t p m (wipeS ro vs) (s.xs.drop i) acc) G w2.st) ok ex,
    ⟨s.xs.length, w1, us0, acc0, rfl, ExtW.refl _, x0, p1, en, hHD, r0, Nat.zero_le _, by omega, by rw [List.drop_zero]; exact k⟩, ?_⟩
  rintro i mm H2 ⟨w2, us, acc, rfl, xw, x2, p2, en2, hHD, ru, hi, rfl, k2⟩
  have m2 := en2.emb
  by_cases hlt : i < s.xs.length
  · rw [List.drop_eq_getElem_cons hlt] at k2
    have k3 : Run K w0 (bnd (fun st => if chk s.o s.xs st = true then (match t s.xs[i] (wipeS ro vs) with | some ro1 => bnd (noX (p ro1)) (fun c => if c = true then bnd (noX (m ro1)) (fun y => if acc.length < szD then compGo s.o s.xs t p m (wipeS ro vs) (s.xs.drop (i + 1)) (acc ++ [y]) else nop) else compGo s.o s.xs t p m (wipeS ro vs) (s.xs.drop (i + 1)) acc) st | none => .bad) else .bad) G w2.st) ok ex := k2
    by_cases hc : chk s.o s.xs w2.st = true
    · obtain ⟨hgo, hst⟩ := hJ w2 xw m2 hc
      obtain ⟨g1, g2⟩ := hgo i _ (List.getElem?_eq_getElem hlt)
      cases q : t s.xs[i] (wipeS ro vs) with
      | none =>
        unfold bnd at k3
        simp only [hc, if_true, q] at k3
        exact k3.elim
      | some ro1 =>
        have k4 : Run K w0 (bnd (bnd (noX (p ro1)) (fun c => if c = true then bnd (noX (m ro1)) (fun y => if acc.length < szD then compGo s.o s.xs t p m (wipeS ro vs) (s.xs.drop (i + 1)) (acc ++ [y]) else nop) else compGo s.o s.xs t p m (wipeS ro vs) (s.xs.drop (i + 1)) acc)) G w2.st) ok ex := by
          have e : ∀ F : Mo (List Da), (if chk s.o s.xs w2.st = true then F w2.st else Res.bad) = F w2.st := fun F => if_pos hc
          unfold bnd at k3 ⊢
          simp only [hc, if_true, q] at k3
          exact k3
        rw [bnd_assoc] at k4
        refine .inr ⟨g1, fun H' => ∃ w3 us acc, w3.H = H' ∧ ExtW w1 w3 ∧ Ext w0 w3 ∧ w3.pv = D :: w0.pv ∧ En K w3 ro σ ∧ w3.H D = some (.lst us) ∧ RepL K w3 us acc ∧ Run K w0 (bnd (compGo s.o s.xs t p m (wipeS ro vs) (s.xs.drop (i + 1)) acc) G w3.st) ok ex,
          fun H' ⟨w3, us, acc, h1, h2, h2', h3, h4, h5, h6, h7⟩ => ⟨s.xs.length - (i + 1), by omega, w3, us, acc, h1, h2, h2', h3, h4, h5, h6, hlt, rfl, h7⟩, fun v H' hy => ?_⟩
        obtain ⟨w3, rfl, es, ep, x3, m3, rv⟩ := g2 v H' hy
        have en3 := en2.mono x3 m3
        obtain ⟨σ3, e3, so, kk⟩ := hg w3 v _ (wipeS ro vs) ro1 (wipe σ vs) (en3.wipe vs) rv q
        refine kk _ ⟨wipe_eq (by rw [so.1, wipe_length]) fun j hj => ?_, ?_⟩
        · rw [so.2 j fun z => hj (hw j z), wipe_out hj]
        · rw [← es] at k4
          refine ht w3 ro1 σ3 _ e3 ((run_noX k4).mono (fun c w4 x4 p4 m4 k4 => ?_) fun _ _ _ z => z)
          have pD : D ∈ w2.pv := by rw [p2]; exact List.mem_cons_self
          cases c with
          | true =>
            rw [if_pos rfl, bnd_assoc] at k4
            rw [if_pos rfl]
            refine he w4 ro1 σ3 _ (e3.mono x4 m4) ((run_noX k4).mono (fun y w5 x5 p5 m5 k5 v5 rv5 => ?_) fun _ _ _ z => z)
            have x25 : Ext w2 w5 := x3.trans (x4.trans x5)
            obtain ⟨pD5, hD5⟩ := x25.pvk D pD
            have hD5' : w5.H D = some (.lst us) := hD5.trans hHD
            by_cases hl : acc.length < szD
            · rw [if_pos hl] at k5
              have ru5 := ru.mono m2 x25
              have xg := ExtP.grow m5 (vs := us ++ [v5]) pD5
              refine ⟨us, hD5', by rw [ru.length]; exact szD_lt hl, w5.grow D (us ++ [v5]), us ++ [v5], acc ++ [y], rfl, (xw.trans x25.w).trans xg.w, (x2.trans x25).thenGrow m5 pD5 h0D h0p, ?_, ?_, upd_same, ?_, k5⟩
              · show w5.pv = D :: w0.pv
                rw [p5, p4, ep, p2]
              · have en5 := en2.mono x25 m5
                exact ⟨m5.grow pD5, en5.len, fun j d hd => let ⟨u, a1, a2⟩ := en5.slot j d hd; ⟨u, a1, a2.monoP m5 xg⟩⟩
              · exact (ru5.append (.cons rv5 .nil)).monoP m5 xg
            · rw [if_neg hl] at k5; exact k5.elim
          | false =>
            rw [if_neg Bool.false_ne_true] at k4 ⊢
            have x24 : Ext w2 w4 := x3.trans x4
            obtain ⟨pD4, hD4⟩ := x24.pvk D pD
            exact ⟨w4, us, acc, rfl, xw.trans x24.w, x2.trans x24, by rw [p4, ep, p2], en2.mono x24 m4, hD4.trans hHD, ru.mono m2 x24, k4⟩
    · unfold bnd at k3
      simp only [hc, if_false] at k3
      exact k3.elim
  · have hE : i = s.xs.length := by omega
    subst hE
    rw [List.drop_length] at k2
    have k3 : Run K w0 (bnd (fun st => if chk s.o s.xs st = true then .ok acc st else .bad) G w2.st) ok ex := k2
    by_cases hc : chk s.o s.xs w2.st = true
    · obtain ⟨_, hst⟩ := hJ w2 xw m2 hc
      unfold bnd at k3
      simp only [hc, if_true] at k3
      exact .inl ⟨hst, hN w2 us acc x2 p2 m2 hHD ru k3⟩
    · unfold bnd at k3
      simp only [hc, if_false] at k3
      exact k3.elim
theorem sl_comp2 {wi wi1 : TI} {s s1 : Sl → Mo Src} {g g1 : TG} {t t1 : Tg} {ws ws1 vs vs1 : List Nat} {tt tt1 : TT} {p p1 : Sl → Mo Bool} {te : TE} {m : Sl → Mo Da} (hs : SI K E wi s) (hg : SG K g t ws) (hw : ∀ i ∈ ws, i ∈ vs) (ht : ST K E' tt p)
    (hs1 : SI K E' wi1 s1) (hg1 : SG K g1 t1 ws1) (hw1 : ∀ i ∈ ws1, i ∈ vs1) (ht1 : ST K E' tt1 p1) (he : SE K E' te m) :
    SL K E (tLc2 wi g tt wi1 g1 tt1 te vs vs1) (lComp2 s t p s1 t1 p1 m vs vs1) := fun w ro σ Q en h => by
  refine hs w ro σ _ en (h.bind.mono (fun s w1 x1 p1' m1 k J hJ D hD => ?_) fun _ _ _ z => z)
  have hDp : D ∉ w1.pv := m1.freshP hD
  refine ⟨fun i mm H' => ∃ w2 us acc, w2.H = H' ∧ Ext w1 w2 ∧ w2.pv = D :: w1.pv ∧ Em K w2 ∧ w2.H D = some (.lst us) ∧ RepL K w2 us acc ∧ i ≤ s.xs.length ∧ mm = s.xs.length - i ∧ Run K w1 (compGo2 s.o s.xs t p s1 t1 p1 m vs1 (wipeS ro vs) (s.xs.drop i) acc w2.st) (OkL K Q) (XP K (E σ)),
    ⟨s.xs.length, w1.hid D [], [], [], rfl, Ext.hid m1 hD, rfl, m1.hid hD, upd_same, .nil, Nat.zero_le _, by omega, by rw [List.drop_zero]; exact k⟩, ?_⟩
  rintro i mm H2 ⟨w2, us, acc, rfl, x2, p2, m2, hHD, ru, hi, rfl, k2⟩
  by_cases hlt : i < s.xs.length
  · have hd : s.xs.drop i = s.xs[i] :: s.xs.drop (i + 1) := List.drop_eq_getElem_cons hlt
    rw [hd] at k2
    unfold compGo2 at k2
    split at k2
    · rename_i hc
      obtain ⟨hgo, hst⟩ := hJ w2 x2.w m2 hc
      obtain ⟨h1, h2⟩ := hgo i _ (List.getElem?_eq_getElem hlt)
      cases q : t s.xs[i] (wipeS ro vs) with
      | none => rw [q] at k2; exact k2.elim
      | some ro1 =>
        rw [q] at k2
        refine .inr ⟨h1, fun H' => ∃ w3 us acc, w3.H = H' ∧ Ext w1 w3 ∧ w3.pv = D :: w1.pv ∧ Em K w3 ∧ w3.H D = some (.lst us) ∧ RepL K w3 us acc ∧ Run K w1 (compGo2 s.o s.xs t p s1 t1 p1 m vs1 (wipeS ro vs) (s.xs.drop (i + 1)) acc w3.st) (OkL K Q) (XP K (E σ)),
          fun H' ⟨w3, us, acc, h1, h2, h3, h4, h5, h6, h7⟩ => ⟨s.xs.length - (i + 1), by omega, w3, us, acc, h1, h2, h3, h4, h5, h6, hlt, rfl, h7⟩, fun v H' hy => ?_⟩
        obtain ⟨w3, rfl, es, ep, x3, m3, rv⟩ := h2 v H' hy
        have en3 : En K w3 (wipeS ro vs) (wipe σ vs) := (en.mono (x1.trans (x2.trans x3)) m3).wipe vs
        obtain ⟨σ3, e3, so, kk⟩ := hg w3 v _ (wipeS ro vs) ro1 (wipe σ vs) en3 rv q
        refine kk _ ⟨wipe_eq (by rw [so.1, wipe_length]) fun j hj => ?_, ?_⟩
        · rw [so.2 j fun z => hj (hw j z), wipe_out hj]
        · rw [← es] at k2
          refine ht w3 ro1 σ3 _ e3 ((run_noX k2).mono (fun c w4 x4 p4 m4 k4 => ?_) fun _ _ _ z => z)
          have pD : D ∈ w2.pv := by rw [p2]; exact List.mem_cons_self
          cases c with
          | true =>
            rw [if_pos rfl] at k4 ⊢
            refine hs1 w4 ro1 σ3 _ (e3.mono x4 m4) ((run_noX k4).mono (fun S w5 x5 p5 m5 k5 J1 hJ1 => ?_) fun _ _ _ z => z)
            have x25 : Ext w2 w5 := x3.trans (x4.trans x5)
            obtain ⟨pD5, hD5⟩ := x25.pvk D pD
            refine comp_loop hg1 hw1 ht1 he hJ1 (e3.mono (x4.trans x5) m5) (x2.trans x25) hD hDp (by rw [p5, p4, ep, p2]) (hD5.trans hHD) (ru.mono m2 x25) k5 fun w6 us6 acc6 a1 a2 a3 a4 a5 a6 => ?_
            exact ⟨w6, us6, acc6, rfl, a1, a2, a3, a4, a5, a6⟩
          | false =>
            rw [if_neg Bool.false_ne_true] at k4 ⊢
            have x24 : Ext w2 w4 := x3.trans x4
            obtain ⟨pD4, hD4⟩ := x24.pvk D pD
            exact ⟨w4, us, acc, rfl, x2.trans x24, by rw [p4, ep, p2], m4, hD4.trans hHD, ru.mono m2 x24, k4⟩
    · exact k2.elim
  · have hE : i = s.xs.length := by omega
    subst hE
    rw [List.drop_length] at k2
    unfold compGo2 at k2
    split at k2
    · rename_i hc
      obtain ⟨_, hst⟩ := hJ w2 x2.w m2 hc
      refine .inl ⟨hst, ?_⟩
      have z := Run.at (w' := w2.del D w1.pv) k2 (x2.del p2 hD hDp) (m2.del p2 hHD hDp) rfl rfl D us del_same (ru.del p2 hHD)
      rw [show upd (w2.del D w1.pv).H D (.lst us) = w2.H from upd_del hHD] at z
      exact z
    · exact k2.elim
end
section
variable {X : Cx} {E : St → XK} {tg iter tg1 iter1 : Expr} {tt tt1 : TT} {te : TE} {ma : Sl → Mo Da} {mp mp1 : Sl → Mo Bool} {pos : Pos} {g g1 : TG} {t t1 : Tg} {ws ws1 : List Nat} {wi wi1 : TI} {ms ms1 : Sl → Mo Src}
theorem ql_comp2 {elt : Expr} {ifs ifs1 : List Expr} {scope : Scope} {own : List (Str × Nat)} {vs vs1 : List Nat} (hc : X.calm = true) (hN : X.N.Nodup) (hi : QI X E tg iter wi ms) (ok : BlkOk X.N X.env.scope scope own)
    (hg : ∀ (s : Shared) (H : Hp) (C : Addr) (cl : List (Str × Addr)) (fp : List Addr), QG (X.blk s H scope (PySem.compEnvC scope cl C X.env) fp) tg g t ws)
    (ht : ∀ (s : Shared) (H : Hp) (C : Addr) (cl : List (Str × Addr)) (fp : List Addr), QTs (X.blk s H scope (PySem.compEnvC scope cl C X.env) fp) (fun _ => E0) ifs tt mp)
    (hi1 : ∀ (s : Shared) (H : Hp) (C : Addr) (cl : List (Str × Addr)) (fp : List Addr), QI (X.blk s H scope (PySem.compEnvC scope cl C X.env) fp) (fun _ => E0) tg1 iter1 wi1 ms1)
    (hg1 : ∀ (s : Shared) (H : Hp) (C : Addr) (cl : List (Str × Addr)) (fp : List Addr), QG (X.blk s H scope (PySem.compEnvC scope cl C X.env) fp) tg1 g1 t1 ws1)
    (ht1 : ∀ (s : Shared) (H : Hp) (C : Addr) (cl : List (Str × Addr)) (fp : List Addr), QTs (X.blk s H scope (PySem.compEnvC scope cl C X.env) fp) (fun _ => E0) ifs1 tt1 mp1)
    (he : ∀ (s : Shared) (H : Hp) (C : Addr) (cl : List (Str × Addr)) (fp : List Addr), QE (X.blk s H scope (PySem.compEnvC scope cl C X.env) fp) (fun _ => E0) elt te ma)
    (hv : own.map (·.2) = vs := by rfl) (hv1 : ∀ i ∈ vs1, i ∈ vs := by decide) (hw : ∀ i ∈ ws, i ∈ vs := by decide) (hw1 : ∀ i ∈ ws1, i ∈ vs1 := by decide) (hs : ∀ x, foldedSetIterable iter X.env x = pure x := by intro _; rfl) (hs1 : ∀ env x, foldedSetIterable iter1 env x = pure x := by intro _ _; rfl) :
    QL X E (.ListComp elt [⟨tg, iter, ifs, 0⟩, ⟨tg1, iter1, ifs1, 0⟩] scope pos) (tLc2 wi g tt wi1 g1 tt1 te vs vs1) (lComp2 ms t mp ms1 t1 mp1 ma vs vs1) :=
  ⟨by subst hv; exact pe_lc2 hc hN hi.pi ok hv1 (fun s H C cl fp => (hg s H C cl fp).pg) (fun s H C cl fp => (ht s H C cl fp).pt) (fun s H C cl fp => (hi1 s H C cl fp).pi) (fun s H C cl fp => (hg1 s H C cl fp).pg) (fun s H C cl fp => (ht1 s H C cl fp).pt) (fun s H C cl fp => (he s H C cl fp).pe) hs hs1,
    sl_comp2 hi.si (hg X.s_0 (fun _ => none) 0 [] []).sg hw (ht X.s_0 (fun _ => none) 0 [] []).st (hi1 X.s_0 (fun _ => none) 0 [] []).si (hg1 X.s_0 (fun _ => none) 0 [] []).sg hw1 (ht1 X.s_0 (fun _ => none) 0 [] []).st (he X.s_0 (fun _ => none) 0 [] []).se⟩
end
/-! ### set of a list of ints, sorted -/
def emptySet (wd : World) : Obj := { cls := .type "set", dict := none, data := .set #[] 0 (.fresh 0 0 (!wd.params.followText "set-order")) }
section
variable {P : Program} {w : World} {A : Around} {Ex : Value → Shared → Prop} {s : Shared}
theorem set_of_list {l : Addr} {items : Array Value} (ns : List Int) {Q : Value → Shared → Prop} (hh : A.handled = none) (hl : s.heap.IsList l items) (hit : PyProof.Rows.IntsAre items.toList ns) (hb : ns.length + 1 < scanBound)
    (h : ∀ (h' : Heap) (tk c : Nat), SetR w h' s.heap.objs.size (fun j => decide (j ∈ ns)) c → c ≤ ns.length → (∀ b o, s.heap.get? b = some o → h'.get? b = some o) → Q (.ref s.heap.objs.size) { s with heap := h', toks := tk }) :
    wpAny (model P w) A (PySem.call (.type "set") [.ref l]) Q Ex s := by
  have hisz : items.size = ns.length := by
    rw [← Array.length_toList]
    exact PyProof.Rows.IntsAre.length hit
  have q0 := F.called_set
  obtain ⟨c, tl, hmro⟩ := q0.mro
  have hmade := q0.made
  have hsub := q0.sub
  refine wpAny_call (codeAny_of_tree (show wpAny _ _ (callAny (.type "set") _) _ _ _ from ?_))
  refine wpAny_pure ⟨Code.quiet_builtin _ (by decide +kernel), codeAny_builtin F.entry_type_call ?_⟩
  rw [Around.under_plain (weight_type_call_type "set" [.ref l] []) rfl]
  have h1 := q0.notType
  have h2 := q0.canCreate
  have hct := F.typeCall_set_1 (.ref l)
  repeat (any_goals (first | assumption | wp_step))
  refine codeAny_mono (code_set_led1 (.ref l) (E := Ex) (Q₁ := fun z s₁ => z = .ref s.heap.objs.size ∧ s₁ = { s with heap := s.heap.push (emptySet w) }) ⟨rfl, rfl⟩) fun r s₁ hr => ?_
  cases r with
  | error e => exact hr
  | ok fl =>
    cases fl with
    | ret z =>
      obtain ⟨rfl, rfl⟩ := hr
      have hS : (s.heap.push (emptySet w)).get? s.heap.objs.size = some (emptySet w) := Heap.get?_push_size _ rfl
      have hT : Shared.TypeIs { s with heap := s.heap.push (emptySet w) } (.ref s.heap.objs.size) "set" := ⟨_, hS, rfl⟩
      have hli := q0.init.lookup
      have hbi := q0.init.bind (.ref s.heap.objs.size)
      repeat (any_goals (first | assumption | wp_step))
      refine codeAny_mono (codeAny_call_builtin (R := wants (fun r s₂ => r = .none ∧ ∃ h' tk c, s₂ = { s with heap := h', toks := tk } ∧ SetR w h' s.heap.objs.size (fun j => decide (j ∈ ns)) c ∧ c ≤ ns.length ∧
          (∀ b o, s.heap.get? b = some o → h'.get? b = some o)) Ex) q0.init.plain F.entry_set_init (check_set_init_1 hT ?_)) fun r₂ s₂ hr₂ => ?_
      · obtain ⟨⟨ocls, odict, odata, oslots⟩, hol, hcl, nl, hdl⟩ := hl
        simp only at hcl hdl
        subst hcl hdl
        have hol' := Heap.get?_push_of_some (emptySet w) hol
        have hsls := F.sub_list_set
        have hslf := F.sub_list_frozenset
        have hne : (Value.type "list" == Value.type "dict") = false := by decide
        have hl1 : (s.heap.push (emptySet w)).IsList l items := ⟨_, hol', rfl, nl, rfl⟩
        have hlS : l < s.heap.objs.size := Heap.lt_size hol
        have hz1 : (s.heap.push (emptySet w)).objs.size = s.heap.objs.size + 1 := Heap.size_push ..
        unfold Builtin.«set.__init__» noKeywords Builtin.Frozenset.updateFrom
        generalize hPI : pyIter = PI
        wp_walk
        subst hPI
        refine wpAny_pyIter_list hl1 (wpAny_bind (wpAny_runValue ?_))
        have hh3 : A.in1.in1.in1.handled = none := by simp [hh]
        have hval : ∀ (i : Nat) (v : Value), items[i]? = some v → ∃ k t, ns[i]? = some k ∧ v = .int k t := fun i v hv => by
          have hi : i < ns.length := by rw [← hisz]; exact (Array.getElem?_eq_some_iff.mp hv).1
          obtain ⟨t, e⟩ := PyProof.Rows.IntsAre.int_at hit i v (by rw [Array.getElem?_toList]; exact hv)
          refine ⟨ns[i], t, List.getElem?_eq_getElem hi, ?_⟩
          rw [e, List.getD_eq_getElem?_getD, List.getElem?_eq_getElem hi] <;> rfl
        refine set_update_ints ((Walks.list hh3 _ l (by rw [hz1]; exact Nat.ne_of_lt (Nat.lt_succ_of_lt hlS)) items).toS) s.heap.objs.size (by rw [hz1]; intro z; rcases List.mem_cons.mp z with z | z; exact absurd z (Nat.ne_of_lt (Nat.lt_succ_self _)); exact absurd (List.mem_singleton.mp z) (Nat.ne_of_gt hlS)) ns hisz hb hval (items.size - 0) 0 _ (by omega) (Nat.zero_le _)
          ⟨⟨_, Heap.get?_push_size _ rfl, rfl, rfl⟩, (hl1.push _)⟩ ⟨0, Nat.le_refl 0, setR_new_at (Heap.get?_push_of_some _ hS)⟩ ?_
        intro s' c' hm hc' hS'
        obtain ⟨h', g2, d', tk', os'⟩ := s'
        have eg : g2 = s.gens := hm.gens
        have ed : d' = s.drawn := hm.drawn
        have eo : os' = s.os := hm.os
        subst eg ed eo
        refine wpAny_pure (show wpAny _ _ (PySem.ret Value.none) _ _ _ from ?_)
        rw [hisz] at hc'
        refine wpAny_pure ⟨rfl, h', tk', c', rfl, hS', hc', fun b o e => ?_⟩
        have hb0 : b < s.heap.objs.size := Heap.lt_size e
        exact hm.heap b o (by rw [hz1]; intro z; rcases List.mem_cons.mp z with z | z; exact absurd z (Nat.ne_of_lt hb0); exact absurd (List.mem_singleton.mp z) (Nat.ne_of_lt (Nat.lt_succ_of_lt hb0))) (Heap.get?_push_of_some _ (Heap.get?_push_of_some _ e))
      · cases r₂ with
        | error e => exact hr₂
        | ok fl₂ =>
          cases fl₂ with
          | ret r =>
            obtain ⟨rfl, h', tk, c', rfl, hS', hc', hk'⟩ := hr₂
            repeat (any_goals (first | assumption | wp_step))
            exact h _ _ _ hS' hc' hk'
          | _ => exact hr₂.elim
    | _ => exact hr.elim
end
/-! sorted(set(xs)) -/
def insS (k : Int) : List Int → List Int
  | [] => [k]
  | x :: r => if k < x then k :: x :: r else if k = x then x :: r else x :: insS k r
def srtS : List Int → List Int
  | [] => []
  | k :: r => insS k (srtS r)
theorem insS_mem {k j : Int} : ∀ {l : List Int}, j ∈ insS k l ↔ j = k ∨ j ∈ l
  | [] => by simp [insS]
  | x :: r => by
    unfold insS
    split
    · simp
    · split
      · rename_i e; subst e; simp
      · simp only [List.mem_cons, insS_mem (l := r)]
        constructor
        · rintro (h | h | h)
          · exact .inr (.inl h)
          · exact .inl h
          · exact .inr (.inr h)
        · rintro (h | h | h)
          · exact .inr (.inl h)
          · exact .inl h
          · exact .inr (.inr h)
theorem insS_up {k : Int} : ∀ {l : List Int}, l.Pairwise (· < ·) → (insS k l).Pairwise (· < ·)
  | [], _ => by simp [insS]
  | x :: r, h => by
    unfold insS
    have h1 := List.pairwise_cons.mp h
    split
    · rename_i hk
      refine List.pairwise_cons.mpr ⟨fun y hy => ?_, h⟩
      rcases List.mem_cons.mp hy with rfl | hy
      · exact hk
      · have := h1.1 y hy; omega
    · split
      · exact h
      · refine List.pairwise_cons.mpr ⟨fun y hy => ?_, insS_up h1.2⟩
        rcases insS_mem.mp hy with rfl | hy
        · omega
        · exact h1.1 y hy
theorem srtS_mem {j : Int} : ∀ {l : List Int}, j ∈ srtS l ↔ j ∈ l
  | [] => by simp [srtS]
  | x :: r => by simp [srtS, insS_mem, srtS_mem (l := r)]
theorem srtS_up : ∀ l : List Int, (srtS l).Pairwise (· < ·)
  | [] => by simp [srtS]
  | x :: r => insS_up (srtS_up r)
theorem up_same : ∀ {a b : List Int}, a.Pairwise (· < ·) → b.Pairwise (· < ·) → (∀ k, k ∈ a ↔ k ∈ b) → a = b
  | [], [], _, _, _ => rfl
  | [], y :: b, _, _, h => absurd ((h y).mpr (List.mem_cons_self ..)) (by simp)
  | x :: a, [], _, _, h => absurd ((h x).mp (List.mem_cons_self ..)) (by simp)
  | x :: a, y :: b, ha, hb, h => by
    have a1 := List.pairwise_cons.mp ha
    have b1 := List.pairwise_cons.mp hb
    have e : x = y := by
      rcases List.mem_cons.mp ((h x).mp (List.mem_cons_self ..)) with e | e
      · exact e
      · rcases List.mem_cons.mp ((h y).mpr (List.mem_cons_self ..)) with e2 | e2
        · exact e2.symm
        · have q1 := b1.1 x e
          have q2 := a1.1 y e2
          omega
    subst e
    rw [up_same a1.2 b1.2 fun k => ?_]
    constructor
    · intro hk
      rcases List.mem_cons.mp ((h k).mp (List.mem_cons_of_mem _ hk)) with e | e
      · subst e; exact absurd (a1.1 _ hk) (by omega)
      · exact e
    · intro hk
      rcases List.mem_cons.mp ((h k).mpr (List.mem_cons_of_mem _ hk)) with e | e
      · subst e; exact absurd (b1.1 _ hk) (by omega)
      · exact e
theorem nd_len : ∀ {a b : List Int}, a.Nodup → (∀ k ∈ a, k ∈ b) → a.length ≤ b.length
  | [], _, _, _ => by simp
  | x :: a, b, h, hs => by
    have h1 := List.nodup_cons.mp h
    have hx := hs x (List.mem_cons_self ..)
    have := nd_len (b := b.erase x) h1.2 fun k hk => (List.mem_erase_of_ne (fun (z : k = x) => h1.1 (z ▸ hk))).mpr (hs k (List.mem_cons_of_mem _ hk))
    rw [List.length_erase_of_mem hx] at this
    have : 0 < b.length := List.length_pos_of_mem hx
    simp
    omega
theorem srtS_nd (l : List Int) : (srtS l).Nodup := (srtS_up l).imp fun h => by omega
theorem srtS_len {a b : List Int} (h : ∀ k ∈ a, k ∈ b) : (srtS a).length ≤ b.length := nd_len (srtS_nd a) fun k hk => h k (srtS_mem.mp hk)
def sortSetD (d : Da) : Mo (List Da) := fun st => match lsOf st d with
  | some xs => (match intsOf xs with
    | some ns => if ns.length < 4000 ∧ (srtS ns).length < 64 then .ok ((srtS ns).map Da.int) st else .bad
    | none => .bad)
  | none => .bad
def rSetOf (K : PySem.W.Frag) (wd : World) : List V → Hp → VK → Prop := fun vs H Q => ∃ (a : Addr) (ns : List Int), vs = [V.ref a] ∧ SqL K H a (ns.map V.int) ∧ ns.length < 4000 ∧ ∀ (p : Addr) (c : Nat), H p = none → c = (srtS ns).length → Q (.ref p) (upd H p (SetO wd p (fun j => decide (j ∈ ns)) c))
theorem repL_intsOf {K : PySem.W.Frag} {w : Wd} : ∀ ns : List Int, RepL K w (ns.map V.int) (ns.map Da.int)
  | [] => .nil
  | n :: r => .cons (.int n) (repL_intsOf r)
section
variable {X : Cx} {E : St → XK} {e : Expr} {tA : TA} {al : Sl → Mo (List Da)} {pos pos2 : Pos}
theorem setR_card {w : World} {h : Heap} {a : Addr} {ns : List Int} {c : Nat} (R : SetR w h a (fun j => decide (j ∈ ns)) c) : c = (srtS ns).length := by
  obtain ⟨o, es, ep, t, _, _, _, _, nd, hm, _, _, hn, _⟩ := R
  have e1 : (es.toList.map keyOf).length = c := by rw [List.length_map, Array.length_toList]; exact hn
  have l1 := nd_len nd (b := srtS ns) fun k hk => srtS_mem.mpr (by simpa using (hm k).mpr hk)
  have l2 := nd_len (srtS_nd ns) (b := es.toList.map keyOf) fun k hk => (hm k).mp (by simpa using srtS_mem.mp hk)
  omega
theorem cr_setOf (hc : X.calm = true) : CallR X (.type "set") (rSetOf X.K X.w) := by
  intro pins s σ H vs us Q I r h
  obtain ⟨a, ns, rfl, hs, h64, q⟩ := h
  obtain ⟨its, rv, hl, _⟩ := I.list hs
  rw [Vals.ref1 r]
  refine set_of_list ns (I.ok.hd hc) hl.isList (by simpa using rv.ints) (by unfold scanBound; omega) fun h' tk c R hc2 hk => ?_
  exact ⟨.ref _, upd H s.heap.objs.size (SetO X.w s.heap.objs.size (fun j => decide (j ∈ ns)) c), I.laid (t' := tk) hk (Nat.le_refl _) (setO_new R), rfl, q _ c (I.hok.fresh (Nat.le_refl _)) (setR_card R)⟩
theorem ql_sortSet {K : PySem.W.Frag} {wd : World} {p p2 : Pos} (hc : X.calm = true) (hm : X.mg "sorted" = none) (hm2 : X.mg "set" = none) (ha : QA X E [e] tA al) (hg : Gl X "sorted" := by rfl) (hg2 : Gl X "set" := by rfl)
    (he : starEach (e :: []) X.env = (false, eval e X.env) :: starEach [] X.env := by rfl) (hpl : (backTo pos2 (starEach [] X.env)).any (·.1) = false := by rfl) (hK : X.K = K := by rfl) (hw : X.w = wd := by rfl)
    (he2 : starEach (.Call (.Name "set" p2) [e] [] pos2 :: []) X.env = (false, eval (.Call (.Name "set" p2) [e] [] pos2) X.env) :: starEach [] X.env := by rfl) (hpl2 : (backTo pos (starEach [] X.env)).any (·.1) = false := by rfl) :
    QL X E (.Call (.Name "sorted" p) [.Call (.Name "set" p2) [e] [] pos2] [] pos) (tCB (rSortedSet wd) (tCons (tCB (rSetOf K wd) tA) tNil)) (lCall (one sortSetD) al) := by
  subst hK hw
  refine ⟨pe_callB (cr_sortedSet hc) hg hm (by decide +kernel) (pa_cons (pe_callTy (cr_setOf hc) hg2 hm2 (by decide +kernel) ha.pa (by decide) (by decide) he hpl) pa_nil he2) (by decide) (by decide) he2 hpl2, fun w ro σ Q en h => ?_⟩
  refine ha.sa w ro σ _ en (h.bind.mono (fun ds w1 x1 p1 m1 k vs rvs => ?_) fun _ _ _ z => z)
  obtain ⟨v, d, rfl, rfl, rv, k⟩ := one_rep rvs k
  unfold sortSetD at k
  split at k
  · rename_i xs hx
    split at k
    · rename_i ns hn
      split at k
      · rename_i h63
        obtain ⟨a, us, rfl, hH, rl⟩ := ls_rep m1 rv hx
        have eu := ints_rep rl hn
        subst eu
        refine ⟨a, ns, rfl, SqL.of hH, h63.1, fun p c hp hcn => ?_⟩
        refine ⟨p, _, c, rfl, upd_same, by rw [hcn]; exact h63.2, fun ns2 p3 h1 h2 h3 hp3 => ?_⟩
        have e2 : ns2 = srtS ns := up_same h1 (srtS_up ns) fun k => by rw [h2 k, srtS_mem]; simp
        subst e2
        have x2 := Ext.new m1 (o := SetO X.w p (fun j => decide (j ∈ ns)) c) hp
        exact Run.at (w' := w1.new p (SetO X.w p (fun j => decide (j ∈ ns)) c)) k x2 (m1.new hp) rfl rfl p3 _ hp3 (repL_intsOf _)
      · exact k.elim
    · exact k.elim
  · exact k.elim
end
/-! ### xs.pop(k), xs[a:b] = ys -/
def popAtD (d k : Da) : Mo Da := fun st => match d, k with
  | .han n, .int i => (match st[n]? with
    | some (.lst xs) => (match ixN xs.length i with
      | some j => (match xs[j]? with
        | some x => if big i then .ok x (st.set n (.lst (xs.eraseIdx j))) else .bad
        | none => .bad)
      | none => .bad)
    | _ => .bad)
  | _, _ => .bad
def ePopAt (a b : Sl → Mo Da) : Sl → Mo Da := fun ro => bnd (a ro) fun d => bnd (isLs d) fun _ => bnd (b ro) fun x => popAtD d x
def setSlD (d : Da) (l h : Option Int) (x : Da) : Mo Unit := fun st => match d, l, h, x with
  | .han n, some a, some c, .lst ys => (match st[n]? with
    | some (.lst xs) => if 0 ≤ a ∧ a ≤ c ∧ c ≤ xs.length ∧ xs.length + ys.length ≤ szD then .ok () (st.set n (.lst (xs.take a.toNat ++ ys ++ xs.drop c.toNat))) else .bad
    | _ => .bad)
  | _, _, _, _ => .bad
def mSetSl (v o : Sl → Mo Da) (lo hi : Sl → Mo (Option Int)) : Sl → Mo Fl := fun ro => bnd (v ro) fun x => bnd (o ro) fun d => bnd (lo ro) fun l => bnd (hi ro) fun h => bnd (setSlD d l h x) fun _ => ret (.nx ro)
section
variable {K : PySem.W.Frag} {w : Wd}
theorem RepL.erase : ∀ {vs : List V} {ds : List Da}, RepL K w vs ds → ∀ j : Nat, RepL K w (vs.eraseIdx j) (ds.eraseIdx j)
  | _, _, .nil, j => by simp; exact .nil
  | _, _, .cons r t, 0 => t
  | _, _, .cons r t, j + 1 => .cons r (t.erase j)
theorem RepL.takeN : ∀ {vs : List V} {ds : List Da}, RepL K w vs ds → ∀ j : Nat, RepL K w (vs.take j) (ds.take j)
  | _, _, .nil, j => by simp; exact .nil
  | _, _, .cons r t, 0 => .nil
  | _, _, .cons r t, j + 1 => .cons r (t.takeN j)
theorem RepL.dropN : ∀ {vs : List V} {ds : List Da}, RepL K w vs ds → ∀ j : Nat, RepL K w (vs.drop j) (ds.drop j)
  | _, _, .nil, j => by simp; exact .nil
  | _, _, .cons r t, 0 => .cons r t
  | _, _, .cons r t, j + 1 => t.dropN j
variable {E : St → XK} {ta tb : TE} {a b : Sl → Mo Da}
theorem s_popAt (ha : SE K E ta a) (hb : SE K E tb b) : SE K E (tBM K "list" rPopAt ta (tCons tb tNil)) (ePopAt a b) := fun w ro σ Q e h =>
  ha w ro σ _ e (h.bind.mono (fun d w1 x1 p1 m1 k v rv => by
    obtain ⟨ty, k2⟩ := isLs_run m1 rv k.bind
    refine ⟨ty, hb w1 ro σ _ (e.mono x1 m1) (k2.bind.mono (fun x w2 x2 p2 m2 k3 u ru => ?_) fun _ _ _ z => z)⟩
    have rv2 := rv.mono m1 x2
    unfold popAtD at k3
    split at k3
    · rename_i n i
      split at k3
      · rename_i xs hx
        split at k3
        · rename_i j hj
          split at k3
          · rename_i y hy
            split at k3
            · rename_i hb
              cases ru
              cases rv2 with
              | @han q _ hq =>
                obtain ⟨vs, hH, rl⟩ := m2.cell n q _ hq hx
                obtain ⟨z, hz, rz⟩ := rl.get hy
                have x3 : Ext w2 (w2.put n q (.lst (vs.eraseIdx j)) (.lst (xs.eraseIdx j))) := Ext.put m2 hq hx (by intro z; cases z)
                refine ⟨q, vs, i, j, z, rfl, rfl, hH, by have := hb.1; omega, by have := hb.2; omega, by rw [rl.length]; exact (ixN_seq hj).1, hz, ?_⟩
                exact Run.at (w' := w2.put n q (.lst (vs.eraseIdx j)) (.lst (xs.eraseIdx j))) k3 x3 (m2.put hq hx (by intro z; cases z) ⟨_, upd_same, (rl.erase j).mono m2 x3⟩) rfl rfl _ (rz.mono m2 x3)
            · exact k3.elim
          · exact k3.elim
        · exact k3.elim
      · exact k3.elim
    · exact k3.elim) fun _ _ _ z => z)
end
def gSubSl (to : TE) (tl th : TO) : TG := fun v σ H Q => to σ H fun o H1 => tl σ H1 fun l H2 => th σ H2 fun u H3 => ∃ (p b : Addr) (xs ys : List V) (a c : Int), o = .ref p ∧ v = .ref b ∧ l = some a ∧ u = some c ∧ H3 p = some (.lst xs) ∧ H3 b = some (.lst ys) ∧ p ≠ b ∧ 0 ≤ a ∧ a ≤ c ∧ c ≤ xs.length ∧ xs.length + ys.length ≤ sizeLine ∧
  Q σ (upd H3 p (.lst (xs.take a.toNat ++ ys ++ xs.drop c.toNat)))
section
variable {X : Cx} {E : St → XK} {o v : Expr} {lo hi : Option Expr} {to tv : TE} {tl th : TO} {mo mv : Sl → Mo Da} {ml mh : Sl → Mo (Option Int)} {pos pos' p2 : Pos}
theorem pg_subSl (ho : PE X o to) (hl : PO X lo tl) (hu : PO X hi th) (ha : ∀ v, assign (.Subscript o (.Slice lo hi none p2) pos') X.env v = (do
      let ov ← holding [v] (eval o X.env)
      let iv ← holding [v, ov] (eval (.Slice lo hi none p2) X.env)
      standAt pos'
      holding [v, ov, iv] (setItem ov iv v)
      release [iv, v, ov] []) := by intro _; rfl) : PG X (.Subscript o (.Slice lo hi none p2) pos') (gSubSl to tl th) := by
  refine ⟨fun pins s σ H v u Q I r h => ?_⟩
  rw [ha]
  refine wpAny_bind (wpAny_holding (thn (ho.run pins s σ H _ I h) fun ov s1 ⟨x, H1, I1, r1, q1⟩ => wpAny_bind (wpAny_holding ?_)))
  refine wpAny_Slice (thn (hl.run pins s1 σ H1 _ I1 q1) fun vl s2 ⟨l, H2, I2, pl, q2⟩ => thn (hu.run pins s2 σ H2 _ I2 q2) fun vu s3 ⟨uu, H3, I3, pu, q3⟩ => ?_)
  rw [evalPart_none]
  refine wpAny_pure (wpAny_bind (wpAny_standAt (wpAny_bind (wpAny_holding ?_))))
  obtain ⟨p, b, xs, ys, a, c, rfl, rfl, rfl, rfl, h1, h2, hne, h3, h4, h5, h6, q⟩ := q3
  cases r1
  cases r
  have I4 : Inv X pins σ H3 { s3 with heap := s3.heap.push { cls := .type "slice", data := .fields #[vl, vu, .none] } } := I3.kept (t' := s3.toks) fun b ob q => Heap.get?_push_of_some _ q
  cases pl with
  | int a ta =>
    cases pu with
    | int c tc =>
      exact set_slice I4 h1 h2 hne (Heap.IsSliceOf.new ..) ⟨_, rfl⟩ ⟨_, rfl⟩ h3 h4 h5 h6 fun s5 I5 => wpAny_release ⟨σ, _, I5, q⟩
theorem qs_setSl (hv : QE X E v tv mv) (ho : QE X E o to mo) (hl : QP X E lo tl ml) (hh : QP X E hi th mh) (ha : ∀ v, assign (.Subscript o (.Slice lo hi none p2) pos') X.env v = (do
      let ov ← holding [v] (eval o X.env)
      let iv ← holding [v, ov] (eval (.Slice lo hi none p2) X.env)
      standAt pos'
      holding [v, ov, iv] (setItem ov iv v)
      release [iv, v, ov] []) := by intro _; rfl) (hs : swapsWithSole [.Subscript o (.Slice lo hi none p2) pos'] v pos.line X.env = pure false := by rfl) (hw : swappedStores [.Subscript o (.Slice lo hi none p2) pos'] v X.env = pure none := by rfl)
    (h1 : (assignEach [.Subscript o (.Slice lo hi none p2) pos'] X.env).map (·.2) = [assign (.Subscript o (.Slice lo hi none p2) pos') X.env] := by rfl) : QS X E (.Assign [.Subscript o (.Slice lo hi none p2) pos'] v pos) (tAsg tv (gSubSl to tl th)) (mSetSl mv mo ml mh) :=
  ⟨ps_asg hv.pe (pg_subSl ho.pe hl.po hh.po ha) hs hw h1, fun w ro σ D e h =>
    hv.se w ro σ _ e (h.bind.mono (fun x w1 x1 p1 m1 k u ru => ho.se w1 ro σ _ (e.mono x1 m1) (k.bind.mono (fun d w2 x2 p2 m2 k2 u2 ru2 =>
      hl.so w2 ro σ _ (e.mono (x1.trans x2) m2) (k2.bind.mono (fun l w3 x3 p3 m3 k3 => hh.so w3 ro σ _ (e.mono (x1.trans (x2.trans x3)) m3) (k3.bind.mono (fun uu w4 x4 p4 m4 k4 => by
        have rx := ru.mono m1 (x2.trans (x3.trans x4))
        have rd := ru2.mono m2 (x3.trans x4)
        have e4 := e.mono (x1.trans (x2.trans (x3.trans x4))) m4
        have k5 := k4.bind
        unfold setSlD at k5
        split at k5
        · rename_i n a c ys
          split at k5
          · rename_i xs hx
            split at k5
            · rename_i hc
              obtain ⟨c1, c2, c3, c4⟩ := hc
              cases rd with
              | @han q _ hq =>
                cases rx with
                | @lst b us _ hb nb rb =>
                  obtain ⟨vs, hH, rl⟩ := m4.cell n q _ hq hx
                  have hlv : Live w4 q := .inr ⟨n, _, hq, hx, by intro z; cases z⟩
                  have hne : q ≠ b := fun z => nb (z ▸ hlv)
                  have x5 : Ext w4 (w4.put n q (.lst (vs.take a.toNat ++ us ++ vs.drop c.toNat)) (.lst (xs.take a.toNat ++ ys ++ xs.drop c.toNat))) := Ext.put m4 hq hx (by intro z; cases z)
                  have rn : RepL X.K w4 (vs.take a.toNat ++ us ++ vs.drop c.toNat) (xs.take a.toNat ++ ys ++ xs.drop c.toNat) := ((rl.takeN _).append rb).append (rl.dropN _)
                  have m5 : Em X.K (w4.put n q (.lst (vs.take a.toNat ++ us ++ vs.drop c.toNat)) (.lst (xs.take a.toNat ++ ys ++ xs.drop c.toNat))) := m4.put hq hx (by intro z; cases z) ⟨_, upd_same, rn.mono m4 x5⟩
                  have k6 := Run.at (w' := w4.put n q (.lst (vs.take a.toNat ++ us ++ vs.drop c.toNat)) (.lst (xs.take a.toNat ++ ys ++ xs.drop c.toNat))) k5 x5 m5 rfl rfl
                  exact ⟨q, b, vs, us, a, c, rfl, rfl, rfl, rfl, hH, hb, hne, c1, c2, by rw [rl.length]; exact c3, by rw [rl.length, rb.length]; exact szD_le c4, Run.here m5 k6 σ (e4.mono x5 m5)⟩
            · exact k5.elim
          · exact k5.elim
        · exact k5.elim) fun _ _ _ z => z σ)) fun _ _ _ z => z σ)) fun _ _ _ z => z σ)) fun _ _ _ z => z σ)⟩
theorem q_popAt {a b : Expr} {ta tb : TE} {ma mb : Sl → Mo Da} {K : PySem.W.Frag} {apos : Pos} (ha : QE X E a ta ma) (hb : QE X E b tb mb) (hbase : attributeBase a "pop" X.env (eval a X.env) = eval a X.env := by rfl)
    (hfew : ((backTo pos (starEach (b :: []) X.env)).all (fun x => !x.1) && (backToKw pos (keywordEach [] X.env)).all (fun x => x.1.isSome) && decide ((b :: []).length + ([] : List Keyword).length + (if ([] : List Keyword).isEmpty then 0 else 1) < 30)) = true := by rfl) (hline : (apos.endLine == pos.line) = true := by rfl) (hs : starEach (b :: []) X.env = (false, eval b X.env) :: starEach [] X.env := by rfl) (hpl : (backTo pos (starEach [] X.env)).any (·.1) = false := by rfl) (hK : X.K = K := by rfl) :
    QE X E (.Call (.Attribute a "pop" apos) [b] [] pos) (tBM K "list" rPopAt ta (tCons tb tNil)) (ePopAt ma mb) := by
  subst hK
  exact ⟨pe_bm PySem.F.plainAttrs_list PySem.F.slot_list_pop PySem.F.type_list_pop mt_popAt ha.pe (pa_cons hb.pe pa_nil hs) hbase hfew hline hs hpl, s_popAt ha.se hb.se⟩
end
/-! ### xs.index(x), deep -/
theorem room1 {k : Nat} {A : Around} (r : Room k A) : A.units + 65 < cLine := by have := r.un; omega
def indexD (d x : Da) : Mo Da := fun st => match pyD st d, pyD st x with
  | some (.list qs), some p => if (SeqAt.shaped (.list qs) && SeqAt.shaped p) = true then (match qs.findIdx? (fun z => PyData.eqv z p) with
    | some j => .ok (.int (j : Nat)) st
    | none => .bad) else .bad
  | _, _ => .bad
def eIndex (a b : Sl → Mo Da) : Sl → Mo Da := fun ro => bnd (a ro) fun d => bnd (isLs d) fun _ => bnd (b ro) fun x => indexD d x
section
variable {K : PySem.W.Frag} {E : St → XK} {ta tb : TE} {a b : Sl → Mo Da}
theorem s_index (ha : SE K E ta a) (hb : SE K E tb b) : SE K E (tBM K "list" (rIndexD K) ta (tCons tb tNil)) (eIndex a b) := fun w ro σ Q e h =>
  ha w ro σ _ e (h.bind.mono (fun d w1 x1 p1 m1 k v rv => by
    obtain ⟨ty, k2⟩ := isLs_run m1 rv k.bind
    refine ⟨ty, hb w1 ro σ _ (e.mono x1 m1) (k2.bind.mono (fun x w2 x2 p2 m2 k3 u ru => ?_) fun _ _ _ z => z)⟩
    have rv2 := rv.mono m1 x2
    unfold indexD at k3
    split at k3
    · rename_i qs p hq hp
      split at k3
      · rename_i hs
        obtain ⟨s1, s2⟩ := Bool.and_eq_true_iff.mp hs
        split at k3
        · rename_i j hj
          have d1 := dp_py m2 rv2 hq
          have d2 := dp_py m2 ru hp
          have hv : ∃ q, v = .ref q := by
            cases d1
            exact ⟨_, rfl⟩
          obtain ⟨q, rfl⟩ := hv
          obtain ⟨hjl, hj1, hj2⟩ := List.findIdx?_eq_some_iff_getElem.mp hj
          refine ⟨q, u, p, qs, j, qs[j], rfl, rfl, d1, d2, s1, s2, List.getElem?_eq_getElem hjl, hj1, fun m z' hm hz => ?_, k3.here m2 _ (.int _)⟩
          obtain ⟨hml, rfl⟩ := List.getElem?_eq_some_iff.mp hz
          have := hj2 m hm
          simpa using this
        · exact k3.elim
      · exact k3.elim
    · exact k3.elim) fun _ _ _ z => z)
end
section
variable {X : Cx} {E : St → XK} {pos : Pos}
theorem q_index {a b : Expr} {ta tb : TE} {ma mb : Sl → Mo Da} {K : PySem.W.Frag} {apos : Pos} (hu : X.A.units + 65 < cLine) (ha : QE X E a ta ma) (hb : QE X E b tb mb) (hbase : attributeBase a "index" X.env (eval a X.env) = eval a X.env := by rfl)
    (hfew : ((backTo pos (starEach (b :: []) X.env)).all (fun x => !x.1) && (backToKw pos (keywordEach [] X.env)).all (fun x => x.1.isSome) && decide ((b :: []).length + ([] : List Keyword).length + (if ([] : List Keyword).isEmpty then 0 else 1) < 30)) = true := by rfl) (hline : (apos.endLine == pos.line) = true := by rfl) (hs : starEach (b :: []) X.env = (false, eval b X.env) :: starEach [] X.env := by rfl) (hpl : (backTo pos (starEach [] X.env)).any (·.1) = false := by rfl) (hK : X.K = K := by rfl) :
    QE X E (.Call (.Attribute a "index" apos) [b] [] pos) (tBM K "list" (rIndexD K) ta (tCons tb tNil)) (eIndex ma mb) := by
  subst hK
  exact ⟨pe_bm PySem.F.plainAttrs_list PySem.F.slot_list_index PySem.F.type_list_index (mt_indexD hu) ha.pe (pa_cons hb.pe pa_nil hs) hbase hfew hline hs hpl, s_index ha.se hb.se⟩
end
end CL
namespace CL
open PySem PySem.Spec L2
/-! ### objects: fields -/
def fldD (cs : List Str) (f : Str) (d : Da) : Mo Da := fun st => match d with
  | .han n => (match st[n]? with
    | some (.ins c fs) => if c ∈ cs then (match fs.lookup f with
      | some x => .ok x st
      | none => .bad) else .bad
    | _ => .bad)
  | _ => .bad
def eFld (cs : List Str) (f : Str) (a : Sl → Mo Da) : Sl → Mo Da := fun ro => bnd (a ro) (fldD cs f)
def setFD (cs : List Str) (f : Str) (d x : Da) : Mo Unit := fun st => match d with
  | .han n => (match st[n]? with
    | some (.ins c fs) => if c ∈ cs ∧ fs.length < 1000 then .ok () (st.set n (.ins c (putD f x fs))) else .bad
    | _ => .bad)
  | _ => .bad
def mFld (cs : List Str) (f : Str) (v o : Sl → Mo Da) : Sl → Mo Fl := fun ro => bnd (v ro) fun x => bnd (o ro) fun d => bnd (setFD cs f d x) fun _ => ret (.nx ro)
def mFldAug (c : Str) (f : Str) (g : Int → Int → Int) (o v : Sl → Mo Da) : Sl → Mo Fl := fun ro => bnd (o ro) fun d => bnd (fldD [c] f d) fun x => bnd (v ro) fun y => match x, y with
  | .int p, .int q => bnd (setFD [c] f d (.int (g p q))) fun _ => ret (.nx ro)
  | _, _ => nop
/-- what is known of classes -/
def ClsF (K : PySem.W.Frag) (cs : List Str) (f : Str) : Prop := ∀ c ∈ cs, Cls K (He.ga K c) ∧ NoAttr K (He.ga K c) f
theorem clsF_nil {K : PySem.W.Frag} {f : Str} : ClsF K [] f := fun c h => absurd h (by simp)
theorem clsF_cons {K : PySem.W.Frag} {f c : Str} {cs : List Str} (h1 : Cls K (He.ga K c)) (h2 : NoAttr K (He.ga K c) f) (h : ClsF K cs f) : ClsF K (c :: cs) f := fun d hd => by
  rcases List.mem_cons.mp hd with rfl | hd
  · exact ⟨h1, h2⟩
  · exact h d hd
def inCls (s : Stmt) (j : Nat) : Stmt := match s with
  | .ClassDef _ _ _ body _ _ _ _ _ _ _ => body.getD j (.Pass ⟨0, 0, 0, 0⟩)
  | _ => .Pass ⟨0, 0, 0, 0⟩
section
variable {K : PySem.W.Frag} {E : St → XK} {ta tv : TE} {a v : Sl → Mo Da} {cs : List Str} {f : Str}
theorem fld_run {w : Wd} {d : Da} {x : V} {ok : Da → Wd → Prop} {ex : Str → List Da → Wd → Prop} (hC : ClsF K cs f) (m : Em K w) (r : Rep K w x d) (h : Run K w (fldD cs f d w.st) ok ex) :
    ∃ (p C dx : Addr) (fs : List (Str × V)) (u : V) (y : Da), x = .ref p ∧ w.H p = some (.ins C dx fs) ∧ (∃ c ∈ cs, C = He.ga K c) ∧ Cls K C ∧ NoAttr K C f ∧ fs.lookup f = some u ∧ Rep K w u y ∧ ok y w := by
  unfold fldD at h
  split at h
  · rename_i n
    split at h
    · rename_i c fs hx
      split at h
      · rename_i hc
        split at h
        · rename_i y hy
          cases r with
          | @han p _ hp =>
            obtain ⟨dx, vfs, hH, rf⟩ := m.cell n p _ hp hx
            obtain ⟨u, hu, ru⟩ := rf.lookup hy
            exact ⟨p, _, dx, vfs, u, y, rfl, hH, ⟨c, hc, rfl⟩, (hC c hc).1, (hC c hc).2, hu, ru, h.here m⟩
        · exact h.elim
      · exact h.elim
    · exact h.elim
  · exact h.elim
theorem s_fld (hC : ClsF K cs f) (ha : SE K E ta a) : SE K E (tFld K ta f) (eFld cs f a) := fun w ro σ Q e h =>
  ha w ro σ _ e (h.bind.mono (fun d w1 x1 p1 m1 k v rv => by
    obtain ⟨p, C, dx, fs, u, y, rfl, hH, _, c, n, l, ru, q⟩ := fld_run hC m1 rv k
    exact ⟨p, C, dx, fs, u, rfl, hH, c, n, l, q u ru⟩) fun _ _ _ z => z)
theorem setF_run {w : Wd} {d y : Da} {x u : V} {ok : Unit → Wd → Prop} {ex : Str → List Da → Wd → Prop} (hC : ClsF K cs f) (m : Em K w) (r : Rep K w x d) (ru : Rep K w u y) (h : Run K w (setFD cs f d y w.st) ok ex) :
    ∃ (p C dx : Addr) (fs : List (Str × V)) (w' : Wd), x = .ref p ∧ w.H p = some (.ins C dx fs) ∧ (∃ c ∈ cs, C = He.ga K c) ∧ Cls K C ∧ NoAttr K C f ∧ fs.length < 1000 ∧ w'.H = upd w.H p (.ins C dx (putF f u fs)) ∧ Ext w w' ∧ w'.pv = w.pv ∧ Em K w' ∧ ok () w' := by
  unfold setFD at h
  split at h
  · rename_i n
    split at h
    · rename_i c fs hx
      split at h
      · rename_i hc
        cases r with
        | @han p _ hp =>
          obtain ⟨dx, vfs, hH, rf⟩ := m.cell n p _ hp hx
          have x2 : Ext w (w.put n p (.ins (He.ga K c) dx (putF f u vfs)) (.ins c (putD f y fs))) := Ext.put m hp hx (by intro z; cases z)
          have m2 : Em K (w.put n p (.ins (He.ga K c) dx (putF f u vfs)) (.ins c (putD f y fs))) := m.put hp hx (by intro z; cases z) ⟨dx, _, upd_same, (rf.put ru).mono m x2⟩
          exact ⟨p, _, dx, vfs, _, rfl, hH, ⟨c, hc.1, rfl⟩, (hC c hc.1).1, (hC c hc.1).2, by rw [rf.length]; exact hc.2, rfl, x2, rfl, m2, Run.at h x2 m2 rfl rfl⟩
      · exact h.elim
    · exact h.elim
  · exact h.elim
theorem ss_fld (hC : ClsF K cs f) (hv : SE K E tv v) (ha : SE K E ta a) : SS K E (sFld K ta tv f) (mFld cs f v a) := fun w ro σ D e h =>
  hv w ro σ _ e (h.bind.mono (fun y w1 x1 p1 m1 k u ru => ha w1 ro σ _ (e.mono x1 m1) (k.bind.mono (fun d w2 x2 p2 m2 k2 x rx => by
    obtain ⟨p, C, dx, fs, w3, rfl, hH, _, c, n, l, hH3, x3, p3, m3, k3⟩ := setF_run hC m2 rx (ru.mono m1 x2) k2.bind
    refine ⟨p, C, dx, fs, rfl, hH, c, n, l, ?_⟩
    rw [← hH3]
    exact k3.here m3 σ (e.mono (x1.trans (x2.trans x3)) m3)) fun _ _ _ z => z σ)) fun _ _ _ z => z σ)
theorem ss_fldaug {c0 : Str} {g : Int → Int → Int} {rd : V → V → Hp → VK → Prop} (hrd : ∀ i j H Q, Q (.int (g i j)) H → rd (.int i) (.int j) H Q) (hC : ClsF K [c0] f) (ha : SE K E ta a) (hv : SE K E tv v) : SS K E (sFldAug K ta tv rd f) (mFldAug c0 f g a v) := fun w ro σ D e h =>
  ha w ro σ _ e (h.bind.mono (fun d w1 x1 p1 m1 k x rx => by
    obtain ⟨p, C, dx, fs, u, y, rfl, hH, ⟨c1, hc1, eC1⟩, c, n, l, ru, k2⟩ := fld_run hC m1 rx k.bind
    refine ⟨p, C, dx, fs, u, rfl, hH, c, n, l, hv w1 ro σ _ (e.mono x1 m1) (k2.bind.mono (fun z w2 x2 p2 m2 k3 t rt => ?_) fun _ _ _ z => z σ)⟩
    split at k3
    · rename_i i j
      have ru2 := ru.mono m1 x2
      cases ru2
      cases rt
      refine hrd _ _ _ _ ?_
      obtain ⟨p', C', dx', fs', w3, ep, hH', ⟨c2, hc2, eC2⟩, c', n', l', hH3, x3, p3, m3, k4⟩ := setF_run hC m2 (rx.mono m1 x2) (.int _) k3.bind
      cases ep
      rw [List.mem_singleton] at hc1 hc2
      subst hc1 hc2 eC1 eC2
      refine ⟨dx', fs', hH', l', ?_⟩
      rw [← hH3]
      exact k4.here m3 σ (e.mono (x1.trans (x2.trans x3)) m3)
    · exact k3.elim) fun _ _ _ z => z σ)
end
/-! ### methods, making -/
def isIns (c m : Str) (d : Da) : Mo Unit := fun st => match d with
  | .han n => (match st[n]? with
    | some (.ins c' fs) => if c' = c ∧ fs.lookup m = none then .ok () st else .bad
    | _ => .bad)
  | _ => .bad
def eMeth (c m : Str) (f : List Da → Mo Da) (a : Sl → Mo Da) (al : Sl → Mo (List Da)) : Sl → Mo Da := fun ro => bnd (a ro) fun d => bnd (isIns c m d) fun _ => bnd (al ro) fun ds => f (d :: ds)
def newI (c : Str) : Mo Unit := fun st => .ok () (st ++ [.ins c []])
def isNon : Da → Mo Unit
  | .non => ret ()
  | _ => nop
def makeD (c : Str) (f : List Da → Mo Da) (ds : List Da) : Mo Da := fun st => bnd (newI c) (fun _ => bnd (f (.han st.length :: ds)) fun r => bnd (isNon r) fun _ => ret (.han st.length)) st
def eMake (c : Str) (f : List Da → Mo Da) (al : Sl → Mo (List Da)) : Sl → Mo Da := fun ro => bnd (al ro) (makeD c f)
section
variable {K : PySem.W.Frag} {E : XK} {ta : TE} {a : Sl → Mo Da} {tA : TA} {al : Sl → Mo (List Da)} {c m : Str} {n : Nat} {f : List Da → Mo Da} {dvs : List V} {dds : List Da}
theorem s_meth (hd : ∀ w, Em K w → RepL K w dvs dds) (ha : SE K (fun _ => E) ta a) (hA : SA K (fun _ => E) tA al) : SE K (fun _ => E) (tMeth (He.ga K c) m (SpOf K n f) dvs E ta tA) (eMeth c m (fun ds => ar n f (ds ++ dds)) a al) := fun w ro σ Q e h =>
  ha w ro σ _ e (h.bind.mono (fun d w1 x1 p1 m1 k x rx => by
    have k2 := k.bind
    unfold isIns at k2
    split at k2
    · rename_i i
      split at k2
      · rename_i c' fs hx
        split at k2
        · rename_i hc
          obtain ⟨rfl, hl⟩ := hc
          cases rx with
          | @han p _ hp =>
            obtain ⟨dx, vfs, hH, rf⟩ := m1.cell i p _ hp hx
            refine ⟨p, dx, vfs, rfl, hH, rf.lookup_none hl, hA w1 ro σ _ (e.mono x1 m1) ((k2.here m1).bind.mono (fun ds w2 x2 p2 m2 k3 vs rv => ?_) fun _ _ _ z => z)⟩
            exact spOf_of m2 (.cons (.han (x2.at hp)) (rv.append (hd w2 m2))) k3
        · exact k2.elim
      · exact k2.elim
    · exact k2.elim) fun _ _ _ z => z)
theorem make_run {w : Wd} {vs : List V} {ds : List Da} {Q : VK} (m1 : Em K w) (rv : RepL K w vs ds) (h : Run K w (makeD c (fun ds => ar n f ds) ds w.st) (OkV K Q) (XP K E)) (x dx : Addr) (h1 : w.H x = none) (h2 : w.H dx = none) (h3 : dx ≠ x) :
    SpOf K n f (.ref x :: vs) (upd (upd w.H dx (.own x)) x (.ins (He.ga K c) dx [])) (fun v H2 => v = .non ∧ Q (.ref x) H2) E := by
  have m2 : Em K (w.new dx (.own x)) := m1.new h2
  have x2 : Ext w (w.new dx (.own x)) := Ext.new m1 h2
  have h1' : (w.new dx (.own x)).H x = none := by
    show upd w.H dx (.own x) x = none
    rw [upd_ne (Ne.symm h3)]
    exact h1
  have x3 : Ext (w.new dx (.own x)) ((w.new dx (.own x)).push x (.ins (He.ga K c) dx []) (.ins c [])) := Ext.push m2 h1'
  have m3 : Em K ((w.new dx (.own x)).push x (.ins (He.ga K c) dx []) (.ins c [])) := m2.push h1' ⟨dx, [], upd_same, .nil⟩
  have hat : ((w.new dx (.own x)).push x (.ins (He.ga K c) dx []) (.ins c [])).io[w.st.length]? = some x := push_at m2
  have h' : Run K ((w.new dx (.own x)).push x (.ins (He.ga K c) dx []) (.ins c [])) (bnd (ar n f (.han w.st.length :: ds)) (fun r => bnd (isNon r) fun _ => ret (.han w.st.length)) (w.st ++ [.ins c []])) (OkV K Q) (XP K E) := Run.ext h (x2.trans x3) rfl
  refine spOf_of (w := (w.new dx (.own x)).push x (.ins (He.ga K c) dx []) (.ins c [])) (ds := .han w.st.length :: ds) m3 (.cons (.han hat) (rv.mono m1 (x2.trans x3))) (Run.bind h' |>.mono (fun r w4 x4 p4 m4 k v rv4 => ?_) fun _ _ _ z => z)
  have k2 := k.bind
  cases r with
  | non =>
    cases rv4
    exact ⟨rfl, Run.here m4 (Run.here m4 k2) _ (.han (x4.at hat))⟩
  | bl b => exact k2.elim
  | int i => exact k2.elim
  | str s => exact k2.elim
  | tup xs => exact k2.elim
  | lst xs => exact k2.elim
  | fro xs => exact k2.elim
  | han i => exact k2.elim
theorem s_make (hd : ∀ w, Em K w → RepL K w dvs dds) (hA : SA K (fun _ => E) tA al) : SE K (fun _ => E) (tMake (He.ga K c) (SpOf K n f) dvs E tA) (eMake c (fun ds => ar n f ds) (fun ro => bnd (al ro) fun ds => ret (ds ++ dds))) := fun w ro σ Q e h => by
  unfold eMake at h
  rw [bnd_assoc] at h
  exact hA w ro σ _ e (h.bind.mono (fun ds w1 x1 p1 m1 k vs rv x dx h1 h2 h3 => make_run m1 (rv.append (hd w1 m1)) k x dx h1 h2 h3) fun _ _ _ z => z)
end
/-! ### the rules -/
/-- a method, a class, that can be called -/
structure CalM (P : Program) (wd : World) (K : PySem.W.Frag) (mg : Str → Option Value) (base : Heap) (k : Nat) (c m : Str) (n : Nat) (f : List Da → Mo Da) (dvs : List V) : Prop where
  ex : ∃ (q : Addr) (fd : FuncData) (ps : List Str) (ds : List Value), Cls K (He.ga K c) ∧ Meth K (He.ga K c) m q ∧ Binds K fd ps ds ∧ Vals dvs ds ∧ FnOk P wd K mg base (L2.CX P wd) k q fd ps (SpOf K n f)
structure CalC (P : Program) (wd : World) (K : PySem.W.Frag) (mg : Str → Option Value) (base : Heap) (k : Nat) (c : Str) (n : Nat) (f : List Da → Mo Da) (dvs : List V) : Prop where
  ex : ∃ (q : Addr) (fd : FuncData) (ps : List Str) (ds : List Value), mg c = some (.ref (He.ga K c)) ∧ Mk K (He.ga K c) q ∧ Binds K fd ps ds ∧ Vals dvs ds ∧ FnOk P wd K mg base (L2.CX P wd) k q fd ps (SpOf K n f)
/-- .. with keywords ks behind n1 values and the instance -/
structure CalCK (P : Program) (wd : World) (K : PySem.W.Frag) (mg : Str → Option Value) (base : Heap) (k : Nat) (c : Str) (n1 : Nat) (ks : List Str) (n : Nat) (f : List Da → Mo Da) (gV : List V → List V → List V) (gD : List Da → List Da → List Da) : Prop where
  ex : ∃ (q : Addr) (fd : FuncData) (ps : List Str) (g : List Value → List Value → List Value), mg c = some (.ref (He.ga K c)) ∧ Mk K (He.ga K c) q ∧ KBn K fd ps (n1 + 1) ks g gV ∧ FnOk P wd K mg base (L2.CX P wd) k q fd ps (SpOf K n f)
  rep : ∀ (w : Wd) (vs zs : List V) (ds es : List Da), Em K w → RepL K w vs ds → RepL K w zs es → vs.length = n1 + 1 → zs.length = ks.length → RepL K w (gV vs zs) (gD ds es)
theorem passes_of' {X : Cx} {E : XK} (hx : ∀ σ, PassesAt (L2.CX X.prog X.w) X σ E) : Passes (L2.CX X.prog X.w) X E := fun pins σ H s e s' I c => hx σ pins H s e s' I c
structure QK (X : Cx) (E : St → XK) (kws : List Keyword) (ta : TA) (m : Sl → Mo (List Da)) : Prop where
  pk : PK X kws ta
  sa : SA X.K E ta m
/-- two lists, one behind another, then a new instance -/
def eMakeK (c : Str) (f : List Da → Mo Da) (n1 m : Nat) (gD : List Da → List Da → List Da) (al kl : Sl → Mo (List Da)) : Sl → Mo Da := fun ro => bnd (al ro) fun ds => bnd (kl ro) fun es st => if ds.length = n1 ∧ es.length = m then bnd (newI c) (fun _ => bnd (f (gD (.han st.length :: ds) es)) fun r => bnd (isNon r) fun _ => ret (.han st.length)) st else .bad
section
variable {X : Cx} {E : XK} {o v e : Expr} {es : List Expr} {to tv te : TE} {mo mv me : Sl → Mo Da} {tA tK : TA} {al kl : Sl → Mo (List Da)} {cs : List Str} {f m c : Str} {pos pos' apos : Pos} {E' : St → XK}
theorem q_fld {K : PySem.W.Frag} (hC : ClsF K cs f) (he : QE X E' o to mo) (hb : attributeBase o f X.env (eval o X.env) = eval o X.env := by rfl) (hK : X.K = K := by rfl) : QE X E' (.Attribute o f pos) (tFld K to f) (eFld cs f mo) := by
  subst hK
  exact ⟨pe_fld he.pe hb, s_fld hC he.se⟩
theorem qs_fld {K : PySem.W.Frag} (hC : ClsF K cs f) (hv : QE X E' v tv mv) (ho : QE X E' o to mo) (hs : swapsWith v (some (.Attribute o f pos')) pos.line X.env = pure false := by rfl) (hK : X.K = K := by rfl) : QS X E' (.Assign [.Attribute o f pos'] v pos) (sFld K to tv f) (mFld cs f mv mo) := by
  subst hK
  exact ⟨ps_fld ho.pe hv.pe hs, ss_fld hC hv.se ho.se⟩
theorem qs_fldadd {K : PySem.W.Frag} (hC : ClsF K [c] f) (ho : QE X E' o to mo) (hv : QE X E' v tv mv) (hK : X.K = K := by rfl) : QS X E' (.AugAssign (.Attribute o f pos') .Add v pos) (sFldAug K to tv L2.rAdd f) (mFldAug c f (fun i j => i + j) mo mv) := by
  subst hK
  exact ⟨ps_fldaug ho.pe hv.pe in_add, ss_fldaug (fun i j H Q h => ⟨i, j, rfl, rfl, h⟩) hC ho.se hv.se⟩
theorem q_meth {P : Program} {wd : World} {K : PySem.W.Frag} {mg : Str → Option Value} {base : Heap} {k n : Nat} {dvs : List V} {dds : List Da} {fm : List Da → Mo Da} {pl : Sem Bool} (F : CalM P wd K mg base k c m n fm dvs) (hr : Room k X.A) (hx : ∀ σ, PassesAt (L2.CX X.prog X.w) X σ E)
    (ho : QE X (fun _ => E) o to mo) (ha : QA X (fun _ => E) (e :: es) tA al) (hP : X.prog = P := by rfl) (hw : X.w = wd := by rfl) (hK : X.K = K := by rfl) (hmg : X.mg = mg := by rfl) (hbase : X.base = base := by rfl) (hdd : ∀ w, Em K w → RepL K w dvs dds := by intro w m; first | exact .nil | exact .cons (.int _) .nil)
    (hst : starEach (e :: es) X.env = (false, eval e X.env) :: starEach es X.env := by rfl) (hpl : (backTo pos (starEach es X.env)).any (·.1) = false := by rfl)
    (ht : eval (.Call (.Attribute o m apos) (e :: es) [] pos) X.env = (do
      let ov ← eval o X.env
      standAt apos.atName
      let (f, first) ← holding [ov] (getMethod ov m pl)
      callWith pos f first (backTo pos (starEach (e :: es) X.env)) (backToKw pos (keywordEach [] X.env))) := by rfl) :
    QE X (fun _ => E) (.Call (.Attribute o m apos) (e :: es) [] pos) (tMeth (He.ga K c) m (SpOf K n fm) dvs E to tA) (eMeth c m (fun ds => ar n fm (ds ++ dds)) mo al) := by
  subst hP hw hK hmg hbase
  obtain ⟨q, fd, ps, ds, hc, hm, hb, hd, F⟩ := F.ex
  exact ⟨pe_meth ho.pe hc hm F hr hb hd (passes_of' hx) ha.pa hst hpl ht, s_meth hdd ho.se ha.sa⟩
theorem q_meth0 {P : Program} {wd : World} {K : PySem.W.Frag} {mg : Str → Option Value} {base : Heap} {k n : Nat} {dvs : List V} {dds : List Da} {fm : List Da → Mo Da} {pl : Sem Bool} (F : CalM P wd K mg base k c m n fm dvs) (hr : Room k X.A) (hx : ∀ σ, PassesAt (L2.CX X.prog X.w) X σ E)
    (ho : QE X (fun _ => E) o to mo) (hP : X.prog = P := by rfl) (hw : X.w = wd := by rfl) (hK : X.K = K := by rfl) (hmg : X.mg = mg := by rfl) (hbase : X.base = base := by rfl) (hdd : ∀ w, Em K w → RepL K w dvs dds := by intro w m; first | exact .nil | exact .cons (.int _) .nil)
    (ht : eval (.Call (.Attribute o m apos) [] [] pos) X.env = (do
      let ov ← eval o X.env
      standAt apos.atName
      let (f, first) ← holding [ov] (getMethod ov m pl)
      callWith pos f first (backTo pos (starEach [] X.env)) (backToKw pos (keywordEach [] X.env))) := by rfl) :
    QE X (fun _ => E) (.Call (.Attribute o m apos) [] [] pos) (tMeth (He.ga K c) m (SpOf K n fm) dvs E to tNil) (eMeth c m (fun ds => ar n fm (ds ++ dds)) mo aNil) := by
  subst hP hw hK hmg hbase
  obtain ⟨q, fd, ps, ds, hc, hm, hb, hd, F⟩ := F.ex
  exact ⟨pe_meth0 ho.pe hc hm F hr hb hd (passes_of' hx) ht, s_meth hdd ho.se s_nil⟩
theorem q_make {P : Program} {wd : World} {K : PySem.W.Frag} {mg : Str → Option Value} {base : Heap} {k n : Nat} {dvs : List V} {dds : List Da} {fm : List Da → Mo Da} {p : Pos} (F : CalC P wd K mg base k c n fm dvs) (hr : Room (k + 1) X.A) (hx : ∀ σ, PassesAt (L2.CX X.prog X.w) X σ E)
    (ha : QA X (fun _ => E) (e :: es) tA al) (hP : X.prog = P := by rfl) (hw : X.w = wd := by rfl) (hK : X.K = K := by rfl) (hmg : X.mg = mg := by rfl) (hbase : X.base = base := by rfl) (hdd : ∀ w, Em K w → RepL K w dvs dds := by intro w m; first | exact .nil | exact .cons (.int _) .nil) (hg : Gl X c := by rfl) (hdb : (c == ("__debug__" : Str)) = false := by decide)
    (he : starEach (e :: es) X.env = (false, eval e X.env) :: starEach es X.env := by rfl) (hpl : (backTo pos (starEach es X.env)).any (·.1) = false := by rfl) :
    QE X (fun _ => E) (.Call (.Name c p) (e :: es) [] pos) (tMake (He.ga K c) (SpOf K n fm) dvs E tA) (eMake c (fun ds => ar n fm ds) (fun ro => bnd (al ro) fun ds => ret (ds ++ dds))) := by
  subst hP hw hK hmg hbase
  obtain ⟨q, fd, ps, ds, hm, M, hb, hd, F⟩ := F.ex
  exact ⟨pe_make M F hr hg hm hb hd (passes_of' hx) ha.pa hdb he hpl, s_make hdd ha.sa⟩
theorem qk_nil : QK X E' [] tNil aNil := ⟨pk_nil, s_nil⟩
theorem qk_cons {kws : List Keyword} {nm : Option Str} {kpos : Pos} (h : QE X E' e te me) (hr : QK X E' kws tA al) : QK X E' (⟨nm, e, kpos⟩ :: kws) (tCons te tA) (aCons me al) := ⟨pk_cons h.pe hr.pk, s_cons h.se hr.sa⟩
theorem makeK_run {K : PySem.W.Frag} {n : Nat} {fm : List Da → Mo Da} {w : Wd} {vs : List V} {ds : List Da} {Q : VK} {x dx : Addr} (m1 : Em K w) (h1 : w.H x = none) (h2 : w.H dx = none) (h3 : dx ≠ x)
    (hrep : ∀ w', Ext w w' → Em K w' → Rep K w' (.ref x) (.han w.st.length) → RepL K w' vs ds) (h : Run K w (bnd (newI c) (fun _ => bnd (ar n fm ds) fun r => bnd (isNon r) fun _ => ret (.han w.st.length)) w.st) (OkV K Q) (XP K E)) :
    SpOf K n fm vs (upd (upd w.H dx (.own x)) x (.ins (He.ga K c) dx [])) (fun v H2 => v = .non ∧ Q (.ref x) H2) E := by
  have m2 : Em K (w.new dx (.own x)) := m1.new h2
  have x2 : Ext w (w.new dx (.own x)) := Ext.new m1 h2
  have h1' : (w.new dx (.own x)).H x = none := by
    show upd w.H dx (.own x) x = none
    rw [upd_ne (Ne.symm h3)]
    exact h1
  have x3 : Ext (w.new dx (.own x)) ((w.new dx (.own x)).push x (.ins (He.ga K c) dx []) (.ins c [])) := Ext.push m2 h1'
  have m3 : Em K ((w.new dx (.own x)).push x (.ins (He.ga K c) dx []) (.ins c [])) := m2.push h1' ⟨dx, [], upd_same, .nil⟩
  have hat : ((w.new dx (.own x)).push x (.ins (He.ga K c) dx []) (.ins c [])).io[w.st.length]? = some x := push_at m2
  have h' : Run K ((w.new dx (.own x)).push x (.ins (He.ga K c) dx []) (.ins c [])) (bnd (ar n fm ds) (fun r => bnd (isNon r) fun _ => ret (.han w.st.length)) (w.st ++ [.ins c []])) (OkV K Q) (XP K E) := Run.ext h (x2.trans x3) rfl
  refine spOf_of (w := (w.new dx (.own x)).push x (.ins (He.ga K c) dx []) (.ins c [])) (ds := ds) m3 (hrep _ (x2.trans x3) m3 (.han hat)) (Run.bind h' |>.mono (fun r w4 x4 p4 m4 k v rv4 => ?_) fun _ _ _ z => z)
  have k2 := k.bind
  cases r with
  | non =>
    cases rv4
    exact ⟨rfl, Run.here m4 (Run.here m4 k2) _ (.han (x4.at hat))⟩
  | bl b => exact k2.elim
  | int i => exact k2.elim
  | str s => exact k2.elim
  | tup xs => exact k2.elim
  | lst xs => exact k2.elim
  | fro xs => exact k2.elim
  | han i => exact k2.elim
theorem q_makeK {P : Program} {wd : World} {K : PySem.W.Frag} {mg : Str → Option Value} {base : Heap} {k n n1 : Nat} {ks : List Str} {gV : List V → List V → List V} {gD : List Da → List Da → List Da} {fm : List Da → Mo Da} {p : Pos} {kws : List Keyword} (F : CalCK P wd K mg base k c n1 ks n fm gV gD) (hr : Room (k + 1) X.A) (hx : ∀ σ, PassesAt (L2.CX X.prog X.w) X σ E)
    (ha : QA X (fun _ => E) (e :: es) tA al) (hkw : QK X (fun _ => E) kws tK kl) (hP : X.prog = P := by rfl) (hw : X.w = wd := by rfl) (hK : X.K = K := by rfl) (hmg : X.mg = mg := by rfl) (hbase : X.base = base := by rfl) (hg : Gl X c := by rfl) (hdb : (c == ("__debug__" : Str)) = false := by decide)
    (hall : (backToKw pos (keywordEach kws X.env)).all (·.1.isSome) = true := by rfl) (hks : (backToKw pos (keywordEach kws X.env)).filterMap (·.1) = ks := by rfl)
    (he : starEach (e :: es) X.env = (false, eval e X.env) :: starEach es X.env := by rfl) (hpl : ((backTo pos (starEach (e :: es) X.env)).any (·.1) || (backToKw pos (keywordEach kws X.env)).any (·.1.isNone)) = false := by rfl) :
    QE X (fun _ => E) (.Call (.Name c p) (e :: es) kws pos) (tMakeK (He.ga K c) n1 ks.length (SpOf K n fm) gV E tA tK) (eMakeK c (fun ds => ar n fm ds) n1 ks.length gD al kl) := by
  subst hP hw hK hmg hbase
  obtain ⟨⟨q, fd, ps, g, hm, M, hb, F⟩, hrep⟩ := F
  refine ⟨pe_makeK M F hr hg hm hb (passes_of' hx) ha.pa hkw.pk hall hks hdb he hpl, fun w ro σ Q en h => ?_⟩
  refine ha.sa w ro σ _ en (h.bind.mono (fun ds w1 x1 p1 m1 k1 vs rv => hkw.sa w1 ro σ _ (en.mono x1 m1) (k1.bind.mono (fun es w2 x2 p2 m2 k2 zs rz => ?_) fun _ _ _ z => z)) fun _ _ _ z => z)
  dsimp only at k2
  split at k2
  · rename_i hl
    refine ⟨rv.length.trans hl.1, rz.length.trans hl.2, fun x dx h1 h2 h3 => ?_⟩
    refine makeK_run m2 h1 h2 h3 (fun w' x' m' rx => ?_) k2
    exact hrep w' _ _ _ _ m' (.cons rx (rv.mono m1 (x2.trans x'))) (rz.mono m2 x') (by rw [List.length_cons, rv.length, hl.1]) (rz.length.trans hl.2)
  · exact k2.elim
end
end CL
namespace CL
open PySem PySem.Spec L2
/-! ### range with a step; max and min of a list; sums -/
def rngC (lo c : Int) (n : Nat) : List Da := (List.range n).map fun (i : Nat) => Da.int (lo + (i : Int) * c)
def rgN (i j c : Int) : Nat := (Builtin.Range.rangeSize i j c : Int).toNat
def rgOk (i j c : Int) : Prop := c ≠ 0 ∧ c.natAbs < 1073741824 ∧ Builtin.Range.small i j c = true ∧ Builtin.Range.rangeSize i j c = rgN i j c
instance (i j c : Int) : Decidable (rgOk i j c) := by unfold rgOk; infer_instance
def srcR3 : List Da → Mo Src
  | [.int i, .int j, .int c] => if rgOk i j c then ret ⟨rngC i c (rgN i j c), none⟩ else nop
  | _ => nop
def iR3 (a : Sl → Mo (List Da)) : Sl → Mo Src := fun ro => bnd (a ro) srcR3
def maxL : List Int → Int
  | [] => 0
  | [x] => x
  | x :: y :: r => max x (maxL (y :: r))
def minL : List Int → Int
  | [] => 0
  | [x] => x
  | x :: y :: r => min x (minL (y :: r))
theorem maxL_is : ∀ {ns : List Int}, ns ≠ [] → maxL ns ∈ ns ∧ ∀ y ∈ ns, y ≤ maxL ns
  | [x], _ => by simp [maxL]
  | x :: y :: r, _ => by
    obtain ⟨h1, h2⟩ := maxL_is (ns := y :: r) (by simp)
    unfold maxL
    refine ⟨?_, fun z hz => ?_⟩
    · rcases Int.le_total x (maxL (y :: r)) with h | h
      · rw [Int.max_eq_right h]; exact List.mem_cons_of_mem _ h1
      · rw [Int.max_eq_left h]; exact List.mem_cons_self ..
    · rcases List.mem_cons.mp hz with rfl | hz
      · omega
      · have := h2 z hz; omega
theorem minL_is : ∀ {ns : List Int}, ns ≠ [] → minL ns ∈ ns ∧ ∀ y ∈ ns, minL ns ≤ y
  | [x], _ => by simp [minL]
  | x :: y :: r, _ => by
    obtain ⟨h1, h2⟩ := minL_is (ns := y :: r) (by simp)
    unfold minL
    refine ⟨?_, fun z hz => ?_⟩
    · rcases Int.le_total x (minL (y :: r)) with h | h
      · rw [Int.min_eq_left h]; exact List.mem_cons_self ..
      · rw [Int.min_eq_right h]; exact List.mem_cons_of_mem _ h1
    · rcases List.mem_cons.mp hz with rfl | hz
      · omega
      · have := h2 z hz; omega
def lsI (g : List Int → Option Int) (d : Da) : Mo Da := fun st => match lsOf st d with
  | some xs => (match intsOf xs with
    | some ns => (match g ns with
      | some i => .ok (.int i) st
      | none => .bad)
    | none => .bad)
  | none => .bad
def max1 : Da → Mo Da := lsI fun ns => if ns = [] then none else some (maxL ns)
def min1 : Da → Mo Da := lsI fun ns => if ns = [] then none else some (minL ns)
def sum1 : Da → Mo Da := lsI fun ns => some ns.sum
section
variable {K : PySem.W.Frag} {E : St → XK} {tA : TA} {al : Sl → Mo (List Da)} {w : Wd}
theorem rngC_get {lo c : Int} {n i : Nat} {x : Da} (h : (rngC lo c n)[i]? = some x) : i < n ∧ x = .int (lo + (i : Int) * c) := by
  unfold rngC at h
  rw [List.getElem?_map] at h
  by_cases hi : i < n
  · rw [List.getElem?_range hi] at h
    cases h
    exact ⟨hi, rfl⟩
  · rw [List.getElem?_eq_none (by simpa using hi)] at h
    cases h
theorem it_rngC {lo c : Int} {n : Nat} : ItOk K w (Itc lo c n) ⟨rngC lo c n, none⟩ := fun w' x m k => by
  refine ⟨fun i d hd => ?_, ?_⟩
  · obtain ⟨hi, rfl⟩ := rngC_get hd
    exact ⟨hi, fun v H' hy => ⟨w', hy.1.symm, rfl, rfl, Ext.refl _, m, by rw [hy.2]; exact .int _⟩⟩
  · show n ≤ (rngC lo c n).length
    unfold rngC
    simp
theorem si_r3 (ha : SA K E tA al) : SI K E (iRng3 tA) (iR3 al) := fun w ro σ R e h =>
  ha w ro σ _ e (h.bind.mono (fun ds w1 x1 p1 m1 k vs rv => by
    unfold srcR3 at k
    split at k
    · rename_i i j c
      split at k
      · rename_i hb
        cases rv with
        | cons r1 r2 =>
          cases r2 with
          | cons r2 r3 =>
            cases r3 with
            | cons r3 r4 =>
              cases r4
              cases r1
              cases r2
              cases r3
              exact ⟨i, j, c, rgN i j c, rfl, hb, k.here m1 _ it_rngC⟩
      · exact k.elim
    · exact k.elim) fun _ _ _ z => z)
theorem sc_lsI {g : List Int → Option Int} {r : List V → Hp → VK → Prop} (hr : ∀ a ns i H Q, SqL K H a (ns.map V.int) → g ns = some i → Q (.int i) H → r [.ref a] H Q) : SC K r (one (lsI g)) := fun w xs ds Q ex m rr h => by
  obtain ⟨v, d, rfl, rfl, rv, h⟩ := one_rep rr h
  unfold lsI at h
  split at h
  · rename_i ys hy
    obtain ⟨a, vs, rfl, hH, rl⟩ := ls_rep m rv hy
    split at h
    · rename_i ns hn
      have e := ints_rep rl hn
      subst e
      split at h
      · rename_i i hi
        exact hr a ns i _ _ (SqL.of hH) hi (h.here m _ (.int _))
      · exact h.elim
    · exact h.elim
  · exact h.elim
theorem sc_max1 : SC K (rMax K) (one max1) := sc_lsI fun a ns i H Q hs hi q => by
  split at hi
  · cases hi
  · rename_i hne
    cases hi
    refine ⟨a, ns, rfl, hs, List.length_pos_iff.mpr hne, fun m h1 h2 => ?_⟩
    have := maxL_is hne
    rw [show m = maxL ns from Int.le_antisymm (this.2 m h1) (h2 _ this.1)]
    exact q
theorem sc_min1 : SC K (rMin K) (one min1) := sc_lsI fun a ns i H Q hs hi q => by
  split at hi
  · cases hi
  · rename_i hne
    cases hi
    refine ⟨a, ns, rfl, hs, List.length_pos_iff.mpr hne, fun m h1 h2 => ?_⟩
    have := minL_is hne
    rw [show m = minL ns from Int.le_antisymm (h2 _ this.1) (this.2 m h1)]
    exact q
theorem sc_sum1 : SC K (rSum K) (one sum1) := sc_lsI fun a ns i H Q hs hi q => by
  cases hi
  exact ⟨a, ns, rfl, hs, q⟩
end
section
variable {X : Cx} {E : St → XK} {a b c tg : Expr} {tA : TA} {al : Sl → Mo (List Da)} {pos : Pos}
theorem qi_r3 {p : Pos} (hm : X.mg "range" = none) (h : QA X E [a, b, c] tA al) (hg : Gl X "range" := by rfl) (hs : starEach [a, b, c] X.env = (false, eval a X.env) :: starEach [b, c] X.env := by rfl) (hpl : (backTo pos (starEach [b, c] X.env)).any (·.1) = false := by rfl) : QI X E tg (.Call (.Name "range" p) [a, b, c] [] pos) (iRng3 tA) (iR3 al) := ⟨pi_range3 hg hm h.pa hs hpl, si_r3 h.sa⟩
end
end CL
namespace CL
open PySem PySem.Spec L2
/-! ### x in a list or a tuple of data -/
def inU (neg : Bool) (d e : Da) : Mo Da := fun st => match pyD st d, pyD st e with
  | some p, some (.list qs) => if (SeqAt.shaped p && SeqAt.shaped (.list qs)) = true then .ok (.bl (if neg then !qs.any (fun z => PyData.eqv z p) else qs.any fun z => PyData.eqv z p)) st else .bad
  | some p, some (.tuple qs) => if (SeqAt.shaped p && SeqAt.shaped (.tuple qs)) = true then .ok (.bl (if neg then !qs.any (fun z => PyData.eqv z p) else qs.any fun z => PyData.eqv z p)) st else .bad
  | _, _ => .bad
def rInT (K : PySem.W.Frag) (neg : Bool) : R2 := fun x y H Q => ∃ d ds, Dp K H x d ∧ Dp K H y (.tuple ds) ∧ SeqAt.shaped d = true ∧ SeqAt.shaped (.tuple ds) = true ∧ Q (.bl (if neg then !ds.any (fun z => PyData.eqv z d) else ds.any fun z => PyData.eqv z d)) H
section
variable {X : Cx}
theorem op_inT (hu : X.A.units + 65 < cLine) : OpR X (compareOp .In) (rInT X.K false) := by
  intro pins s σ H x y v u Q I rx ry h
  obtain ⟨d, ds, hd, he, sd, se, q⟩ := h
  obtain ⟨as, r1⟩ := Dp.reads I d x v hd rx
  obtain ⟨bs, r2⟩ := Dp.reads I (.tuple ds) y u he ry
  exact SeqAt.in_tuple_reads r2 r1 (SeqAt.canLay_of_shaped se) (SeqAt.canLay_of_shaped sd) (PyProof.Rows.room_in_shaped sd hu) ⟨.bl _, H, I, rfl, q⟩
theorem op_notInT (hu : X.A.units + 65 < cLine) : OpR X (compareOp .NotIn) (rInT X.K true) := by
  intro pins s σ H x y v u Q I rx ry h
  obtain ⟨d, ds, hd, he, sd, se, q⟩ := h
  obtain ⟨as, r1⟩ := Dp.reads I d x v hd rx
  obtain ⟨bs, r2⟩ := Dp.reads I (.tuple ds) y u he ry
  exact SeqAt.notIn_tuple_reads r2 r1 (SeqAt.canLay_of_shaped se) (SeqAt.canLay_of_shaped sd) (PyProof.Rows.room_in_shaped sd hu) ⟨.bl _, H, I, rfl, q⟩
theorem s_inU {K : PySem.W.Frag} {neg : Bool} {r : R2} (hl : ∀ x y H Q d ds, Dp K H x d → Dp K H y (.list ds) → SeqAt.shaped d = true → SeqAt.shaped (.list ds) = true → Q (.bl (if neg then !ds.any (fun z => PyData.eqv z d) else ds.any fun z => PyData.eqv z d)) H → r x y H Q) : S2 K (rOr r (rInT K neg)) (inU neg) := fun w x y d e Q ex m rx ry h => by
  unfold inU at h
  split at h
  · rename_i p qs h1 h2
    split at h
    · rename_i hs
      obtain ⟨s1, s2⟩ := Bool.and_eq_true_iff.mp hs
      exact .inl (hl x y w.H Q p qs (dp_py m rx h1) (dp_py m ry h2) s1 s2 (h.here m _ (.bl _)))
    · exact h.elim
  · rename_i p qs h1 h2
    split at h
    · rename_i hs
      obtain ⟨s1, s2⟩ := Bool.and_eq_true_iff.mp hs
      exact .inr ⟨p, qs, dp_py m rx h1, dp_py m ry h2, s1, s2, h.here m _ (.bl _)⟩
    · exact h.elim
  · exact h.elim
theorem q_inU {K : PySem.W.Frag} (hu : X.A.units + 65 < cLine) (hK : X.K = K := by rfl) : QO X (compareOp .In) (rOr (rInD K) (rInT K false)) (inU false) := by
  subst hK
  exact ⟨OpR.or (op_inD hu) (op_inT hu), s_inU fun x y H Q d e h1 h2 h3 h4 h => ⟨d, e, h1, h2, h3, h4, h⟩⟩
theorem q_notInU {K : PySem.W.Frag} (hu : X.A.units + 65 < cLine) (hK : X.K = K := by rfl) : QO X (compareOp .NotIn) (rOr (rNotInD K) (rInT K true)) (inU true) := by
  subst hK
  exact ⟨OpR.or (op_notInD hu) (op_notInT hu), s_inU fun x y H Q d e h1 h2 h3 h4 h => ⟨d, e, h1, h2, h3, h4, h⟩⟩
end
/-! ### constants of the module, of any depth -/
mutual
def dB (K : PySem.W.Frag) : Value → Da → Bool
  | .none, .non => true
  | .bool b, .bl c => b == c
  | .int i _, .int j => decide (i = j)
  | .str x _, .str y => decide (x = y)
  | .ref a, .tup ds => (match K.lookup a with
    | some ⟨.type c, _, .seq its _, _⟩ => decide (c = "tuple") && (decide (its.size ≤ sizeLine) && dBL K its.toList ds)
    | _ => false)
  | _, _ => false
def dBL (K : PySem.W.Frag) : List Value → List Da → Bool
  | [], [] => true
  | v :: vs, d :: ds => dB K v d && dBL K vs ds
  | _, _ => false
end
mutual
theorem dB_ok {K : PySem.W.Frag} {w : Wd} : ∀ (d : Da) (v : Value), dB K v d = true → ∃ x, RelV x v ∧ Rep K w x d
  | .non, v, h => by cases v <;> first | exact ⟨.non, rfl, .non⟩ | (simp [dB] at h)
  | .bl c, v, h => by
    cases v <;> first | (simp [dB] at h; done) | skip
    rename_i b
    have e : b = c := by simpa [dB] using h
    subst e
    exact ⟨.bl b, rfl, .bl b⟩
  | .int c, v, h => by
    cases v <;> first | (simp [dB] at h; done) | skip
    rename_i b t
    have e : b = c := by simpa [dB] using h
    subst e
    exact ⟨.int b, ⟨t, rfl⟩, .int b⟩
  | .str c, v, h => by
    cases v <;> first | (simp [dB] at h; done) | skip
    rename_i b t
    have e : b = c := by simpa [dB] using h
    subst e
    exact ⟨.str b, ⟨t, rfl⟩, .str b⟩
  | .tup ds, v, h => by
    cases v <;> first | (simp [dB] at h; done) | skip
    rename_i a
    unfold dB at h
    cases q : K.lookup a with
    | none => rw [q] at h; cases h
    | some o =>
      obtain ⟨oc, od, dt, osl⟩ := o
      rw [q] at h
      cases oc with
      | type c =>
        cases dt with
        | seq its n =>
          obtain ⟨h1, h2⟩ := Bool.and_eq_true_iff.mp h
          obtain ⟨h3, h4⟩ := Bool.and_eq_true_iff.mp h2
          obtain ⟨xs, r1, r2⟩ := dBL_ok (w := w) ds its.toList h4
          refine ⟨.ref a, rfl, .tup (.inr ⟨_, its, n, q, ?_, rfl, of_decide_eq_true h3, r1⟩) r2⟩
          exact congrArg Value.type (of_decide_eq_true h1)
        | _ => cases h
      | _ => cases dt <;> cases h
  | .lst _, v, h => by cases v <;> simp [dB] at h
  | .fro _, v, h => by cases v <;> simp [dB] at h
  | .han _, v, h => by cases v <;> simp [dB] at h
theorem dBL_ok {K : PySem.W.Frag} {w : Wd} : ∀ (ds : List Da) (vs : List Value), dBL K vs ds = true → ∃ xs, Vals xs vs ∧ RepL K w xs ds
  | [], vs, h => by
    cases vs with
    | nil => exact ⟨[], .nil, .nil⟩
    | cons v vs => simp [dBL] at h
  | d :: ds, vs, h => by
    cases vs with
    | nil => simp [dBL] at h
    | cons v vs =>
      have h' : dB K v d = true ∧ dBL K vs ds = true := by simpa [dBL] using h
      obtain ⟨x, r1, r2⟩ := dB_ok (w := w) d v h'.1
      obtain ⟨xs, r3, r4⟩ := dBL_ok (w := w) ds vs h'.2
      exact ⟨x :: xs, .cons r1 r3, .cons r2 r4⟩
end
theorem dB_ref {K : PySem.W.Frag} {a : Addr} {d : Da} (h : dB K (.ref a) d = true) : ∀ w, Em K w → Rep K w (.ref a) d := fun w m => by
  obtain ⟨x, r1, r2⟩ := dB_ok (w := w) d (.ref a) h
  cases x <;> first | (cases r1; exact r2) | (obtain ⟨t, e⟩ := r1; cases e) | (cases r1)
/-! ### isinstance(x, (list, tuple)) -/
def isTT (ts : List Tn) (d : Da) : Mo Da := fun st => match tyN st d with
  | some a => .ok (.bl (ts.any (isTn a))) st
  | none => .bad
/-! ### a def that calls itself: nothing is said without fuel -/
theorem fn0 {K : PySem.W.Frag} {P : Program} {wd : World} {mg : Str → Option Value} {base : Heap} {x qual : Str} {params : Arguments} {body : List Stmt} {scope : Scope} {dvs : List V} {kws : List (Str × V)} {f : Addr} {fd : FuncData} {N ps : List Str} {k n : Nat}
    (F : FunD K x qual params body scope dvs kws f fd) (S : FnScope N ps scope) (hn : ps.length = n) : FnOk P wd K mg base (L2.CX P wd) (k + 1) f fd ps (SpOf K n fun _ => nop) := by
  subst hn
  refine F.ok S (fun vs H Q E h => ?_) (fun cdv A outer s H vs Q E hr h => ?_)
  · obtain ⟨w, ds, _, _, _, hl, _⟩ := h
    exact hl
  · obtain ⟨w, ds, rfl, em, r, hl, k⟩ := h
    exact k.elim
/-! ### f(a, .., k = v, ..) -/
structure CalK (P : Program) (wd : World) (K : PySem.W.Frag) (mg : Str → Option Value) (base : Heap) (k : Nat) (x : Str) (n1 : Nat) (ks : List Str) (n : Nat) (f : List Da → Mo Da) (gV : List V → List V → List V) (gD : List Da → List Da → List Da) : Prop where
  ex : ∃ (q : Addr) (fd : FuncData) (ps : List Str) (g : List Value → List Value → List Value), mg x = some (.ref q) ∧ PySem.W.keepIn K (.ref q) = true ∧ KBn K fd ps n1 ks g gV ∧ FnOk P wd K mg base (L2.CX P wd) k q fd ps (SpOf K n f)
  rep : ∀ (w : Wd) (vs zs : List V) (ds es : List Da), Em K w → RepL K w vs ds → RepL K w zs es → vs.length = n1 → zs.length = ks.length → RepL K w (gV vs zs) (gD ds es)
def eCallK (f : List Da → Mo Da) (n1 m : Nat) (gD : List Da → List Da → List Da) (al kl : Sl → Mo (List Da)) : Sl → Mo Da := fun ro => bnd (al ro) fun ds => bnd (kl ro) fun es => if ds.length = n1 ∧ es.length = m then f (gD ds es) else nop
section
variable {X : Cx} {E : XK} {e : Expr} {es : List Expr} {tA tK : TA} {al kl : Sl → Mo (List Da)} {x : Str} {pos : Pos}
theorem q_callN {P : Program} {wd : World} {K : PySem.W.Frag} {mg : Str → Option Value} {base : Heap} {k n n1 : Nat} {ks : List Str} {gV : List V → List V → List V} {gD : List Da → List Da → List Da} {fm : List Da → Mo Da} {p : Pos} {kws : List Keyword} (F : CalK P wd K mg base k x n1 ks n fm gV gD) (hr : Room k X.A) (hx : ∀ σ, PassesAt (L2.CX X.prog X.w) X σ E)
    (ha : QA X (fun _ => E) (e :: es) tA al) (hkw : QK X (fun _ => E) kws tK kl) (hP : X.prog = P := by rfl) (hw : X.w = wd := by rfl) (hK : X.K = K := by rfl) (hmg : X.mg = mg := by rfl) (hbase : X.base = base := by rfl) (hg : Gl X x := by rfl) (hdb : (x == ("__debug__" : Str)) = false := by decide)
    (hall : (backToKw pos (keywordEach kws X.env)).all (·.1.isSome) = true := by rfl) (hks : (backToKw pos (keywordEach kws X.env)).filterMap (·.1) = ks := by rfl)
    (he : starEach (e :: es) X.env = (false, eval e X.env) :: starEach es X.env := by rfl) (hpl : ((backTo pos (starEach (e :: es) X.env)).any (·.1) || (backToKw pos (keywordEach kws X.env)).any (·.1.isNone)) = false := by rfl) :
    QE X (fun _ => E) (.Call (.Name x p) (e :: es) kws pos) (tCallN n1 ks.length (SpOf K n fm) gV E tA tK) (eCallK (fun ds => ar n fm ds) n1 ks.length gD al kl) := by
  subst hP hw hK hmg hbase
  obtain ⟨⟨q, fd, ps, g, hm, hk, hb, F⟩, hrep⟩ := F
  refine ⟨pe_callN F hr hg hm hk hb (passes_of' hx) ha.pa hkw.pk hall hks hdb he hpl, fun w ro σ Q en h => ?_⟩
  refine ha.sa w ro σ _ en (h.bind.mono (fun ds w1 x1 p1 m1 k1 vs rv => hkw.sa w1 ro σ _ (en.mono x1 m1) (k1.bind.mono (fun es w2 x2 p2 m2 k2 zs rz => ?_) fun _ _ _ z => z)) fun _ _ _ z => z)
  split at k2
  · rename_i hl
    exact ⟨rv.length.trans hl.1, rz.length.trans hl.2, spOf_of m2 (hrep w2 _ _ _ _ m2 (rv.mono m1 x2) rz (rv.length.trans hl.1) (rz.length.trans hl.2)) k2⟩
  · exact k2.elim
end
/-! ### isinstance(x, (S, T)) -/
section
variable {X : Cx} {E : St → XK} {a : Expr} {ta : TE} {ma : Sl → Mo Da} {pos : Pos}
theorem kitAny2 {K : PySem.W.Frag} {a t u : Tn} (h1 : t ≠ .non) (h2 : t ≠ .dict) (h3 : u ≠ .non) (h4 : u ≠ .dict) : PySem.W.kitAny K (.type a.name) [.type t.name, .type u.name] = some ([t, u].any (isTn a)) := by
  refine kitAny_cons (b := isTn a t) (kit_ty (kit_tn a t h1 h2)) (fun e => kitAny_cons (b := isTn a u) (kit_ty (kit_tn a u h3 h4)) (fun e2 => ?_) fun e2 => ?_) fun e => ?_
  · simp only [List.any_cons, List.any_nil, e, e2]; rfl
  · simp only [List.any_cons, List.any_nil, e, e2]; rfl
  · simp only [List.any_cons, List.any_nil, e]; rfl
theorem q_isi2 {K : PySem.W.Frag} {p p3 p4 p5 : Pos} {S T : Str} {kk} (t u : Tn) (hm : X.mg "isinstance" = none) (hS : X.mg S = none) (hT : X.mg T = none) (ha : QE X E a ta ma) (hv : bootBuiltins S = some (.type t.name) := by decide +kernel) (hv2 : bootBuiltins T = some (.type u.name) := by decide +kernel) (h1 : t ≠ .non := by decide) (h2 : t ≠ .dict := by decide) (h3 : u ≠ .non := by decide) (h4 : u ≠ .dict := by decide) (hg : Gl X "isinstance" := by rfl) (hgS : Gl X S := by rfl) (hgT : Gl X T := by rfl) (hn : S ≠ "__name__" := by decide) (hd : (S == ("__debug__" : Str)) = false := by decide) (hn2 : T ≠ "__name__" := by decide) (hd2 : (T == ("__debug__" : Str)) = false := by decide)
    (hs : starEach (a :: [.Tuple [.Name S p3, .Name T p4] kk p5]) X.env = (false, eval a X.env) :: starEach [.Tuple [.Name S p3, .Name T p4] kk p5] X.env := by rfl) (hs2 : starEach (.Tuple [.Name S p3, .Name T p4] kk p5 :: []) X.env = (false, eval (.Tuple [.Name S p3, .Name T p4] kk p5) X.env) :: starEach [] X.env := by rfl)
    (hs3 : starEach (.Name S p3 :: [.Name T p4]) X.env = (false, eval (.Name S p3) X.env) :: starEach [.Name T p4] X.env := by rfl) (hs4 : starEach (.Name T p4 :: []) X.env = (false, eval (.Name T p4) X.env) :: starEach [] X.env := by rfl) (hpl : (backTo pos (starEach [.Tuple [.Name S p3, .Name T p4] kk p5] X.env)).any (·.1) = false := by rfl) (hK : X.K = K := by rfl) :
    QE X E (.Call (.Name "isinstance" p) [a, .Tuple [.Name S p3, .Name T p4] kk p5] [] pos) (tCB (rIsiT K) (tCons ta (tCons (tTup (tCons (tC (.ty t.name)) (tCons (tC (.ty u.name)) tNil))) tNil))) (e1 (isTT [t, u]) ma) := by
  subst hK
  refine ⟨pe_callB call_isiT hg hm (by decide +kernel) (pa_cons ha.pe (pa_cons (pe_tup (pa_cons (pe_bltn hgS hS hv rfl hn hd) (pa_cons (pe_bltn hgT hT hv2 rfl hn2 hd2) pa_nil hs4) hs3)) pa_nil hs2) hs) (by decide) (by decide) hs hpl, fun w ro σ Q e h => ?_⟩
  refine ha.se w ro σ _ e (h.bind.mono (fun d w1 x1 p1 m1 k v rv => ?_) fun _ _ _ z => z)
  refine ⟨show 2 ≤ sizeLine by decide, fun q hq => ?_⟩
  unfold isTT at k
  split at k
  · rename_i b hb
    refine ⟨v, q, _, .type b.name, [.type t.name, .type u.name], _, rfl, upd_same, .cons (.ty _) (.cons (.ty _) .nil), ?_, kitAny2 h1 h2 h3 h4, ?_⟩
    · exact ty_rep (w := w1.new q (.tup [.ty t.name, .ty u.name])) (m1.new hq) (rv.mono m1 (Ext.new m1 hq)) hb
    · exact Run.at (w' := w1.new q (.tup [.ty t.name, .ty u.name])) k (Ext.new m1 hq) (m1.new hq) rfl rfl _ (.bl _)
  · exact k.elim
end
/-- a keyword's default that is an object -/
def kwA (p : Str × Option Str) (x : Str) (K : PySem.W.Frag) : Addr := match K.lookup (He.fAd K p) with
  | some ⟨_, _, .func fd, _⟩ => (match fd.kwdefaults with
    | .ref D => (match PySem.W.nsIn K D x with
      | some (some (.ref a)) => a
      | _ => 0)
    | _ => 0)
  | _ => 0
/-! ### o.m(a, .., k = v, ..) -/
structure CalMK (P : Program) (wd : World) (K : PySem.W.Frag) (mg : Str → Option Value) (base : Heap) (k : Nat) (c m : Str) (n1 : Nat) (ks : List Str) (n : Nat) (f : List Da → Mo Da) (gV : List V → List V → List V) (gD : List Da → List Da → List Da) : Prop where
  ex : ∃ (q : Addr) (fd : FuncData) (ps : List Str) (g : List Value → List Value → List Value), Cls K (He.ga K c) ∧ Meth K (He.ga K c) m q ∧ KBn K fd ps (n1 + 1) ks g gV ∧ FnOk P wd K mg base (L2.CX P wd) k q fd ps (SpOf K n f)
  rep : ∀ (w : Wd) (vs zs : List V) (ds es : List Da), Em K w → RepL K w vs ds → RepL K w zs es → vs.length = n1 + 1 → zs.length = ks.length → RepL K w (gV vs zs) (gD ds es)
def eMethK (c m : Str) (f : List Da → Mo Da) (n1 k : Nat) (gD : List Da → List Da → List Da) (a : Sl → Mo Da) (al kl : Sl → Mo (List Da)) : Sl → Mo Da := fun ro => bnd (a ro) fun d => bnd (isIns c m d) fun _ => bnd (al ro) fun ds => bnd (kl ro) fun es => if ds.length = n1 ∧ es.length = k then f (gD (d :: ds) es) else nop
def tMethK (C : Addr) (m : Str) (n k : Nat) (sp : Sp) (gV : List V → List V → List V) (E : XK) (to : TE) (t tk : TA) : TE := fun σ H Q => to σ H fun x H1 => ∃ a dx fs, x = .ref a ∧ H1 a = some (.ins C dx fs) ∧ fs.lookup m = none ∧ t σ H1 fun vs H2 => tk σ H2 fun zs H3 => vs.length = n ∧ zs.length = k ∧ sp (gV (.ref a :: vs) zs) H3 Q E
section
variable {X : Cx} {CX : CXT} {k n : Nat} {f C : Addr} {fd : FuncData} {ps ks : List Str} {sp : Sp} {E : XK} {m : Str} {apos pos : Pos} {o e : Expr} {es : List Expr} {kws : List Keyword} {ta : TE} {t tk : TA} {g : List Value → List Value → List Value} {gV : List V → List V → List V}
theorem pe_methN {pl : Sem Bool} (he : PE X o ta) (c : Cls X.K C) (hm : Meth X.K C m f) (F : FnOk X.prog X.w X.K X.mg X.base CX k f fd ps sp) (hr : Room k X.A) (hb : KBn X.K fd ps (n + 1) ks g gV) (hx : Passes CX X E) (ha : PA X (e :: es) t) (hkw : PK X kws tk)
    (hall : (backToKw pos (keywordEach kws X.env)).all (·.1.isSome) = true := by rfl) (hks : (backToKw pos (keywordEach kws X.env)).filterMap (·.1) = ks := by rfl)
    (hst : starEach (e :: es) X.env = (false, eval e X.env) :: starEach es X.env := by rfl) (hpl : ((backTo pos (starEach (e :: es) X.env)).any (·.1) || (backToKw pos (keywordEach kws X.env)).any (·.1.isNone)) = false := by rfl)
    (ht : eval (.Call (.Attribute o m apos) (e :: es) kws pos) X.env = (do
      let ov ← eval o X.env
      standAt apos.atName
      let (f, first) ← holding [ov] (getMethod ov m pl)
      callWith pos f first (backTo pos (starEach (e :: es) X.env)) (backToKw pos (keywordEach kws X.env))) := by rfl) :
    PE X (.Call (.Attribute o m apos) (e :: es) kws pos) (tMethK C m n ks.length sp gV E ta t tk) := by
  refine ⟨fun pins s σ H Q I h => ?_⟩
  refine PySem.W.methodCall_KW (pl := pl) (thn (he.run pins s σ H _ I h) fun u s1 ⟨x, H1, I1, rx, a, dx, fs, ex, ea, l, q⟩ => ?_) ht
  subst ex
  obtain rfl : u = Value.ref a := rx
  refine getmeth_ok I1 ea c hm l ?_
  refine PySem.W.callWith_KW (first := [.ref a]) (h₀ := X.base) I.ok.mod.kin hm.kp hall (thn (ha.run pos pins s1 σ H1 _ I1 q) fun us s2 ⟨vs, H2, I2, r, q2⟩ => ?_) hpl hst
  refine thn (hkw.run pos pins s2 σ H2 _ I2 q2) fun ws s3 ⟨zs, H3, I3, rz, l1, l2, q3⟩ => ⟨I3.kIn, ?_⟩
  rw [hks]
  exact run_fnN (us := .ref a :: us) (vs := .ref a :: vs) F hr hb hx I3 (.cons rfl r) rz (by rw [List.length_cons, l1]) l2 q3
theorem pe_methN0 {pl : Sem Bool} (he : PE X o ta) (c : Cls X.K C) (hm : Meth X.K C m f) (F : FnOk X.prog X.w X.K X.mg X.base CX k f fd ps sp) (hr : Room k X.A) (hb : KBn X.K fd ps (0 + 1) ks g gV) (hx : Passes CX X E) (hkw : PK X kws tk)
    (hall : (backToKw pos (keywordEach kws X.env)).all (·.1.isSome) = true := by rfl) (hks : (backToKw pos (keywordEach kws X.env)).filterMap (·.1) = ks := by rfl)
    (hpl : ((backTo pos (starEach [] X.env)).any (·.1) || (backToKw pos (keywordEach kws X.env)).any (·.1.isNone)) = false := by rfl)
    (ht : eval (.Call (.Attribute o m apos) [] kws pos) X.env = (do
      let ov ← eval o X.env
      standAt apos.atName
      let (f, first) ← holding [ov] (getMethod ov m pl)
      callWith pos f first (backTo pos (starEach [] X.env)) (backToKw pos (keywordEach kws X.env))) := by rfl) :
    PE X (.Call (.Attribute o m apos) [] kws pos) (tMethK C m 0 ks.length sp gV E ta tNil tk) := by
  refine ⟨fun pins s σ H Q I h => ?_⟩
  refine PySem.W.methodCall_KW (pl := pl) (thn (he.run pins s σ H _ I h) fun u s1 ⟨x, H1, I1, rx, a, dx, fs, ex, ea, l, q⟩ => ?_) ht
  subst ex
  obtain rfl : u = Value.ref a := rx
  refine getmeth_ok I1 ea c hm l ?_
  refine PySem.W.callWith_KW0 (first := [.ref a]) (h₀ := X.base) I.ok.mod.kin hm.kp hall ?_ hpl
  refine thn (hkw.run pos pins s1 σ H1 _ I1 q) fun ws s3 ⟨zs, H3, I3, rz, l1, l2, q3⟩ => ⟨I3.kIn, ?_⟩
  rw [hks]
  exact run_fnN (us := [.ref a]) (vs := [.ref a]) F hr hb hx I3 (.cons rfl .nil) rz rfl l2 q3
end
section
variable {X : Cx} {E : XK} {o e : Expr} {es : List Expr} {to : TE} {mo : Sl → Mo Da} {tA tK : TA} {al kl : Sl → Mo (List Da)} {c m : Str} {pos apos : Pos} {kws : List Keyword}
theorem s_methK {K : PySem.W.Frag} {n n1 nk : Nat} {fm : List Da → Mo Da} {gV : List V → List V → List V} {gD : List Da → List Da → List Da} (hrep : ∀ (w : Wd) (vs zs : List V) (ds es : List Da), Em K w → RepL K w vs ds → RepL K w zs es → vs.length = n1 + 1 → zs.length = nk → RepL K w (gV vs zs) (gD ds es))
    (ho : SE K (fun _ => E) to mo) (ha : SA K (fun _ => E) tA al) (hk : SA K (fun _ => E) tK kl) : SE K (fun _ => E) (tMethK (He.ga K c) m n1 nk (SpOf K n fm) gV E to tA tK) (eMethK c m (fun ds => ar n fm ds) n1 nk gD mo al kl) := fun w ro σ Q en h => by
  refine ho w ro σ _ en (h.bind.mono (fun d w1 x1 p1 m1 k v rv => ?_) fun _ _ _ z => z)
  have k0 := k.bind
  unfold isIns at k0
  split at k0
  · rename_i i
    split at k0
    · rename_i c' fs hx
      split at k0
      · rename_i hl
        cases rv with
        | han hp =>
          obtain ⟨dx, vfs, hH, rf⟩ := m1.cell i _ _ hp hx
          obtain ⟨rfl, hl2⟩ := hl
          refine ⟨_, dx, vfs, rfl, hH, rf.lookup_none hl2, ?_⟩
          refine ha w1 ro σ _ (en.mono x1 m1) ((k0.here m1).bind.mono (fun ds w2 x2 p2 m2 k2 vs rvs => ?_) fun _ _ _ z => z)
          refine hk w2 ro σ _ (en.mono (x1.trans x2) m2) (k2.bind.mono (fun es w3 x3 p3 m3 k3 zs rz => ?_) fun _ _ _ z => z)
          split at k3
          · rename_i hll
            refine ⟨rvs.length.trans hll.1, rz.length.trans hll.2, spOf_of m3 (hrep w3 _ _ _ _ m3 (.cons (.han (x3.at (x2.at hp))) (rvs.mono m2 x3)) rz (by rw [List.length_cons, rvs.length, hll.1]) (rz.length.trans hll.2)) k3⟩
          · exact k3.elim
      · exact k0.elim
    · exact k0.elim
  · exact k0.elim
theorem q_methK {P : Program} {wd : World} {K : PySem.W.Frag} {mg : Str → Option Value} {base : Heap} {k n n1 : Nat} {ks : List Str} {gV : List V → List V → List V} {gD : List Da → List Da → List Da} {fm : List Da → Mo Da} {pl : Sem Bool} (F : CalMK P wd K mg base k c m n1 ks n fm gV gD) (hr : Room k X.A) (hx : ∀ σ, PassesAt (L2.CX X.prog X.w) X σ E)
    (ho : QE X (fun _ => E) o to mo) (ha : QA X (fun _ => E) (e :: es) tA al) (hkw : QK X (fun _ => E) kws tK kl) (hP : X.prog = P := by rfl) (hw : X.w = wd := by rfl) (hK : X.K = K := by rfl) (hmg : X.mg = mg := by rfl) (hbase : X.base = base := by rfl)
    (hall : (backToKw pos (keywordEach kws X.env)).all (·.1.isSome) = true := by rfl) (hks : (backToKw pos (keywordEach kws X.env)).filterMap (·.1) = ks := by rfl)
    (hst : starEach (e :: es) X.env = (false, eval e X.env) :: starEach es X.env := by rfl) (hpl : ((backTo pos (starEach (e :: es) X.env)).any (·.1) || (backToKw pos (keywordEach kws X.env)).any (·.1.isNone)) = false := by rfl)
    (ht : eval (.Call (.Attribute o m apos) (e :: es) kws pos) X.env = (do
      let ov ← eval o X.env
      standAt apos.atName
      let (f, first) ← holding [ov] (getMethod ov m pl)
      callWith pos f first (backTo pos (starEach (e :: es) X.env)) (backToKw pos (keywordEach kws X.env))) := by rfl) :
    QE X (fun _ => E) (.Call (.Attribute o m apos) (e :: es) kws pos) (tMethK (He.ga K c) m n1 ks.length (SpOf K n fm) gV E to tA tK) (eMethK c m (fun ds => ar n fm ds) n1 ks.length gD mo al kl) := by
  subst hP hw hK hmg hbase
  obtain ⟨⟨q, fd, ps, g, hc, hm, hb, F⟩, hrep⟩ := F
  exact ⟨pe_methN ho.pe hc hm F hr hb (passes_of' hx) ha.pa hkw.pk hall hks hst hpl ht, s_methK hrep ho.se ha.sa hkw.sa⟩
theorem q_methK0 {P : Program} {wd : World} {K : PySem.W.Frag} {mg : Str → Option Value} {base : Heap} {k n : Nat} {ks : List Str} {gV : List V → List V → List V} {gD : List Da → List Da → List Da} {fm : List Da → Mo Da} {pl : Sem Bool} (F : CalMK P wd K mg base k c m 0 ks n fm gV gD) (hr : Room k X.A) (hx : ∀ σ, PassesAt (L2.CX X.prog X.w) X σ E)
    (ho : QE X (fun _ => E) o to mo) (hkw : QK X (fun _ => E) kws tK kl) (hP : X.prog = P := by rfl) (hw : X.w = wd := by rfl) (hK : X.K = K := by rfl) (hmg : X.mg = mg := by rfl) (hbase : X.base = base := by rfl)
    (hall : (backToKw pos (keywordEach kws X.env)).all (·.1.isSome) = true := by rfl) (hks : (backToKw pos (keywordEach kws X.env)).filterMap (·.1) = ks := by rfl)
    (hpl : ((backTo pos (starEach [] X.env)).any (·.1) || (backToKw pos (keywordEach kws X.env)).any (·.1.isNone)) = false := by rfl)
    (ht : eval (.Call (.Attribute o m apos) [] kws pos) X.env = (do
      let ov ← eval o X.env
      standAt apos.atName
      let (f, first) ← holding [ov] (getMethod ov m pl)
      callWith pos f first (backTo pos (starEach [] X.env)) (backToKw pos (keywordEach kws X.env))) := by rfl) :
    QE X (fun _ => E) (.Call (.Attribute o m apos) [] kws pos) (tMethK (He.ga K c) m 0 ks.length (SpOf K n fm) gV E to tNil tK) (eMethK c m (fun ds => ar n fm ds) 0 ks.length gD mo aNil kl) := by
  subst hP hw hK hmg hbase
  obtain ⟨⟨q, fd, ps, g, hc, hm, hb, F⟩, hrep⟩ := F
  exact ⟨pe_methN0 ho.pe hc hm F hr hb (passes_of' hx) hkw.pk hall hks hpl ht, s_methK hrep ho.se s_nil hkw.sa⟩
end
/-! ### built-in functions, for blocks too -/
section
variable {X : Cx} {E : St → XK} {e e2 : Expr} {tA : TA} {al : Sl → Mo (List Da)} {pos : Pos}
theorem q_len {K : PySem.W.Frag} {p : Pos} (hm : X.mg "len" = none) (ha : QA X E [e] tA al) (hg : Gl X "len" := by rfl) (he : starEach (e :: []) X.env = (false, eval e X.env) :: starEach [] X.env := by rfl) (hpl : (backTo pos (starEach [] X.env)).any (·.1) = false := by rfl) (hK : X.K = K := by rfl) : QE X E (.Call (.Name "len" p) [e] [] pos) (tCB (fun xs H Q => ∃ x n, xs = [x] ∧ LenV K x H n ∧ Q (.int n) H) tA) (eCall (one lenD) al) := by
  subst hK
  exact q_cb call_len sc_len hm ha (hg := hg) (he := he) (hpl := hpl)
theorem q_all {K : PySem.W.Frag} {p : Pos} (hc : X.calm = true) (hm : X.mg "all" = none) (ha : QA X E [e] tA al) (hg : Gl X "all" := by rfl) (he : starEach (e :: []) X.env = (false, eval e X.env) :: starEach [] X.env := by rfl) (hpl : (backTo pos (starEach [] X.env)).any (·.1) = false := by rfl) (hK : X.K = K := by rfl) : QE X E (.Call (.Name "all" p) [e] [] pos) (tCB (rAll K) tA) (eCall (one allD) al) := by
  subst hK
  exact q_cb (cr_all hc) sc_all hm ha (hg := hg) (he := he) (hpl := hpl)
theorem q_tupleOf {K : PySem.W.Frag} {p : Pos} (hm : X.mg "tuple" = none) (ha : QA X E [e] tA al) (hg : Gl X "tuple" := by rfl) (he : starEach (e :: []) X.env = (false, eval e X.env) :: starEach [] X.env := by rfl) (hpl : (backTo pos (starEach [] X.env)).any (·.1) = false := by rfl) (hK : X.K = K := by rfl) : QE X E (.Call (.Name "tuple" p) [e] [] pos) (tCB (fun xs H Q => ∃ p ys, xs = [.ref p] ∧ ((SqL K H p ys ∧ ∀ l, H l = none → Q (.ref l) (upd H l (.tup ys))) ∨ (SqT K H p ys ∧ Q (.ref p) H))) tA) (eCall (one tupleD) al) := by
  subst hK
  exact q_ct call_tuple_of sc_tuple hm ha (hg := hg) (he := he) (hpl := hpl)
theorem q_max1 {K : PySem.W.Frag} {p : Pos} (hc : X.calm = true) (hm : X.mg "max" = none) (ha : QA X E [e] tA al) (hg : Gl X "max" := by rfl) (he : starEach (e :: []) X.env = (false, eval e X.env) :: starEach [] X.env := by rfl) (hpl : (backTo pos (starEach [] X.env)).any (·.1) = false := by rfl) (hK : X.K = K := by rfl) : QE X E (.Call (.Name "max" p) [e] [] pos) (tCB (rMax K) tA) (eCall (one max1) al) := by
  subst hK
  exact q_cb (cr_max hc) sc_max1 hm ha (hg := hg) (he := he) (hpl := hpl)
theorem q_min1 {K : PySem.W.Frag} {p : Pos} (hc : X.calm = true) (hm : X.mg "min" = none) (ha : QA X E [e] tA al) (hg : Gl X "min" := by rfl) (he : starEach (e :: []) X.env = (false, eval e X.env) :: starEach [] X.env := by rfl) (hpl : (backTo pos (starEach [] X.env)).any (·.1) = false := by rfl) (hK : X.K = K := by rfl) : QE X E (.Call (.Name "min" p) [e] [] pos) (tCB (rMin K) tA) (eCall (one min1) al) := by
  subst hK
  exact q_cb (cr_min hc) sc_min1 hm ha (hg := hg) (he := he) (hpl := hpl)
theorem q_sum1 {K : PySem.W.Frag} {p : Pos} (hc : X.calm = true) (hm : X.mg "sum" = none) (ha : QA X E [e] tA al) (hg : Gl X "sum" := by rfl) (he : starEach (e :: []) X.env = (false, eval e X.env) :: starEach [] X.env := by rfl) (hpl : (backTo pos (starEach [] X.env)).any (·.1) = false := by rfl) (hK : X.K = K := by rfl) : QE X E (.Call (.Name "sum" p) [e] [] pos) (tCB (rSum K) tA) (eCall (one sum1) al) := by
  subst hK
  exact q_cb (cr_sum hc) sc_sum1 hm ha (hg := hg) (he := he) (hpl := hpl)
theorem q_max2 {K : PySem.W.Frag} {p : Pos} (hc : X.calm = true) (hm : X.mg "max" = none) (ha : QA X E [e, e2] tA al) (hg : Gl X "max" := by rfl) (he : starEach (e :: [e2]) X.env = (false, eval e X.env) :: starEach [e2] X.env := by rfl) (hpl : (backTo pos (starEach [e2] X.env)).any (·.1) = false := by rfl) (hK : X.K = K := by rfl) : QE X E (.Call (.Name "max" p) [e, e2] [] pos) (tCB (fun xs H Q => ∃ i j, xs = [.int i, .int j] ∧ Q (.int (if j > i then j else i)) H) tA) (eCall (two maxD) al) := by
  subst hK
  exact q_cb (call_max2 hc) sc_max hm ha (hg := hg) (he := he) (hpl := hpl)
theorem q_min2 {K : PySem.W.Frag} {p : Pos} (hc : X.calm = true) (hm : X.mg "min" = none) (ha : QA X E [e, e2] tA al) (hg : Gl X "min" := by rfl) (he : starEach (e :: [e2]) X.env = (false, eval e X.env) :: starEach [e2] X.env := by rfl) (hpl : (backTo pos (starEach [e2] X.env)).any (·.1) = false := by rfl) (hK : X.K = K := by rfl) : QE X E (.Call (.Name "min" p) [e, e2] [] pos) (tCB (fun xs H Q => ∃ i j, xs = [.int i, .int j] ∧ Q (.int (if j < i then j else i)) H) tA) (eCall (two minD) al) := by
  subst hK
  exact q_cb (call_min2 hc) sc_min hm ha (hg := hg) (he := he) (hpl := hpl)
theorem ql_listOf {K : PySem.W.Frag} {p : Pos} (hm : X.mg "list" = none) (ha : QA X E [e] tA al) (hg : Gl X "list" := by rfl) (he : starEach (e :: []) X.env = (false, eval e X.env) :: starEach [] X.env := by rfl) (hpl : (backTo pos (starEach [] X.env)).any (·.1) = false := by rfl) (hK : X.K = K := by rfl) : QL X E (.Call (.Name "list" p) [e] [] pos) (tCB (fun xs H Q => ∃ p ys, xs = [.ref p] ∧ (SqL K H p ys ∨ SqT K H p ys) ∧ ∀ l, H l = none → Q (.ref l) (upd H l (.lst ys))) tA) (lCall (one listD) al) := by
  subst hK
  exact ql_ct call_list_of sc_list hm ha (hg := hg) (he := he) (hpl := hpl)
end
end CL
namespace CL
open PySem PySem.Spec L2
def m_is_whole : Sl → Mo Fl := (mRet (vAnd (e1 (isT .int) (eVar 0)) (vAnd (vNot (e1 (isT .bool) (eVar 0))) (eChain leD leD (eVar 1) (eVar 0) (eVar 2)))))
def f_is_whole : List Da → Mo Da := fnM 3 m_is_whole
def m_is_worth (g_is_whole g_is_worth : List Da → Mo Da) : Sl → Mo Fl := (mSeq (mIf (tst (e2 gtD (eVar 1) (eC (.int 6)))) (mRet (eC (.bl false))) mNil) (mSeq (mIf (tst (eCall (fun ds => ar 3 g_is_whole (ds ++ [])) (aCons (eVar 0) (aCons (eC (.int 0)) (aCons (eC (.int 999)) aNil))))) (mRet (eC (.bl true))) mNil) (mSeq (mIf (tNot_ (tst (e1 (isT .tuple) (eVar 0)))) (mRet (eC (.bl false))) mNil) (mSeq (mIf (tst (e2 eqD (eCall (one lenD) (aCons (eVar 0) aNil)) (eC (.int 2)))) (mRet (vAnd (e2 eqD (e2 ixD (eVar 0) (eC (.int 0))) (eC (.str "box"))) (eCall (fun ds => ar 3 g_is_whole (ds ++ [])) (aCons (e2 ixD (eVar 0) (eC (.int 1))) (aCons (eC (.int 0)) (aCons (e2 subD (eC (.int 8)) (eC (.int 1))) aNil)))))) mNil) (mSeq (mIf (tOr_ (tst (e2 neD (eCall (one lenD) (aCons (eVar 0) aNil)) (eC (.int 3)))) (tOr_ (tNot_ (tst (e1 (isT .str) (e2 ixD (eVar 0) (eC (.int 0)))))) (tst (e2 (inU true) (e2 ixD (eVar 0) (eC (.int 0))) (eC (.tup [(.str "+"), (.str "-"), (.str "*"), (.str "/")])))))) (mRet (eC (.bl false))) mNil) (mRet (vAnd (eCall (fun ds => ar 2 g_is_worth (ds ++ [])) (aCons (e2 ixD (eVar 0) (eC (.int 1))) (aCons (e2 addD (eVar 1) (eC (.int 1))) aNil))) (eCall (fun ds => ar 2 g_is_worth (ds ++ [])) (aCons (e2 ixD (eVar 0) (eC (.int 2))) (aCons (e2 addD (eVar 1) (eC (.int 1))) aNil))))))))))
def F_is_worth : Nat → Nat → List Da → Mo Da
  | 0, _ => fun _ => nop
  | n + 1, _ => fnM 2 (m_is_worth f_is_whole (F_is_worth n 0))
def f_is_worth (n : Nat) : List Da → Mo Da := F_is_worth n 0
theorem f_is_worth_s (n : Nat) : f_is_worth (n + 1) = fnM 2 (m_is_worth f_is_whole (f_is_worth n)) := rfl
def m_is_call (g_is_whole g_is_worth : List Da → Mo Da) : Sl → Mo Fl := (mSeq (mTgt (gT 2 (gsC (gN 2) (gsC (gN 3) gsN))) (eVar 1)) (mSeq (mTgt (gT 4 (gsC (gN 4) (gsC (gN 5) (gsC (gN 6) (gsC (gN 7) gsN))))) (eVar 0)) (mSeq (mIf (tOr_ (tNot_ (tst (eCall (fun ds => ar 3 g_is_whole (ds ++ [])) (aCons (eVar 5) (aCons (eC (.int 0)) (aCons (e2 subD (eC (.int 8)) (eC (.int 1))) aNil)))))) (tOr_ (tNot_ (tst (eCall (fun ds => ar 3 g_is_whole (ds ++ [])) (aCons (eVar 6) (aCons (e2 addD (eVar 2) (eC (.int 1))) (aCons (e2 subD (eCall (one lenD) (aCons (eVar 3) aNil)) (eC (.int 1))) aNil)))))) (tNot_ (tst (e1 (isT .list) (eVar 7)))))) (mRet (eC (.bl false))) mNil) (mRet (vAnd (e2 eqD (eCall (one lenD) (aCons (eVar 7) aNil)) (e2 ixD (eVar 3) (eVar 6))) (eCall (one allD) (aCons (eL (lComp (iV (eVar 7)) (gN 8) tYes_ (eCall (fun ds => ar 2 g_is_worth (ds ++ [(.int 0)])) (aCons (eVar 8) aNil)) [8])) aNil)))))))
def f_is_call : List Da → Mo Da := fnM 9 (m_is_call f_is_whole (f_is_worth 10))
def m_is_body (g_is_row : List Da → Mo Da) : Sl → Mo Fl := (mSeq (mIf (tOr_ (tNot_ (tst (e1 (isT .list) (eVar 0)))) (tOr_ (tst (e2 gtD (eCall (one lenD) (aCons (eVar 0) aNil)) (eC (.int 8)))) (tst (e2 gtD (eVar 2) (eC (.int 6)))))) (mRet (eC (.bl false))) mNil) (mRet (eCall (one allD) (aCons (eL (lComp (iV (eVar 0)) (gN 4) tYes_ (eCall (fun ds => ar 4 g_is_row (ds ++ [])) (aCons (eVar 4) (aCons (eVar 1) (aCons (eVar 2) (aCons (eVar 3) aNil))))) [4])) aNil))))
def m_is_row (g_is_worth g_is_whole g_is_call g_is_body g_is_try : List Da → Mo Da) : Sl → Mo Fl := (mSeq (mIf (tOr_ (tNot_ (tst (e1 (isT .tuple) (eVar 0)))) (tOr_ (tst (e2 eqD (eVar 0) (eTup aNil))) (tOr_ (tNot_ (tst (e1 (isT .str) (e2 ixD (eVar 0) (eC (.int 0)))))) (tst (e2 (inU true) (eTup (aCons (e2 ixD (eVar 0) (eC (.int 0))) (aCons (eCall (one lenD) (aCons (eVar 0) aNil)) aNil))) (eC (.tup [(.tup [(.str "set"), (.int 3)]), (.tup [(.str "out"), (.int 2)]), (.tup [(.str "throw"), (.int 3)]), (.tup [(.str "call"), (.int 4)]), (.tup [(.str "if"), (.int 4)]), (.tup [(.str "loop"), (.int 3)]), (.tup [(.str "break"), (.int 1)]), (.tup [(.str "return"), (.int 2)]), (.tup [(.str "try"), (.int 4)])]))))))) (mRet (eC (.bl false))) mNil) (mSeq (mSet 4 (e2 ixD (eVar 0) (eC (.int 0)))) (mSeq (mIf (tst (e2 (inU false) (eVar 4) (eTup (aCons (eC (.str "out")) (aCons (eC (.str "return")) aNil))))) (mRet (eCall (fun ds => ar 2 g_is_worth (ds ++ [(.int 0)])) (aCons (e2 ixD (eVar 0) (eC (.int 1))) aNil))) mNil) (mSeq (mIf (tst (e2 eqD (eVar 4) (eC (.str "set")))) (mRet (vAnd (eCall (fun ds => ar 3 g_is_whole (ds ++ [])) (aCons (e2 ixD (eVar 0) (eC (.int 1))) (aCons (eC (.int 0)) (aCons (e2 subD (eC (.int 8)) (eC (.int 1))) aNil)))) (eCall (fun ds => ar 2 g_is_worth (ds ++ [(.int 0)])) (aCons (e2 ixD (eVar 0) (eC (.int 2))) aNil)))) mNil) (mSeq (mIf (tst (e2 eqD (eVar 4) (eC (.str "throw")))) (mRet (vAnd (eCall (fun ds => ar 3 g_is_whole (ds ++ [])) (aCons (e2 ixD (eVar 0) (eC (.int 1))) (aCons (eC (.int 1)) (aCons (e2 subD (eC (.int 5)) (eC (.int 1))) aNil)))) (eCall (fun ds => ar 2 g_is_worth (ds ++ [(.int 0)])) (aCons (e2 ixD (eVar 0) (eC (.int 2))) aNil)))) mNil) (mSeq (mIf (tst (e2 eqD (eVar 4) (eC (.str "call")))) (mRet (eCall (fun ds => ar 2 g_is_call (ds ++ [])) (aCons (eVar 0) (aCons (eVar 1) aNil)))) mNil) (mSeq (mIf (tst (e2 eqD (eVar 4) (eC (.str "if")))) (mRet (vAnd (eCall (fun ds => ar 2 g_is_worth (ds ++ [(.int 0)])) (aCons (e2 ixD (eVar 0) (eC (.int 1))) aNil)) (eCall (one allD) (aCons (eL (lComp (iV (eSl slA (eVar 0) (soP (eC (.int 2))) noP)) (gN 5) tYes_ (eCall (fun ds => ar 4 g_is_body (ds ++ [])) (aCons (eVar 5) (aCons (eVar 1) (aCons (e2 addD (eVar 2) (eC (.int 1))) (aCons (eVar 3) aNil))))) [5])) aNil)))) mNil) (mSeq (mIf (tst (e2 eqD (eVar 4) (eC (.str "loop")))) (mRet (vAnd (eCall (fun ds => ar 3 g_is_whole (ds ++ [])) (aCons (e2 ixD (eVar 0) (eC (.int 1))) (aCons (eC (.int 1)) (aCons (eC (.int 4)) aNil)))) (eCall (fun ds => ar 4 g_is_body (ds ++ [])) (aCons (e2 ixD (eVar 0) (eC (.int 2))) (aCons (eVar 1) (aCons (e2 addD (eVar 2) (eC (.int 1))) (aCons (eC (.bl true)) aNil))))))) mNil) (mSeq (mIf (tst (e2 eqD (eVar 4) (eC (.str "break")))) (mRet (eVar 3)) mNil) (mRet (eCall (fun ds => ar 4 g_is_try (ds ++ [])) (aCons (eVar 0) (aCons (eVar 1) (aCons (eVar 2) (aCons (eVar 3) aNil)))))))))))))))
def m_is_try (g_is_body g_is_whole : List Da → Mo Da) : Sl → Mo Fl := (mSeq (mTgt (gT 4 (gsC (gN 4) (gsC (gN 5) (gsC (gN 6) (gsC (gN 7) gsN))))) (eVar 0)) (mSeq (mIf (tOr_ (tNot_ (tst (eCall (fun ds => ar 4 g_is_body (ds ++ [])) (aCons (eVar 5) (aCons (eVar 1) (aCons (e2 addD (eVar 2) (eC (.int 1))) (aCons (eVar 3) aNil))))))) (tOr_ (tNot_ (tst (e1 (isT .list) (eVar 6)))) (tst (e2 gtD (eCall (one lenD) (aCons (eVar 6) aNil)) (eC (.int 4)))))) (mRet (eC (.bl false))) mNil) (mSeq (mFor (iV (eVar 6)) (gN 8) (mSeq (mIf (tOr_ (tNot_ (tst (e1 (isT .tuple) (eVar 8)))) (tOr_ (tst (e2 neD (eCall (one lenD) (aCons (eVar 8) aNil)) (eC (.int 3)))) (tAnd_ (tst (e2 (isB true) (e2 ixD (eVar 8) (eC (.int 0))) (eC (.non)))) (tNot_ (tst (eCall (fun ds => ar 3 g_is_whole (ds ++ [])) (aCons (e2 ixD (eVar 8) (eC (.int 0))) (aCons (eC (.int 0)) (aCons (e2 subD (eC (.int 5)) (eC (.int 1))) aNil))))))))) (mRet (eC (.bl false))) mNil) (mIf (tOr_ (tNot_ (tst (eCall (fun ds => ar 3 g_is_whole (ds ++ [])) (aCons (e2 ixD (eVar 8) (eC (.int 1))) (aCons (eC (.int 0)) (aCons (e2 subD (eC (.int 8)) (eC (.int 1))) aNil)))))) (tNot_ (tst (eCall (fun ds => ar 4 g_is_body (ds ++ [])) (aCons (e2 ixD (eVar 8) (eC (.int 2))) (aCons (eVar 1) (aCons (e2 addD (eVar 2) (eC (.int 1))) (aCons (eVar 3) aNil)))))))) (mRet (eC (.bl false))) mNil))) (mRet (vOr (e2 (isB false) (eVar 7) (eC (.non))) (eCall (fun ds => ar 4 g_is_body (ds ++ [])) (aCons (eVar 7) (aCons (eVar 1) (aCons (e2 addD (eVar 2) (eC (.int 1))) (aCons (eVar 3) aNil))))))))))
def F_is_body : Nat → Nat → List Da → Mo Da
  | 0, _ => fun _ => nop
  | n + 1, 0 => fnM 5 (m_is_body (F_is_body n 1))
  | n + 1, 1 => fnM 6 (m_is_row (f_is_worth 10) f_is_whole f_is_call (F_is_body n 0) (F_is_body n 2))
  | n + 1, _ => fnM 9 (m_is_try (F_is_body n 0) f_is_whole)
def f_is_body (n : Nat) : List Da → Mo Da := F_is_body n 0
def f_is_row (n : Nat) : List Da → Mo Da := F_is_body n 1
def f_is_try (n : Nat) : List Da → Mo Da := F_is_body n 2
theorem f_is_body_s (n : Nat) : f_is_body (n + 1) = fnM 5 (m_is_body (f_is_row n)) := rfl
theorem f_is_row_s (n : Nat) : f_is_row (n + 1) = fnM 6 (m_is_row (f_is_worth 10) f_is_whole f_is_call (f_is_body n) (f_is_try n)) := rfl
theorem f_is_try_s (n : Nat) : f_is_try (n + 1) = fnM 9 (m_is_try (f_is_body n) f_is_whole) := rfl
def m_is_program (g_is_whole g_is_body : List Da → Mo Da) : Sl → Mo Fl := (mSeq (mIf (tOr_ (tNot_ (tst (e1 (isT .list) (eVar 0)))) (tNot_ (tst (eChain leD leD (eC (.int 1)) (eCall (one lenD) (aCons (eVar 0) aNil)) (eC (.int 5)))))) (mRet (eC (.bl false))) mNil) (mSeq (mIf (tNot_ (tst (eCall (one allD) (aCons (eL (lComp (iV (eVar 0)) (gN 2) tYes_ (vAnd (e1 (isT .tuple) (eVar 2)) (vAnd (e2 eqD (eCall (one lenD) (aCons (eVar 2) aNil)) (eC (.int 2))) (eCall (fun ds => ar 3 g_is_whole (ds ++ [])) (aCons (e2 ixD (eVar 2) (eC (.int 0))) (aCons (eC (.int 0)) (aCons (eC (.int 3)) aNil)))))) [2])) aNil)))) (mRet (eC (.bl false))) mNil) (mSeq (mSet 1 (eL (lComp (iV (eVar 0)) (gN 2) tYes_ (e2 ixD (eVar 2) (eC (.int 0))) [2]))) (mRet (vAnd (e2 eqD (e2 ixD (eVar 1) (eC (.int 0))) (eC (.int 0))) (eCall (one allD) (aCons (eL (lComp (iR1 (aCons (eCall (one lenD) (aCons (eVar 0) aNil)) aNil)) (gN 3) tYes_ (eCall (fun ds => ar 4 g_is_body (ds ++ [])) (aCons (e2 ixD (e2 ixD (eVar 0) (eVar 3)) (eC (.int 1))) (aCons (eTup (aCons (eVar 3) (aCons (eVar 1) aNil))) (aCons (eC (.int 0)) (aCons (eC (.bl false)) aNil))))) [3])) aNil)))))))
def f_is_program : List Da → Mo Da := fnM 4 (m_is_program f_is_whole (f_is_body 30))
def m_look_program (g_is_program : List Da → Mo Da) : Sl → Mo Fl := (mIf (tNot_ (tst (eCall (fun ds => ar 1 g_is_program (ds ++ [])) (aCons (eVar 0) aNil)))) mNever mNil)
def f_look_program : List Da → Mo Da := fnM 1 (m_look_program f_is_program)
def m_Plain___init__ (g_look_program : List Da → Mo Da) : Sl → Mo Fl := (mSeq (mExpr (eCall (fun ds => ar 1 g_look_program (ds ++ [])) (aCons (eVar 1) aNil))) (mSeq (mFld ["Plain"] "program" (eVar 1) (eVar 0)) (mFld ["Plain"] "told" (eH (lDisp aNil)) (eVar 0))))
def f_Plain___init__ : List Da → Mo Da := fnM 2 (m_Plain___init__ f_look_program)
def m_reckoned : Sl → Mo Fl := (mSeq (mIf (tst (e2 eqD (eVar 0) (eC (.str "+")))) (mRet (e2 modD (e2 addD (eVar 1) (eVar 2)) (e2 addD (eC (.int 999)) (eC (.int 1))))) mNil) (mSeq (mIf (tst (e2 eqD (eVar 0) (eC (.str "-")))) (mRet (e2 modD (e2 subD (eVar 1) (eVar 2)) (e2 addD (eC (.int 999)) (eC (.int 1))))) mNil) (mSeq (mIf (tst (e2 eqD (eVar 0) (eC (.str "*")))) (mRet (e2 modD (e2 mulD (eVar 1) (eVar 2)) (e2 addD (eC (.int 999)) (eC (.int 1))))) mNil) (mRet (eIf (tst (e2 eqD (eVar 2) (eC (.int 0)))) (eC (.non)) (e2 fdivD (eVar 1) (eVar 2)))))))
def f_reckoned : List Da → Mo Da := fnM 3 m_reckoned
def m_Plain_worth (g_Plain_worth g_reckoned : List Da → Mo Da) : Sl → Mo Fl := (mSeq (mIf (tst (e1 (isT .int) (eVar 1))) (mRet (eTup (aCons (eC (.str "on")) (aCons (eVar 1) aNil)))) mNil) (mSeq (mIf (tst (e2 eqD (e2 ixD (eVar 1) (eC (.int 0))) (eC (.str "box")))) (mRet (eTup (aCons (eC (.str "on")) (aCons (e2 ixD (eVar 2) (e2 ixD (eVar 1) (eC (.int 1)))) aNil)))) mNil) (mSeq (mSet 3 (eMeth "Plain" "worth" (fun ds => ar 3 g_Plain_worth (ds ++ [])) (eVar 0) (aCons (e2 ixD (eVar 1) (eC (.int 1))) (aCons (eVar 2) aNil)))) (mSeq (mSet 4 (eIf (tst (e2 eqD (e2 ixD (eVar 3) (eC (.int 0))) (eC (.str "on")))) (eMeth "Plain" "worth" (fun ds => ar 3 g_Plain_worth (ds ++ [])) (eVar 0) (aCons (e2 ixD (eVar 1) (eC (.int 2))) (aCons (eVar 2) aNil))) (eVar 3))) (mSeq (mIf (tst (e2 neD (e2 ixD (eVar 4) (eC (.int 0))) (eC (.str "on")))) (mRet (eVar 4)) mNil) (mSeq (mSet 5 (eCall (fun ds => ar 3 g_reckoned (ds ++ [])) (aCons (e2 ixD (eVar 1) (eC (.int 0))) (aCons (e2 ixD (eVar 3) (eC (.int 1))) (aCons (e2 ixD (eVar 4) (eC (.int 1))) aNil))))) (mRet (eIf (tst (e2 (isB false) (eVar 5) (eC (.non)))) (eTup (aCons (eC (.str "throw")) (aCons (eC (.int 0)) (aCons (e2 ixD (eVar 3) (eC (.int 1))) aNil)))) (eTup (aCons (eC (.str "on")) (aCons (eVar 5) aNil)))))))))))
def F_Plain_worth : Nat → Nat → List Da → Mo Da
  | 0, _ => fun _ => nop
  | n + 1, _ => fnM 6 (m_Plain_worth (F_Plain_worth n 0) f_reckoned)
def f_Plain_worth (n : Nat) : List Da → Mo Da := F_Plain_worth n 0
theorem f_Plain_worth_s (n : Nat) : f_Plain_worth (n + 1) = fnM 6 (m_Plain_worth (f_Plain_worth n) f_reckoned) := rfl
def m_Plain_all_rows (g_Plain_row : List Da → Mo Da) : Sl → Mo Fl := (mSeq (mFor (iV (eVar 1)) (gN 3) (mSeq (mSet 4 (eMeth "Plain" "row" (fun ds => ar 3 g_Plain_row (ds ++ [])) (eVar 0) (aCons (eVar 3) (aCons (eVar 2) aNil)))) (mIf (tst (e2 neD (e2 ixD (eVar 4) (eC (.int 0))) (eC (.str "on")))) (mRet (eVar 4)) mNil))) (mRet (eC (.tup [(.str "on")]))))
def m_Plain_row (g_Plain_looped g_Plain_tried g_Plain_called g_Plain_worth g_Plain_all_rows : List Da → Mo Da) : Sl → Mo Fl := (mSeq (mSet 3 (e2 ixD (eVar 1) (eC (.int 0)))) (mSeq (mIf (tst (e2 eqD (eVar 3) (eC (.str "break")))) (mRet (eTup (aCons (eC (.str "break")) aNil))) mNil) (mSeq (mIf (tst (e2 eqD (eVar 3) (eC (.str "loop")))) (mRet (eMeth "Plain" "looped" (fun ds => ar 3 g_Plain_looped (ds ++ [])) (eVar 0) (aCons (eVar 1) (aCons (eVar 2) aNil)))) mNil) (mSeq (mIf (tst (e2 eqD (eVar 3) (eC (.str "try")))) (mRet (eMeth "Plain" "tried" (fun ds => ar 3 g_Plain_tried (ds ++ [])) (eVar 0) (aCons (eVar 1) (aCons (eVar 2) aNil)))) mNil) (mSeq (mIf (tst (e2 eqD (eVar 3) (eC (.str "call")))) (mRet (eMeth "Plain" "called" (fun ds => ar 3 g_Plain_called (ds ++ [])) (eVar 0) (aCons (eVar 1) (aCons (eVar 2) aNil)))) mNil) (mSeq (mSet 4 (eMeth "Plain" "worth" (fun ds => ar 3 g_Plain_worth (ds ++ [])) (eVar 0) (aCons (eIf (tst (e2 (inU false) (eVar 3) (eTup (aCons (eC (.str "set")) (aCons (eC (.str "throw")) aNil))))) (e2 ixD (eVar 1) (eC (.int 2))) (e2 ixD (eVar 1) (eC (.int 1)))) (aCons (eVar 2) aNil)))) (mSeq (mIf (tst (e2 neD (e2 ixD (eVar 4) (eC (.int 0))) (eC (.str "on")))) (mRet (eVar 4)) mNil) (mSeq (mIf (tst (e2 eqD (eVar 3) (eC (.str "set")))) (mSetI (e2 ixD (eVar 4) (eC (.int 1))) (eVar 2) (e2 ixD (eVar 1) (eC (.int 1)))) (mIf (tst (e2 eqD (eVar 3) (eC (.str "out")))) (mExpr (eApp (eFld ["Plain"] "told" (eVar 0)) (e2 ixD (eVar 4) (eC (.int 1))))) (mIf (tst (e2 eqD (eVar 3) (eC (.str "throw")))) (mRet (eTup (aCons (eC (.str "throw")) (aCons (e2 ixD (eVar 1) (eC (.int 1))) (aCons (e2 ixD (eVar 4) (eC (.int 1))) aNil))))) (mIf (tst (e2 eqD (eVar 3) (eC (.str "return")))) (mRet (eTup (aCons (eC (.str "return")) (aCons (e2 ixD (eVar 4) (eC (.int 1))) aNil)))) (mRet (eMeth "Plain" "all_rows" (fun ds => ar 3 g_Plain_all_rows (ds ++ [])) (eVar 0) (aCons (eIf (tst (e2 neD (e2 ixD (eVar 4) (eC (.int 1))) (eC (.int 0)))) (e2 ixD (eVar 1) (eC (.int 2))) (e2 ixD (eVar 1) (eC (.int 3)))) (aCons (eVar 2) aNil)))))))) (mRet (eC (.tup [(.str "on")])))))))))))
def m_Plain_looped (g_Plain_all_rows : List Da → Mo Da) : Sl → Mo Fl := (mSeq (mFor (iR1 (aCons (e2 ixD (eVar 1) (eC (.int 1))) aNil)) (gN 3) (mSeq (mSet 4 (eMeth "Plain" "all_rows" (fun ds => ar 3 g_Plain_all_rows (ds ++ [])) (eVar 0) (aCons (e2 ixD (eVar 1) (eC (.int 2))) (aCons (eVar 2) aNil)))) (mSeq (mIf (tst (e2 eqD (e2 ixD (eVar 4) (eC (.int 0))) (eC (.str "break")))) (mRet (eC (.tup [(.str "on")]))) mNil) (mIf (tst (e2 neD (e2 ixD (eVar 4) (eC (.int 0))) (eC (.str "on")))) (mRet (eVar 4)) mNil)))) (mRet (eC (.tup [(.str "on")]))))
def m_Plain_tried (g_Plain_all_rows : List Da → Mo Da) : Sl → Mo Fl := (mSeq (mTgt (gT 4 (gsC (gN 3) (gsC (gN 4) (gsC (gN 5) (gsC (gN 6) gsN))))) (eVar 1)) (mSeq (mSet 7 (eMeth "Plain" "all_rows" (fun ds => ar 3 g_Plain_all_rows (ds ++ [])) (eVar 0) (aCons (eVar 4) (aCons (eVar 2) aNil)))) (mSeq (mIf (tst (e2 eqD (e2 ixD (eVar 7) (eC (.int 0))) (eC (.str "throw")))) (mSeq (mSet 8 (eL (lComp (iV (eVar 5)) (gN 13) (tOr_ (tst (e2 (isB false) (e2 ixD (eVar 13) (eC (.int 0))) (eC (.non)))) (tst (e2 eqD (e2 ixD (eVar 13) (eC (.int 0))) (e2 ixD (eVar 7) (eC (.int 1)))))) (eVar 13) [13]))) (mIf (tst (e2 neD (eVar 8) (eL (lDisp aNil)))) (mSeq (mTgt (gT 3 (gsC (gN 10) (gsC (gN 11) (gsC (gN 12) gsN)))) (e2 ixD (eVar 8) (eC (.int 0)))) (mSeq (mSetI (e2 ixD (eVar 7) (eC (.int 2))) (eVar 2) (eVar 11)) (mSet 7 (eMeth "Plain" "all_rows" (fun ds => ar 3 g_Plain_all_rows (ds ++ [])) (eVar 0) (aCons (eVar 12) (aCons (eVar 2) aNil)))))) mNil)) mNil) (mSeq (mIf (tst (e2 (isB true) (eVar 6) (eC (.non)))) (mSeq (mSet 9 (eMeth "Plain" "all_rows" (fun ds => ar 3 g_Plain_all_rows (ds ++ [])) (eVar 0) (aCons (eVar 6) (aCons (eVar 2) aNil)))) (mSet 7 (eIf (tst (e2 eqD (e2 ixD (eVar 9) (eC (.int 0))) (eC (.str "on")))) (eVar 7) (eVar 9)))) mNil) (mRet (eVar 7))))))
def m_Plain_called (g_Plain_worth g_Plain_function : List Da → Mo Da) : Sl → Mo Fl := (mSeq (mTgt (gT 4 (gsC (gN 3) (gsC (gN 4) (gsC (gN 5) (gsC (gN 6) gsN))))) (eVar 1)) (mSeq (mSet 7 (eH (lDisp aNil))) (mSeq (mFor (iV (eVar 6)) (gN 8) (mSeq (mSet 9 (eMeth "Plain" "worth" (fun ds => ar 3 g_Plain_worth (ds ++ [])) (eVar 0) (aCons (eVar 8) (aCons (eVar 2) aNil)))) (mSeq (mIf (tst (e2 neD (e2 ixD (eVar 9) (eC (.int 0))) (eC (.str "on")))) (mRet (eVar 9)) mNil) (mExpr (eApp (eVar 7) (e2 ixD (eVar 9) (eC (.int 1)))))))) (mSeq (mSet 9 (eMeth "Plain" "function" (fun ds => ar 3 g_Plain_function (ds ++ [])) (eVar 0) (aCons (eVar 5) (aCons (eVar 7) aNil)))) (mSeq (mIf (tst (e2 eqD (e2 ixD (eVar 9) (eC (.int 0))) (eC (.str "return")))) (mSeq (mSetI (e2 ixD (eVar 9) (eC (.int 1))) (eVar 2) (eVar 4)) (mRet (eC (.tup [(.str "on")])))) mNil) (mRet (eVar 9)))))))
def m_Plain_function (g_Plain_all_rows : List Da → Mo Da) : Sl → Mo Fl := (mSeq (mSet 3 (eH (l2 catL (eVar 2) (eL (l2 repL (eL (lDisp (aCons (eC (.int 0)) aNil))) (e2 subD (eC (.int 8)) (eCall (one lenD) (aCons (eVar 2) aNil)))))))) (mSeq (mSet 4 (eMeth "Plain" "all_rows" (fun ds => ar 3 g_Plain_all_rows (ds ++ [])) (eVar 0) (aCons (e2 ixD (e2 ixD (eFld ["Plain"] "program" (eVar 0)) (eVar 1)) (eC (.int 1))) (aCons (eVar 3) aNil)))) (mRet (eIf (tst (e2 eqD (e2 ixD (eVar 4) (eC (.int 0))) (eC (.str "on")))) (eTup (aCons (eC (.str "return")) (aCons (eC (.int 0)) aNil))) (eVar 4)))))
def F_Plain_all_rows : Nat → Nat → List Da → Mo Da
  | 0, _ => fun _ => nop
  | n + 1, 0 => fnM 5 (m_Plain_all_rows (F_Plain_all_rows n 1))
  | n + 1, 1 => fnM 5 (m_Plain_row (F_Plain_all_rows n 2) (F_Plain_all_rows n 3) (F_Plain_all_rows n 4) (f_Plain_worth 10) (F_Plain_all_rows n 0))
  | n + 1, 2 => fnM 5 (m_Plain_looped (F_Plain_all_rows n 0))
  | n + 1, 3 => fnM 14 (m_Plain_tried (F_Plain_all_rows n 0))
  | n + 1, 4 => fnM 10 (m_Plain_called (f_Plain_worth 10) (F_Plain_all_rows n 5))
  | n + 1, _ => fnM 5 (m_Plain_function (F_Plain_all_rows n 0))
def f_Plain_all_rows (n : Nat) : List Da → Mo Da := F_Plain_all_rows n 0
def f_Plain_row (n : Nat) : List Da → Mo Da := F_Plain_all_rows n 1
def f_Plain_looped (n : Nat) : List Da → Mo Da := F_Plain_all_rows n 2
def f_Plain_tried (n : Nat) : List Da → Mo Da := F_Plain_all_rows n 3
def f_Plain_called (n : Nat) : List Da → Mo Da := F_Plain_all_rows n 4
def f_Plain_function (n : Nat) : List Da → Mo Da := F_Plain_all_rows n 5
theorem f_Plain_all_rows_s (n : Nat) : f_Plain_all_rows (n + 1) = fnM 5 (m_Plain_all_rows (f_Plain_row n)) := rfl
theorem f_Plain_row_s (n : Nat) : f_Plain_row (n + 1) = fnM 5 (m_Plain_row (f_Plain_looped n) (f_Plain_tried n) (f_Plain_called n) (f_Plain_worth 10) (f_Plain_all_rows n)) := rfl
theorem f_Plain_looped_s (n : Nat) : f_Plain_looped (n + 1) = fnM 5 (m_Plain_looped (f_Plain_all_rows n)) := rfl
theorem f_Plain_tried_s (n : Nat) : f_Plain_tried (n + 1) = fnM 14 (m_Plain_tried (f_Plain_all_rows n)) := rfl
theorem f_Plain_called_s (n : Nat) : f_Plain_called (n + 1) = fnM 10 (m_Plain_called (f_Plain_worth 10) (f_Plain_function n)) := rfl
theorem f_Plain_function_s (n : Nat) : f_Plain_function (n + 1) = fnM 5 (m_Plain_function (f_Plain_all_rows n)) := rfl
def m_look_number (g_is_whole : List Da → Mo Da) : Sl → Mo Fl := (mIf (tNot_ (tst (eCall (fun ds => ar 3 g_is_whole (ds ++ [])) (aCons (eVar 0) (aCons (eVar 1) (aCons (eVar 2) aNil)))))) mNever mNil)
def f_look_number : List Da → Mo Da := fnM 3 (m_look_number f_is_whole)
def m_meaning (g_Plain___init__ g_look_number g_is_whole g_Plain_function : List Da → Mo Da) : Sl → Mo Fl := (mSeq (mSet 3 (eMake "Plain" (fun ds => ar 2 g_Plain___init__ ds) (fun ro => bnd ((aCons (eVar 0) aNil) ro) fun ds => ret (ds ++ [])))) (mSeq (mExpr (eCall (fun ds => ar 3 g_look_number (ds ++ [])) (aCons (eVar 1) (aCons (eC (.int 0)) (aCons (e2 subD (eCall (one lenD) (aCons (eVar 0) aNil)) (eC (.int 1))) aNil))))) (mSeq (mSet 4 (vAnd (e1 (isTT [.list, .tuple]) (eVar 2)) (e2 eqD (eCall (one lenD) (aCons (eVar 2) aNil)) (e2 ixD (e2 ixD (eVar 0) (eVar 1)) (eC (.int 0)))))) (mSeq (mIf (tOr_ (tNot_ (tst (eVar 4))) (tNot_ (tst (eCall (one allD) (aCons (eL (lComp (iV (eVar 2)) (gN 6) tYes_ (eCall (fun ds => ar 3 g_is_whole (ds ++ [])) (aCons (eVar 6) (aCons (eC (.int 0)) (aCons (eC (.int 999)) aNil)))) [6])) aNil))))) mNever mNil) (mSeq (mSet 5 (eMeth "Plain" "function" (fun ds => ar 3 g_Plain_function (ds ++ [])) (eVar 3) (aCons (eVar 1) (aCons (eL (lCall (one listD) (aCons (eVar 2) aNil))) aNil)))) (mRet (eTup (aCons (eVar 5) (aCons (eL (lCall (one listD) (aCons (eFld ["Plain"] "told" (eVar 3)) aNil))) aNil)))))))))
def f_meaning : List Da → Mo Da := fnM 7 (m_meaning f_Plain___init__ f_look_number f_is_whole (f_Plain_function 90))
def m__law_town : Sl → Mo Fl := (mRet (eH (lDisp (aCons (eIf (tst (e2 neD (eVar 0) (eL (lDisp aNil)))) (eH (lCall (one listD) (aCons (eVar 0) aNil))) (eH (lDisp (aCons (eC (.int 0)) aNil)))) (aCons (eC (.int 0)) aNil)))))
def f__law_town : List Da → Mo Da := fnM 1 m__law_town
def m__law_draw : Sl → Mo Fl := (mSeq (mSet 2 (e2 ixD (eVar 0) (eC (.int 0)))) (mSeq (mSetI (e2 addD (e2 ixD (eVar 0) (eC (.int 1))) (eC (.int 1))) (eVar 0) (eC (.int 1))) (mSeq (mSet 3 (e2 modD (e2 ixD (eVar 0) (eC (.int 1))) (eCall (one lenD) (aCons (eVar 2) aNil)))) (mSeq (mSet 4 (e2 ixD (eVar 2) (eVar 3))) (mSeq (mIf (tst (e2 geD (eVar 4) (eC (.int 1000000000000000000)))) (mSeq (mSetI (e2 fdivD (eVar 4) (eVar 1)) (eVar 2) (eVar 3)) (mRet (e2 modD (eVar 4) (eVar 1)))) mNil) (mSeq (mSet 5 (e2 modD (e2 addD (eVar 4) (e2 mulD (eC (.int 104729)) (e2 ixD (eVar 0) (eC (.int 1))))) (eC (.int 4294967291)))) (mSeq (mSet 5 (e2 modD (e2 powD (eVar 5) (eC (.int 5))) (eC (.int 4294967279)))) (mRet (e2 modD (e2 fdivD (e2 modD (e2 addD (e2 mulD (e2 fdivD (eVar 5) (eC (.int 64))) (eC (.int 69621))) (eVar 5)) (eC (.int 4294967231))) (eC (.int 8))) (eVar 1))))))))))
def f__law_draw : List Da → Mo Da := fnM 6 m__law_draw
def m__law_pick (g__law_draw : List Da → Mo Da) : Sl → Mo Fl := (mRet (e2 ixD (eVar 1) (eCall (fun ds => ar 2 g__law_draw (ds ++ [])) (aCons (eVar 0) (aCons (eCall (one lenD) (aCons (eVar 1) aNil)) aNil)))))
def f__law_pick : List Da → Mo Da := fnM 2 (m__law_pick f__law_draw)
def m__law_whole : Sl → Mo Fl := (mRet (vAnd (e1 (isT .int) (eVar 0)) (vNot (e1 (isT .bool) (eVar 0)))))
def f__law_whole : List Da → Mo Da := fnM 1 m__law_whole
def m__law_whole_list (g__law_whole : List Da → Mo Da) : Sl → Mo Fl := (mRet (vAnd (e1 (isT .list) (eVar 0)) (eCall (one allD) (aCons (eL (lComp (iV (eVar 0)) (gN 1) tYes_ (eCall (fun ds => ar 1 g__law_whole (ds ++ [])) (aCons (eVar 1) aNil)) [1])) aNil))))
def f__law_whole_list : List Da → Mo Da := fnM 2 (m__law_whole_list f__law_whole)
def m__law_worth (g__law_draw g__law_pick g__law_worth : List Da → Mo Da) : Sl → Mo Fl := (mSeq (mSet 2 (eCall (fun ds => ar 2 g__law_draw (ds ++ [])) (aCons (eVar 0) (aCons (eC (.int 8)) aNil)))) (mSeq (mIf (tOr_ (tst (e2 eqD (eVar 1) (eC (.int 0)))) (tst (e2 ltD (eVar 2) (eC (.int 3))))) (mRet (eCall (fun ds => ar 2 g__law_pick (ds ++ [])) (aCons (eVar 0) (aCons (eL (lDisp (aCons (eCall (fun ds => ar 2 g__law_draw (ds ++ [])) (aCons (eVar 0) (aCons (eC (.int 4)) aNil))) (aCons (eTup (aCons (eC (.str "box")) (aCons (eCall (fun ds => ar 2 g__law_draw (ds ++ [])) (aCons (eVar 0) (aCons (eC (.int 3)) aNil))) aNil))) (aCons (eCall (fun ds => ar 2 g__law_draw (ds ++ [])) (aCons (eVar 0) (aCons (eC (.int 1000)) aNil))) aNil))))) aNil)))) mNil) (mSeq (mSet 3 (eCall (fun ds => ar 2 g__law_pick (ds ++ [])) (aCons (eVar 0) (aCons (eL (lDisp (aCons (eC (.str "+")) (aCons (eC (.str "-")) (aCons (eC (.str "*")) (aCons (eC (.str "/")) (aCons (eC (.str "/")) aNil))))))) aNil)))) (mRet (eTup (aCons (eVar 3) (aCons (eCall (fun ds => ar 2 g__law_worth (ds ++ [])) (aCons (eVar 0) (aCons (e2 subD (eVar 1) (eC (.int 1))) aNil))) (aCons (eCall (fun ds => ar 2 g__law_worth (ds ++ [])) (aCons (eVar 0) (aCons (e2 subD (eVar 1) (eC (.int 1))) aNil))) aNil))))))))
def F__law_worth : Nat → Nat → List Da → Mo Da
  | 0, _ => fun _ => nop
  | n + 1, _ => fnM 4 (m__law_worth f__law_draw f__law_pick (F__law_worth n 0))
def f__law_worth (n : Nat) : List Da → Mo Da := F__law_worth n 0
theorem f__law_worth_s (n : Nat) : f__law_worth (n + 1) = fnM 4 (m__law_worth f__law_draw f__law_pick (f__law_worth n)) := rfl
def m__law_body (g__law_pick g__law_row : List Da → Mo Da) : Sl → Mo Fl := (mRet (eL (lComp (iR1 (aCons (eCall (fun ds => ar 2 g__law_pick (ds ++ [])) (aCons (eVar 0) (aCons (eIf (tst (e2 gtD (eVar 1) (eC (.int 0)))) (eL (lDisp (aCons (eC (.int 0)) (aCons (eC (.int 1)) (aCons (eC (.int 1)) (aCons (eC (.int 2)) (aCons (eC (.int 3)) aNil))))))) (eL (lDisp (aCons (eC (.int 1)) (aCons (eC (.int 2)) aNil))))) aNil))) aNil)) (gN 4) tYes_ (eCall (fun ds => ar 4 g__law_row (ds ++ [])) (aCons (eVar 0) (aCons (eVar 1) (aCons (eVar 2) (aCons (eVar 3) aNil))))) [4])))
def m__law_row (g__law_draw g__law_worth g__law_pick g__law_body : List Da → Mo Da) : Sl → Mo Fl := (mSeq (mIf (tst (e2 ltD (eCall (one lenD) (aCons (eVar 0) aNil)) (eC (.int 3)))) (mExpr (eApp (eVar 0) (eC (.int 0)))) mNil) (mSeq (mSetI (e2 addD (e2 ixD (eVar 0) (eC (.int 2))) (eC (.int 1))) (eVar 0) (eC (.int 2))) (mSeq (mIf (tst (e2 gtD (e2 ixD (eVar 0) (eC (.int 2))) (eC (.int 60)))) (mRet (eTup (aCons (eC (.str "out")) (aCons (eC (.int 1)) aNil)))) mNil) (mSeq (mSet 1 (eIf (tst (e2 ltD (e2 ixD (eVar 0) (eC (.int 2))) (eC (.int 30)))) (eVar 1) (eC (.int 0)))) (mSeq (mSet 4 (eCall (fun ds => ar 2 g__law_draw (ds ++ [])) (aCons (eVar 0) (aCons (eIf (tst (e2 gtD (eVar 1) (eC (.int 0)))) (eC (.int 14)) (eC (.int 7))) aNil)))) (mSeq (mIf (tst (e2 ltD (eVar 4) (eC (.int 2)))) (mRet (eTup (aCons (eC (.str "set")) (aCons (eCall (fun ds => ar 2 g__law_draw (ds ++ [])) (aCons (eVar 0) (aCons (eC (.int 3)) aNil))) (aCons (eCall (fun ds => ar 2 g__law_worth (ds ++ [])) (aCons (eVar 0) (aCons (eC (.int 2)) aNil))) aNil))))) mNil) (mSeq (mIf (tst (e2 ltD (eVar 4) (eC (.int 4)))) (mRet (eTup (aCons (eC (.str "out")) (aCons (eCall (fun ds => ar 2 g__law_worth (ds ++ [])) (aCons (eVar 0) (aCons (eC (.int 2)) aNil))) aNil)))) mNil) (mSeq (mIf (tst (e2 eqD (eVar 4) (eC (.int 4)))) (mRet (eTup (aCons (eC (.str "throw")) (aCons (e2 addD (eC (.int 1)) (eCall (fun ds => ar 2 g__law_draw (ds ++ [])) (aCons (eVar 0) (aCons (eC (.int 4)) aNil)))) (aCons (eCall (fun ds => ar 2 g__law_worth (ds ++ [])) (aCons (eVar 0) (aCons (eC (.int 1)) aNil))) aNil))))) mNil) (mSeq (mIf (tst (e2 eqD (eVar 4) (eC (.int 5)))) (mRet (eIf (tst (eVar 2)) (eTup (aCons (eC (.str "break")) aNil)) (eTup (aCons (eC (.str "return")) (aCons (eCall (fun ds => ar 2 g__law_worth (ds ++ [])) (aCons (eVar 0) (aCons (eC (.int 1)) aNil))) aNil))))) mNil) (mSeq (mIf (tst (e2 eqD (eVar 4) (eC (.int 6)))) (mSeq (mSet 8 (e2 addD (e2 ixD (eVar 3) (eC (.int 0))) (eC (.int 1)))) (mSeq (mIf (tst (e2 eqD (eVar 8) (eCall (one lenD) (aCons (e2 ixD (eVar 3) (eC (.int 1))) aNil)))) (mRet (eCall (fun ds => ar 2 g__law_pick (ds ++ [])) (aCons (eVar 0) (aCons (eL (lDisp (aCons (eTup (aCons (eC (.str "return")) (aCons (eCall (fun ds => ar 2 g__law_worth (ds ++ [])) (aCons (eVar 0) (aCons (eC (.int 1)) aNil))) aNil))) (aCons (eTup (aCons (eC (.str "out")) (aCons (eC (.int 7)) aNil))) aNil)))) aNil)))) mNil) (mSeq (mSet 8 (e2 addD (eVar 8) (eCall (fun ds => ar 2 g__law_draw (ds ++ [])) (aCons (eVar 0) (aCons (e2 subD (eCall (one lenD) (aCons (e2 ixD (eVar 3) (eC (.int 1))) aNil)) (eVar 8)) aNil))))) (mRet (eTup (aCons (eC (.str "call")) (aCons (eCall (fun ds => ar 2 g__law_draw (ds ++ [])) (aCons (eVar 0) (aCons (eC (.int 3)) aNil))) (aCons (eVar 8) (aCons (eL (lComp (iR1 (aCons (e2 ixD (e2 ixD (eVar 3) (eC (.int 1))) (eVar 8)) aNil)) (gN 6) tYes_ (eCall (fun ds => ar 2 g__law_worth (ds ++ [])) (aCons (eVar 0) (aCons (eC (.int 1)) aNil))) [6])) aNil))))))))) mNil) (mSeq (mIf (tst (e2 ltD (eVar 4) (eC (.int 9)))) (mRet (eTup (aCons (eC (.str "if")) (aCons (eCall (fun ds => ar 2 g__law_worth (ds ++ [])) (aCons (eVar 0) (aCons (eC (.int 1)) aNil))) (aCons (eCall (fun ds => ar 4 g__law_body (ds ++ [])) (aCons (eVar 0) (aCons (e2 subD (eVar 1) (eC (.int 1))) (aCons (eVar 2) (aCons (eVar 3) aNil))))) (aCons (eCall (fun ds => ar 4 g__law_body (ds ++ [])) (aCons (eVar 0) (aCons (e2 subD (eVar 1) (eC (.int 1))) (aCons (eVar 2) (aCons (eVar 3) aNil))))) aNil)))))) mNil) (mSeq (mIf (tst (e2 eqD (eVar 4) (eC (.int 9)))) (mRet (eTup (aCons (eC (.str "loop")) (aCons (e2 addD (eC (.int 1)) (eCall (fun ds => ar 2 g__law_draw (ds ++ [])) (aCons (eVar 0) (aCons (eC (.int 2)) aNil)))) (aCons (eCall (fun ds => ar 4 g__law_body (ds ++ [])) (aCons (eVar 0) (aCons (e2 subD (eVar 1) (eC (.int 1))) (aCons (eC (.bl true)) (aCons (eVar 3) aNil))))) aNil))))) mNil) (mSeq (mSet 5 (eH (lDisp aNil))) (mSeq (mFor (iR1 (aCons (eCall (fun ds => ar 2 g__law_draw (ds ++ [])) (aCons (eVar 0) (aCons (eC (.int 3)) aNil))) aNil)) (gN 6) (mExpr (eApp (eVar 5) (eTup (aCons (eCall (fun ds => ar 2 g__law_pick (ds ++ [])) (aCons (eVar 0) (aCons (eL (lDisp (aCons (eC (.non)) (aCons (eC (.int 0)) (aCons (eC (.int 0)) (aCons (eC (.int 1)) (aCons (eC (.int 2)) (aCons (eC (.int 3)) (aCons (eC (.int 4)) aNil))))))))) aNil))) (aCons (eCall (fun ds => ar 2 g__law_draw (ds ++ [])) (aCons (eVar 0) (aCons (eC (.int 3)) aNil))) (aCons (eCall (fun ds => ar 4 g__law_body (ds ++ [])) (aCons (eVar 0) (aCons (e2 subD (eVar 1) (eC (.int 1))) (aCons (eVar 2) (aCons (eVar 3) aNil))))) aNil))))))) (mSeq (mSet 7 (eCall (fun ds => ar 2 g__law_pick (ds ++ [])) (aCons (eVar 0) (aCons (eL (lDisp (aCons (eC (.non)) (aCons (eCall (fun ds => ar 4 g__law_body (ds ++ [])) (aCons (eVar 0) (aCons (eCall (two minD) (aCons (e2 subD (eVar 1) (eC (.int 1))) (aCons (eC (.int 1)) aNil))) (aCons (eVar 2) (aCons (eVar 3) aNil))))) aNil)))) aNil)))) (mRet (eTup (aCons (eC (.str "try")) (aCons (eCall (fun ds => ar 4 g__law_body (ds ++ [])) (aCons (eVar 0) (aCons (e2 subD (eVar 1) (eC (.int 1))) (aCons (eVar 2) (aCons (eVar 3) aNil))))) (aCons (eF (eVar 5)) (aCons (eVar 7) aNil)))))))))))))))))))))
def F__law_body : Nat → Nat → List Da → Mo Da
  | 0, _ => fun _ => nop
  | n + 1, 0 => fnM 5 (m__law_body f__law_pick (F__law_body n 1))
  | n + 1, _ => fnM 9 (m__law_row f__law_draw (f__law_worth 8) f__law_pick (F__law_body n 0))
def f__law_body (n : Nat) : List Da → Mo Da := F__law_body n 0
def f__law_row (n : Nat) : List Da → Mo Da := F__law_body n 1
theorem f__law_body_s (n : Nat) : f__law_body (n + 1) = fnM 5 (m__law_body f__law_pick (f__law_row n)) := rfl
theorem f__law_row_s (n : Nat) : f__law_row (n + 1) = fnM 9 (m__law_row f__law_draw (f__law_worth 8) f__law_pick (f__law_body n)) := rfl
def m__law_rows_of (g__law_rows_of : List Da → Mo Da) : Sl → Mo Fl := (mRet (eIf (tOr_ (tst (e1 (isT .int) (eVar 0))) (tst (e2 eqD (e2 ixD (eVar 0) (eC (.int 0))) (eC (.str "box"))))) (eC (.int 1)) (e2 addD (e2 addD (eCall (fun ds => ar 1 g__law_rows_of (ds ++ [])) (aCons (e2 ixD (eVar 0) (eC (.int 1))) aNil)) (eCall (fun ds => ar 1 g__law_rows_of (ds ++ [])) (aCons (e2 ixD (eVar 0) (eC (.int 2))) aNil))) (eC (.int 1)))))
def F__law_rows_of : Nat → Nat → List Da → Mo Da
  | 0, _ => fun _ => nop
  | n + 1, _ => fnM 1 (m__law_rows_of (F__law_rows_of n 0))
def f__law_rows_of (n : Nat) : List Da → Mo Da := F__law_rows_of n 0
theorem f__law_rows_of_s (n : Nat) : f__law_rows_of (n + 1) = fnM 1 (m__law_rows_of (f__law_rows_of n)) := rfl
def m__law_size (g__law_rows_of g__law_size : List Da → Mo Da) : Sl → Mo Fl := (mSeq (mSet 3 (eC (.int 0))) (mSeq (mFor (iV (eVar 0)) (gN 4) (mSeq (mSet 5 (e2 ixD (eVar 4) (eC (.int 0)))) (mIf (tst (e2 (inU false) (eVar 5) (eTup (aCons (eC (.str "set")) (aCons (eC (.str "throw")) aNil))))) (mSet 3 (e2 addD (e2 addD (eVar 3) (eCall (fun ds => ar 1 g__law_rows_of (ds ++ [])) (aCons (e2 ixD (eVar 4) (eC (.int 2))) aNil))) (eC (.int 1)))) (mIf (tst (e2 eqD (eVar 5) (eC (.str "out")))) (mSet 3 (e2 addD (e2 addD (eVar 3) (eCall (fun ds => ar 1 g__law_rows_of (ds ++ [])) (aCons (e2 ixD (eVar 4) (eC (.int 1))) aNil))) (eC (.int 1)))) (mIf (tst (e2 eqD (eVar 5) (eC (.str "return")))) (mSet 3 (e2 addD (e2 addD (e2 addD (eVar 3) (eCall (fun ds => ar 1 g__law_rows_of (ds ++ [])) (aCons (e2 ixD (eVar 4) (eC (.int 1))) aNil))) (eC (.int 3))) (eVar 1))) (mIf (tst (e2 eqD (eVar 5) (eC (.str "break")))) (mSet 3 (e2 addD (e2 addD (eVar 3) (eC (.int 1))) (eVar 2))) (mIf (tst (e2 eqD (eVar 5) (eC (.str "call")))) (mSet 3 (e2 addD (e2 addD (eVar 3) (eCall (one sum1) (aCons (eL (lComp (iV (e2 ixD (eVar 4) (eC (.int 3)))) (gN 7) tYes_ (eCall (fun ds => ar 1 g__law_rows_of (ds ++ [])) (aCons (eVar 7) aNil)) [7])) aNil))) (eC (.int 2)))) (mIf (tst (e2 eqD (eVar 5) (eC (.str "if")))) (mSet 3 (e2 addD (e2 addD (e2 addD (e2 addD (eVar 3) (eCall (fun ds => ar 1 g__law_rows_of (ds ++ [])) (aCons (e2 ixD (eVar 4) (eC (.int 1))) aNil))) (eC (.int 2))) (eCall (fun ds => ar 3 g__law_size (ds ++ [])) (aCons (e2 ixD (eVar 4) (eC (.int 2))) (aCons (eVar 1) (aCons (eVar 2) aNil))))) (eCall (fun ds => ar 3 g__law_size (ds ++ [])) (aCons (e2 ixD (eVar 4) (eC (.int 3))) (aCons (eVar 1) (aCons (eVar 2) aNil)))))) (mIf (tst (e2 eqD (eVar 5) (eC (.str "loop")))) (mSet 3 (e2 addD (e2 addD (eVar 3) (eC (.int 6))) (eCall (fun ds => ar 3 g__law_size (ds ++ [])) (aCons (e2 ixD (eVar 4) (eC (.int 2))) (aCons (eVar 1) (aCons (eC (.int 0)) aNil)))))) (mSeq (mSet 6 (eIf (tst (e2 (isB false) (e2 ixD (eVar 4) (eC (.int 3))) (eC (.non)))) (eC (.int 0)) (eCall (fun ds => ar 3 g__law_size (ds ++ [])) (aCons (e2 ixD (eVar 4) (eC (.int 3))) (aCons (eVar 1) (aCons (eVar 2) aNil)))))) (mSeq (mSet 3 (e2 addD (e2 addD (e2 addD (eVar 3) (eCall (fun ds => ar 3 g__law_size (ds ++ [])) (aCons (e2 ixD (eVar 4) (eC (.int 1))) (aCons (e2 addD (eVar 6) (eVar 1)) (aCons (e2 addD (eVar 6) (eVar 2)) aNil))))) (e2 mulD (eVar 6) (e2 addD (eC (.int 2)) (eCall (one lenD) (aCons (e2 ixD (eVar 4) (eC (.int 2))) aNil))))) (eC (.int 3)))) (mSet 3 (e2 addD (eVar 3) (eCall (one sum1) (aCons (eL (lComp (iV (e2 ixD (eVar 4) (eC (.int 2)))) (gN 7) tYes_ (e2 addD (eCall (fun ds => ar 3 g__law_size (ds ++ [])) (aCons (e2 ixD (eVar 7) (eC (.int 2))) (aCons (e2 addD (eVar 6) (eVar 1)) (aCons (e2 addD (eVar 6) (eVar 2)) aNil)))) (eC (.int 2))) [7])) aNil))))))))))))))) (mRet (eVar 3))))
def F__law_size : Nat → Nat → List Da → Mo Da
  | 0, _ => fun _ => nop
  | n + 1, _ => fnM 8 (m__law_size (f__law_rows_of 10) (F__law_size n 0))
def f__law_size (n : Nat) : List Da → Mo Da := F__law_size n 0
theorem f__law_size_s (n : Nat) : f__law_size (n + 1) = fnM 8 (m__law_size (f__law_rows_of 10) (f__law_size n)) := rfl
def m__law_program (g__law_draw g__law_body g__law_pick g__law_size : List Da → Mo Da) : Sl → Mo Fl := (mSeq (mIf (tst (e2 ltD (eCall (one lenD) (aCons (eVar 0) aNil)) (eC (.int 3)))) (mExpr (eApp (eVar 0) (eC (.int 0)))) mNil) (mSeq (mSetI (eC (.int 0)) (eVar 0) (eC (.int 2))) (mSeq (mSet 1 (eL (l2 catL (eL (lDisp (aCons (eC (.int 0)) aNil))) (eL (lComp (iR1 (aCons (eCall (fun ds => ar 2 g__law_draw (ds ++ [])) (aCons (eVar 0) (aCons (eC (.int 3)) aNil))) aNil)) (gN 3) tYes_ (eCall (fun ds => ar 2 g__law_draw (ds ++ [])) (aCons (eVar 0) (aCons (eC (.int 3)) aNil))) [3]))))) (mSeq (mSet 2 (eH (lDisp aNil))) (mSeq (mFor (iR1 (aCons (eCall (one lenD) (aCons (eVar 1) aNil)) aNil)) (gN 3) (mSeq (mSet 4 (eCall (fun ds => ar 4 g__law_body (ds ++ [])) (aCons (eVar 0) (aCons (eC (.int 3)) (aCons (eC (.bl false)) (aCons (eTup (aCons (eVar 3) (aCons (eVar 1) aNil))) aNil)))))) (mSeq (mIf (tst (e2 gtD (eCall (fun ds => ar 2 g__law_draw (ds ++ [])) (aCons (eVar 0) (aCons (eC (.int 3)) aNil))) (eC (.int 0)))) (mSeq (mSet 5 (eTup (aCons (eCall (fun ds => ar 2 g__law_pick (ds ++ [])) (aCons (eVar 0) (aCons (eL (lDisp (aCons (eC (.non)) (aCons (eC (.int 0)) (aCons (eC (.int 1)) aNil))))) aNil))) (aCons (eC (.int 2)) (aCons (eCall (fun ds => ar 4 g__law_body (ds ++ [])) (aCons (eVar 0) (aCons (eC (.int 2)) (aCons (eC (.bl false)) (aCons (eTup (aCons (eVar 3) (aCons (eVar 1) aNil))) aNil))))) aNil))))) (mSeq (mSet 6 (eCall (fun ds => ar 2 g__law_pick (ds ++ [])) (aCons (eVar 0) (aCons (eL (lDisp (aCons (eC (.non)) (aCons (eCall (fun ds => ar 4 g__law_body (ds ++ [])) (aCons (eVar 0) (aCons (eC (.int 1)) (aCons (eC (.bl false)) (aCons (eTup (aCons (eVar 3) (aCons (eVar 1) aNil))) aNil))))) aNil)))) aNil)))) (mSet 4 (eL (l2 catL (eL (lDisp (aCons (eTup (aCons (eC (.str "try")) (aCons (eVar 4) (aCons (eL (lDisp (aCons (eVar 5) aNil))) (aCons (eVar 6) aNil))))) aNil))) (eCall (fun ds => ar 4 g__law_body (ds ++ [])) (aCons (eVar 0) (aCons (eC (.int 1)) (aCons (eC (.bl false)) (aCons (eTup (aCons (eVar 3) (aCons (eVar 1) aNil))) aNil)))))))))) mNil) (mExpr (eApp (eVar 2) (eTup (aCons (e2 ixD (eVar 1) (eVar 3)) (aCons (eVar 4) aNil)))))))) (mSeq (mIf (tst (e2 gtD (eCall (one sum1) (aCons (eL (lComp (iV (eVar 2)) (gT 2 (gsC (gN 8) (gsC (gN 4) gsN))) tYes_ (eCall (fun ds => ar 3 g__law_size (ds ++ [])) (aCons (eVar 4) (aCons (eC (.int 0)) (aCons (eC (.int 0)) aNil)))) [8, 4])) aNil)) (eC (.int 1500)))) (mSet 2 (eH (lComp (iV (eVar 1)) (gN 7) tYes_ (eTup (aCons (eVar 7) (aCons (eL (lDisp (aCons (eTup (aCons (eC (.str "out")) (aCons (eC (.int 7)) aNil))) (aCons (eTup (aCons (eC (.str "return")) (aCons (eC (.int 1)) aNil))) aNil)))) aNil))) [7]))) mNil) (mRet (eF (eVar 2)))))))))
def f__law_program : List Da → Mo Da := fnM 9 (m__law_program f__law_draw (f__law_body 20) f__law_pick (f__law_size 20))
def m__law_reckon (g__law_reckon : List Da → Mo Da) : Sl → Mo Fl := (mSeq (mIf (tst (e1 (isT .int) (eVar 1))) (mRet (eTup (aCons (eC (.str "on")) (aCons (eVar 1) aNil)))) mNil) (mSeq (mIf (tst (e2 eqD (e2 ixD (eVar 1) (eC (.int 0))) (eC (.str "box")))) (mRet (eTup (aCons (eC (.str "on")) (aCons (e2 ixD (eVar 2) (e2 ixD (eVar 1) (eC (.int 1)))) aNil)))) mNil) (mSeq (mSet 3 (eCall (fun ds => ar 3 g__law_reckon (ds ++ [])) (aCons (eVar 0) (aCons (e2 ixD (eVar 1) (eC (.int 1))) (aCons (eVar 2) aNil))))) (mSeq (mIf (tst (e2 neD (e2 ixD (eVar 3) (eC (.int 0))) (eC (.str "on")))) (mRet (eVar 3)) mNil) (mSeq (mSet 4 (eCall (fun ds => ar 3 g__law_reckon (ds ++ [])) (aCons (eVar 0) (aCons (e2 ixD (eVar 1) (eC (.int 2))) (aCons (eVar 2) aNil))))) (mSeq (mIf (tst (e2 neD (e2 ixD (eVar 4) (eC (.int 0))) (eC (.str "on")))) (mRet (eVar 4)) mNil) (mSeq (mIf (tst (e2 eqD (e2 ixD (eVar 1) (eC (.int 0))) (eC (.str "/")))) (mRet (eIf (tst (e2 eqD (e2 ixD (eVar 4) (eC (.int 1))) (eC (.int 0)))) (eTup (aCons (eC (.str "throw")) (aCons (eC (.int 0)) (aCons (e2 ixD (eVar 3) (eC (.int 1))) aNil)))) (eTup (aCons (eC (.str "on")) (aCons (e2 fdivD (e2 ixD (eVar 3) (eC (.int 1))) (e2 ixD (eVar 4) (eC (.int 1)))) aNil))))) mNil) (mSeq (mSet 5 (eIf (tst (e2 eqD (e2 ixD (eVar 1) (eC (.int 0))) (eC (.str "+")))) (e2 addD (e2 ixD (eVar 3) (eC (.int 1))) (e2 ixD (eVar 4) (eC (.int 1)))) (eIf (tst (e2 eqD (e2 ixD (eVar 1) (eC (.int 0))) (eC (.str "-")))) (e2 subD (e2 ixD (eVar 3) (eC (.int 1))) (e2 ixD (eVar 4) (eC (.int 1)))) (e2 mulD (e2 ixD (eVar 3) (eC (.int 1))) (e2 ixD (eVar 4) (eC (.int 1))))))) (mRet (eTup (aCons (eC (.str "on")) (aCons (e2 modD (eVar 5) (eC (.int 1000))) aNil))))))))))))
def F__law_reckon : Nat → Nat → List Da → Mo Da
  | 0, _ => fun _ => nop
  | n + 1, _ => fnM 6 (m__law_reckon (F__law_reckon n 0))
def f__law_reckon (n : Nat) : List Da → Mo Da := F__law_reckon n 0
theorem f__law_reckon_s (n : Nat) : f__law_reckon (n + 1) = fnM 6 (m__law_reckon (f__law_reckon n)) := rfl
def m__law_rows (g__law_do : List Da → Mo Da) : Sl → Mo Fl := (mSeq (mFor (iV (eVar 1)) (gN 3) (mSeq (mSetI (e2 addD (e2 ixD (eVar 0) (eC (.int 2))) (eC (.int 1))) (eVar 0) (eC (.int 2))) (mSeq (mIf (tst (e2 gtD (e2 ixD (eVar 0) (eC (.int 2))) (eC (.int 400)))) (mRet (eTup (aCons (eC (.str "late")) aNil))) mNil) (mSeq (mSet 4 (eCall (fun ds => ar 3 g__law_do (ds ++ [])) (aCons (eVar 0) (aCons (eVar 3) (aCons (eVar 2) aNil))))) (mIf (tst (e2 neD (e2 ixD (eVar 4) (eC (.int 0))) (eC (.str "on")))) (mRet (eVar 4)) mNil))))) (mRet (eTup (aCons (eC (.str "on")) aNil))))
def m__law_do (g__law_rows g__law_try g__law_call g__law_reckon : List Da → Mo Da) : Sl → Mo Fl := (mSeq (mSet 3 (e2 ixD (eVar 1) (eC (.int 0)))) (mSeq (mIf (tst (e2 eqD (eVar 3) (eC (.str "break")))) (mRet (eTup (aCons (eC (.str "break")) aNil))) mNil) (mSeq (mIf (tst (e2 eqD (eVar 3) (eC (.str "loop")))) (mSeq (mFor (iR1 (aCons (e2 ixD (eVar 1) (eC (.int 1))) aNil)) (gN 5) (mSeq (mSet 4 (eCall (fun ds => ar 3 g__law_rows (ds ++ [])) (aCons (eVar 0) (aCons (e2 ixD (eVar 1) (eC (.int 2))) (aCons (eVar 2) aNil))))) (mIf (tst (e2 neD (e2 ixD (eVar 4) (eC (.int 0))) (eC (.str "on")))) (mRet (eIf (tst (e2 eqD (e2 ixD (eVar 4) (eC (.int 0))) (eC (.str "break")))) (eTup (aCons (eC (.str "on")) aNil)) (eVar 4))) mNil))) (mRet (eTup (aCons (eC (.str "on")) aNil)))) mNil) (mSeq (mIf (tst (e2 eqD (eVar 3) (eC (.str "try")))) (mRet (eCall (fun ds => ar 3 g__law_try (ds ++ [])) (aCons (eVar 0) (aCons (eVar 1) (aCons (eVar 2) aNil))))) mNil) (mSeq (mIf (tst (e2 eqD (eVar 3) (eC (.str "call")))) (mRet (eCall (fun ds => ar 3 g__law_call (ds ++ [])) (aCons (eVar 0) (aCons (eVar 1) (aCons (eVar 2) aNil))))) mNil) (mSeq (mSet 4 (eCall (fun ds => ar 3 g__law_reckon (ds ++ [])) (aCons (eVar 0) (aCons (eIf (tst (e2 (inU false) (eVar 3) (eTup (aCons (eC (.str "set")) (aCons (eC (.str "throw")) aNil))))) (e2 ixD (eVar 1) (eC (.int 2))) (e2 ixD (eVar 1) (eC (.int 1)))) (aCons (eVar 2) aNil))))) (mSeq (mIf (tst (e2 neD (e2 ixD (eVar 4) (eC (.int 0))) (eC (.str "on")))) (mRet (eVar 4)) mNil) (mSeq (mIf (tst (e2 eqD (eVar 3) (eC (.str "set")))) (mSetI (e2 ixD (eVar 4) (eC (.int 1))) (eVar 2) (e2 ixD (eVar 1) (eC (.int 1)))) mNil) (mSeq (mIf (tst (e2 eqD (eVar 3) (eC (.str "out")))) (mSetI (eL (l2 catL (e2 ixD (eVar 0) (eC (.int 1))) (eL (lDisp (aCons (e2 ixD (eVar 4) (eC (.int 1))) aNil))))) (eVar 0) (eC (.int 1))) mNil) (mSeq (mIf (tst (e2 eqD (eVar 3) (eC (.str "throw")))) (mRet (eTup (aCons (eC (.str "throw")) (aCons (e2 ixD (eVar 1) (eC (.int 1))) (aCons (e2 ixD (eVar 4) (eC (.int 1))) aNil))))) mNil) (mSeq (mIf (tst (e2 eqD (eVar 3) (eC (.str "return")))) (mRet (eTup (aCons (eC (.str "return")) (aCons (e2 ixD (eVar 4) (eC (.int 1))) aNil)))) mNil) (mSeq (mIf (tst (e2 eqD (eVar 3) (eC (.str "if")))) (mRet (eCall (fun ds => ar 3 g__law_rows (ds ++ [])) (aCons (eVar 0) (aCons (eIf (tst (e2 neD (e2 ixD (eVar 4) (eC (.int 1))) (eC (.int 0)))) (e2 ixD (eVar 1) (eC (.int 2))) (e2 ixD (eVar 1) (eC (.int 3)))) (aCons (eVar 2) aNil))))) mNil) (mRet (eTup (aCons (eC (.str "on")) aNil)))))))))))))))
def m__law_try (g__law_rows : List Da → Mo Da) : Sl → Mo Fl := (mSeq (mTgt (gT 4 (gsC (gN 3) (gsC (gN 4) (gsC (gN 5) (gsC (gN 6) gsN))))) (eVar 1)) (mSeq (mSet 7 (eCall (fun ds => ar 3 g__law_rows (ds ++ [])) (aCons (eVar 0) (aCons (eVar 4) (aCons (eVar 2) aNil))))) (mSeq (mIf (tst (e2 eqD (e2 ixD (eVar 7) (eC (.int 0))) (eC (.str "throw")))) (mSeq (mSet 8 (eL (lComp (iV (eVar 5)) (gN 10) (tst (e2 (inU false) (e2 ixD (eVar 10) (eC (.int 0))) (eTup (aCons (eC (.non)) (aCons (e2 ixD (eVar 7) (eC (.int 1))) aNil))))) (eVar 10) [10]))) (mIf (tst (e2 neD (eVar 8) (eL (lDisp aNil)))) (mSeq (mSetI (e2 ixD (eVar 7) (eC (.int 2))) (eVar 2) (e2 ixD (e2 ixD (eVar 8) (eC (.int 0))) (eC (.int 1)))) (mSet 7 (eCall (fun ds => ar 3 g__law_rows (ds ++ [])) (aCons (eVar 0) (aCons (e2 ixD (e2 ixD (eVar 8) (eC (.int 0))) (eC (.int 2))) (aCons (eVar 2) aNil)))))) mNil)) mNil) (mSeq (mIf (tAnd_ (tst (e2 (isB true) (eVar 6) (eC (.non)))) (tst (e2 neD (e2 ixD (eVar 7) (eC (.int 0))) (eC (.str "late"))))) (mSeq (mSet 9 (eCall (fun ds => ar 3 g__law_rows (ds ++ [])) (aCons (eVar 0) (aCons (eVar 6) (aCons (eVar 2) aNil))))) (mSet 7 (eIf (tst (e2 eqD (e2 ixD (eVar 9) (eC (.int 0))) (eC (.str "on")))) (eVar 7) (eVar 9)))) mNil) (mRet (eVar 7))))))
def m__law_call (g__law_reckon g__law_rows : List Da → Mo Da) : Sl → Mo Fl := (mSeq (mTgt (gT 4 (gsC (gN 3) (gsC (gN 4) (gsC (gN 5) (gsC (gN 6) gsN))))) (eVar 1)) (mSeq (mSet 7 (eH (lDisp aNil))) (mSeq (mFor (iV (eVar 6)) (gN 8) (mSeq (mSet 9 (eCall (fun ds => ar 3 g__law_reckon (ds ++ [])) (aCons (eVar 0) (aCons (eVar 8) (aCons (eVar 2) aNil))))) (mSeq (mIf (tst (e2 neD (e2 ixD (eVar 9) (eC (.int 0))) (eC (.str "on")))) (mRet (eVar 9)) mNil) (mExpr (eApp (eVar 7) (e2 ixD (eVar 9) (eC (.int 1)))))))) (mSeq (mSet 9 (eCall (fun ds => ar 3 g__law_rows (ds ++ [])) (aCons (eVar 0) (aCons (e2 ixD (e2 ixD (e2 ixD (eVar 0) (eC (.int 0))) (eVar 5)) (eC (.int 1))) (aCons (eH (l2 catL (eVar 7) (eL (l2 repL (eL (lDisp (aCons (eC (.int 0)) aNil))) (e2 subD (eC (.int 8)) (eCall (one lenD) (aCons (eVar 7) aNil))))))) aNil))))) (mSeq (mIf (tst (e2 (inU false) (e2 ixD (eVar 9) (eC (.int 0))) (eTup (aCons (eC (.str "on")) (aCons (eC (.str "return")) aNil))))) (mSeq (mSetI (eIf (tst (e2 eqD (e2 ixD (eVar 9) (eC (.int 0))) (eC (.str "return")))) (e2 ixD (eVar 9) (eC (.int 1))) (eC (.int 0))) (eVar 2) (eVar 4)) (mRet (eTup (aCons (eC (.str "on")) aNil)))) mNil) (mRet (eVar 9)))))))
def F__law_rows : Nat → Nat → List Da → Mo Da
  | 0, _ => fun _ => nop
  | n + 1, 0 => fnM 5 (m__law_rows (F__law_rows n 1))
  | n + 1, 1 => fnM 6 (m__law_do (F__law_rows n 0) (F__law_rows n 2) (F__law_rows n 3) (f__law_reckon 10))
  | n + 1, 2 => fnM 11 (m__law_try (F__law_rows n 0))
  | n + 1, _ => fnM 10 (m__law_call (f__law_reckon 10) (F__law_rows n 0))
def f__law_rows (n : Nat) : List Da → Mo Da := F__law_rows n 0
def f__law_do (n : Nat) : List Da → Mo Da := F__law_rows n 1
def f__law_try (n : Nat) : List Da → Mo Da := F__law_rows n 2
def f__law_call (n : Nat) : List Da → Mo Da := F__law_rows n 3
theorem f__law_rows_s (n : Nat) : f__law_rows (n + 1) = fnM 5 (m__law_rows (f__law_do n)) := rfl
theorem f__law_do_s (n : Nat) : f__law_do (n + 1) = fnM 6 (m__law_do (f__law_rows n) (f__law_try n) (f__law_call n) (f__law_reckon 10)) := rfl
theorem f__law_try_s (n : Nat) : f__law_try (n + 1) = fnM 11 (m__law_try (f__law_rows n)) := rfl
theorem f__law_call_s (n : Nat) : f__law_call (n + 1) = fnM 10 (m__law_call (f__law_reckon 10) (f__law_rows n)) := rfl
def m__law_meaning (g__law_rows : List Da → Mo Da) : Sl → Mo Fl := (mSeq (mSet 1 (eH (lDisp (aCons (eVar 0) (aCons (eL (lDisp aNil)) (aCons (eC (.int 0)) aNil)))))) (mSeq (mSet 2 (eCall (fun ds => ar 3 g__law_rows (ds ++ [])) (aCons (eVar 1) (aCons (e2 ixD (e2 ixD (eVar 0) (eC (.int 0))) (eC (.int 1))) (aCons (eH (l2 repL (eL (lDisp (aCons (eC (.int 0)) aNil))) (eC (.int 8)))) aNil))))) (mSeq (mIf (tst (e2 eqD (e2 ixD (eVar 2) (eC (.int 0))) (eC (.str "late")))) (mRet (eC (.non))) mNil) (mRet (eTup (aCons (eIf (tst (e2 eqD (e2 ixD (eVar 2) (eC (.int 0))) (eC (.str "on")))) (eTup (aCons (eC (.str "return")) (aCons (eC (.int 0)) aNil))) (eVar 2)) (aCons (e2 ixD (eVar 1) (eC (.int 1))) aNil)))))))
def f__law_meaning : List Da → Mo Da := fnM 3 (m__law_meaning (f__law_rows 90))
def m_law (g__law_town g__law_program g__law_meaning g_is_program g_meaning g__law_whole_list g__law_whole : List Da → Mo Da) : Sl → Mo Fl := (mSeq (mSet 1 (eCall (fun ds => ar 1 g__law_town (ds ++ [])) (aCons (eVar 0) aNil))) (mSeq (mFor (iR1 (aCons (eC (.int 4)) aNil)) (gN 2) (mSeq (mSet 3 (eCall (fun ds => ar 1 g__law_program (ds ++ [])) (aCons (eVar 1) aNil))) (mSeq (mSet 4 (eCall (fun ds => ar 1 g__law_meaning (ds ++ [])) (aCons (eVar 3) aNil))) (mSeq (mIf (tst (e2 (isB true) (eCall (fun ds => ar 1 g_is_program (ds ++ [])) (aCons (eVar 3) aNil)) (eC (.bl true)))) (mRet (eC (.bl false))) mNil) (mIf (tst (e2 (isB true) (eVar 4) (eC (.non)))) (mSeq (mSet 5 (eCall (fun ds => ar 3 g_meaning (ds ++ [(.int 0), (.tup [])])) (aCons (eVar 3) aNil))) (mSeq (mIf (tOr_ (tst (e2 neD (eVar 5) (eVar 4))) (tOr_ (tNot_ (tst (e1 (isT .tuple) (eVar 5)))) (tNot_ (tst (e1 (isT .tuple) (e2 ixD (eVar 5) (eC (.int 0)))))))) (mRet (eC (.bl false))) mNil) (mIf (tOr_ (tNot_ (tst (eCall (fun ds => ar 1 g__law_whole_list (ds ++ [])) (aCons (e2 ixD (eVar 5) (eC (.int 1))) aNil)))) (tNot_ (tst (eCall (fun ds => ar 1 g__law_whole (ds ++ [])) (aCons (e2 ixD (e2 ixD (eVar 5) (eC (.int 0))) (e1 negD (eC (.int 1)))) aNil))))) (mRet (eC (.bl false))) mNil))) mNil))))) (mRet (eC (.bl true)))))
def f_law : List Da → Mo Da := fnM 6 (m_law f__law_town f__law_program f__law_meaning f_is_program f_meaning f__law_whole_list f__law_whole)
end CL
namespace CL
open PySem L2
/-- what a mirror's run must bring -/
def Wp {A : Type} (m : Mo A) (st : Store) (post : A → Store → Prop) (ex : Str → List Da → Store → Prop) : Prop := match m st with
  | .ok a st' => post a st'
  | .exc c as st' => ex c as st'
  | .bad => False
abbrev noEx : Str → List Da → Store → Prop := fun _ _ _ => False
section
variable {A B : Type} {st : Store} {ex : Str → List Da → Store → Prop}
theorem Wp.mono {m : Mo A} {post post' : A → Store → Prop} (h : Wp m st post ex) (hp : ∀ a st', post a st' → post' a st') : Wp m st post' ex := by
  unfold Wp at h ⊢
  cases q : m st with
  | ok a st' => rw [q] at h; exact hp a st' h
  | exc c as st' => rw [q] at h; exact h
  | bad => rw [q] at h; exact h
theorem Wp.congr {m : Mo A} {post post' : A → Store → Prop} (hp : ∀ a st', post a st' ↔ post' a st') : Wp m st post ex ↔ Wp m st post' ex :=
  ⟨fun h => h.mono fun a s => (hp a s).mp, fun h => h.mono fun a s => (hp a s).mpr⟩
theorem Wp.ofNo {m : Mo A} {post post' : A → Store → Prop} (h : Wp m st post noEx) (hp : ∀ a st', post a st' → post' a st') : Wp m st post' ex := by
  unfold Wp at h ⊢
  cases q : m st with
  | ok a st' => rw [q] at h; exact hp a st' h
  | exc c as st' => rw [q] at h; exact h.elim
  | bad => rw [q] at h; exact h
theorem Wp.out {m : Mo A} {post : A → Store → Prop} (h : Wp m st post noEx) : ∃ a st', m st = .ok a st' ∧ post a st' := by
  unfold Wp at h
  cases q : m st with
  | ok a st' => rw [q] at h; exact ⟨a, st', rfl, h⟩
  | exc c as st' => rw [q] at h; exact h.elim
  | bad => rw [q] at h; exact h.elim
theorem Wp.of {m : Mo A} {post : A → Store → Prop} {a : A} {st' : Store} (h : m st = .ok a st') (hp : post a st') : Wp m st post ex := by
  unfold Wp; rw [h]; exact hp
@[simp] theorem wp_bnd {m : Mo A} {f : A → Mo B} {post : B → Store → Prop} : Wp (bnd m f) st post ex ↔ Wp m st (fun a st' => Wp (f a) st' post ex) ex := by
  unfold Wp bnd
  cases m st <;> rfl
@[simp] theorem wp_ret {a : A} {post : A → Store → Prop} : Wp (ret a) st post ex ↔ post a st := Iff.rfl
@[simp] theorem wp_nop {post : A → Store → Prop} : Wp (nop : Mo A) st post ex ↔ False := Iff.rfl
@[simp] theorem wp_noX {m : Mo A} {post : A → Store → Prop} : Wp (noX m) st post ex ↔ Wp m st post noEx := by
  unfold Wp noX
  cases m st <;> rfl
@[simp] theorem wp_ite {c : Prop} [Decidable c] {m n : Mo A} {post : A → Store → Prop} : Wp (if c then m else n) st post ex ↔ if c then Wp m st post ex else Wp n st post ex := by
  split <;> rfl
variable {a b c : Sl → Mo Da} {p q : Sl → Mo Bool} {al : Sl → Mo (List Da)} {ro : Sl} {post : Da → Store → Prop} {postB : Bool → Store → Prop} {postL : List Da → Store → Prop} {postF : Fl → Store → Prop}
theorem wp_var {i : Nat} {d : Da} (h : ro[i]? = some (some d)) : Wp (eVar i ro) st post ex ↔ post d st := by
  unfold Wp eVar; rw [h]
@[simp] theorem wp_var0 {d : Da} {r : Sl} : Wp (eVar 0 (some d :: r)) st post ex ↔ post d st := Iff.rfl
@[simp] theorem wp_varS {i : Nat} {o : Option Da} {r : Sl} : Wp (eVar (i + 1) (o :: r)) st post ex ↔ Wp (eVar i r) st post ex := Iff.rfl
@[simp] theorem wp_var1 {o0 : Option Da} {d : Da} {r : Sl} : Wp (eVar 1 (o0 :: some d :: r)) st post ex ↔ post d st := Iff.rfl
@[simp] theorem wp_var2 {o0 o1 : Option Da} {d : Da} {r : Sl} : Wp (eVar 2 (o0 :: o1 :: some d :: r)) st post ex ↔ post d st := Iff.rfl
@[simp] theorem wp_var3 {o0 o1 o2 : Option Da} {d : Da} {r : Sl} : Wp (eVar 3 (o0 :: o1 :: o2 :: some d :: r)) st post ex ↔ post d st := Iff.rfl
@[simp] theorem wp_var4 {o0 o1 o2 o3 : Option Da} {d : Da} {r : Sl} : Wp (eVar 4 (o0 :: o1 :: o2 :: o3 :: some d :: r)) st post ex ↔ post d st := Iff.rfl
@[simp] theorem wp_var5 {o0 o1 o2 o3 o4 : Option Da} {d : Da} {r : Sl} : Wp (eVar 5 (o0 :: o1 :: o2 :: o3 :: o4 :: some d :: r)) st post ex ↔ post d st := Iff.rfl
@[simp] theorem wp_var6 {o0 o1 o2 o3 o4 o5 : Option Da} {d : Da} {r : Sl} : Wp (eVar 6 (o0 :: o1 :: o2 :: o3 :: o4 :: o5 :: some d :: r)) st post ex ↔ post d st := Iff.rfl
@[simp] theorem wp_var7 {o0 o1 o2 o3 o4 o5 o6 : Option Da} {d : Da} {r : Sl} : Wp (eVar 7 (o0 :: o1 :: o2 :: o3 :: o4 :: o5 :: o6 :: some d :: r)) st post ex ↔ post d st := Iff.rfl
@[simp] theorem wp_var8 {o0 o1 o2 o3 o4 o5 o6 o7 : Option Da} {d : Da} {r : Sl} : Wp (eVar 8 (o0 :: o1 :: o2 :: o3 :: o4 :: o5 :: o6 :: o7 :: some d :: r)) st post ex ↔ post d st := Iff.rfl
@[simp] theorem wp_var9 {o0 o1 o2 o3 o4 o5 o6 o7 o8 : Option Da} {d : Da} {r : Sl} : Wp (eVar 9 (o0 :: o1 :: o2 :: o3 :: o4 :: o5 :: o6 :: o7 :: o8 :: some d :: r)) st post ex ↔ post d st := Iff.rfl
@[simp] theorem wp_var10 {o0 o1 o2 o3 o4 o5 o6 o7 o8 o9 : Option Da} {d : Da} {r : Sl} : Wp (eVar 10 (o0 :: o1 :: o2 :: o3 :: o4 :: o5 :: o6 :: o7 :: o8 :: o9 :: some d :: r)) st post ex ↔ post d st := Iff.rfl
@[simp] theorem wp_c {d : Da} : Wp (eC d ro) st post ex ↔ post d st := Iff.rfl
@[simp] theorem wp_e2 {f : Da → Da → Mo Da} : Wp (e2 f a b ro) st post ex ↔ Wp (a ro) st (fun x s1 => Wp (b ro) s1 (fun y s2 => Wp (f x y) s2 post ex) ex) ex := by unfold e2; simp only [wp_bnd]
@[simp] theorem wp_e1 {f : Da → Mo Da} : Wp (e1 f a ro) st post ex ↔ Wp (a ro) st (fun x s1 => Wp (f x) s1 post ex) ex := by unfold e1; simp only [wp_bnd]
@[simp] theorem wp_toB {k : Bool} : Wp (toB (.bl k)) st postB ex ↔ postB k st := Iff.rfl
@[simp] theorem wp_tst : Wp (tst a ro) st postB ex ↔ Wp (a ro) st (fun x s1 => Wp (toB x) s1 postB ex) ex := by unfold tst; simp only [wp_bnd]
@[simp] theorem wp_and : Wp (tAnd_ p q ro) st postB ex ↔ Wp (p ro) st (fun x s1 => if x = true then Wp (q ro) s1 postB ex else postB false s1) ex := by unfold tAnd_; simp only [wp_bnd, wp_ite, wp_ret]
@[simp] theorem wp_or : Wp (tOr_ p q ro) st postB ex ↔ Wp (p ro) st (fun x s1 => if x = true then postB true s1 else Wp (q ro) s1 postB ex) ex := by unfold tOr_; simp only [wp_bnd, wp_ite, wp_ret]
@[simp] theorem wp_not : Wp (tNot_ p ro) st postB ex ↔ Wp (p ro) st (fun x s1 => postB (!x) s1) ex := by unfold tNot_; simp only [wp_bnd, wp_ret]
@[simp] theorem wp_vAnd : Wp (vAnd a b ro) st post ex ↔ Wp (tst a ro) st (fun x s1 => if x = true then Wp (b ro) s1 post ex else post (.bl false) s1) ex := by unfold vAnd; simp only [wp_bnd, wp_ite, wp_ret]
@[simp] theorem wp_vOr : Wp (vOr a b ro) st post ex ↔ Wp (tst a ro) st (fun x s1 => if x = true then post (.bl true) s1 else Wp (b ro) s1 post ex) ex := by unfold vOr; simp only [wp_bnd, wp_ite, wp_ret]
@[simp] theorem wp_vNot : Wp (vNot a ro) st post ex ↔ Wp (tst a ro) st (fun x s1 => post (.bl (!x)) s1) ex := by unfold vNot; simp only [wp_bnd, wp_ret]
@[simp] theorem wp_eIf : Wp (eIf p a b ro) st post ex ↔ Wp (p ro) st (fun x s1 => if x = true then Wp (a ro) s1 post ex else Wp (b ro) s1 post ex) ex := by unfold eIf; simp only [wp_bnd, wp_ite]
@[simp] theorem wp_aNil : Wp (aNil ro) st postL ex ↔ postL [] st := Iff.rfl
@[simp] theorem wp_aCons : Wp (aCons a al ro) st postL ex ↔ Wp (a ro) st (fun x s1 => Wp (al ro) s1 (fun xs s2 => postL (x :: xs) s2) ex) ex := by unfold aCons; simp only [wp_bnd, wp_ret]
@[simp] theorem wp_eTup : Wp (eTup al ro) st post ex ↔ Wp (al ro) st (fun xs s1 => if xs.length ≤ 1000 then post (.tup xs) s1 else False) ex := by unfold eTup; simp only [wp_bnd, wp_ite, wp_ret, wp_nop]
@[simp] theorem wp_lDisp : Wp (lDisp al ro) st postL ex ↔ Wp (al ro) st (fun xs s1 => if xs.length ≤ 1000 then postL xs s1 else False) ex := by unfold lDisp; simp only [wp_bnd, wp_ite, wp_ret, wp_nop]
@[simp] theorem wp_eL : Wp (eL al ro) st post ex ↔ Wp (al ro) st (fun xs s1 => post (.lst xs) s1) ex := by unfold eL; simp only [wp_bnd, wp_ret]
theorem wp_H1 {xs : List Da} {post : Da → Store → Prop} : Wp (fun st => Res.ok (Da.han st.length) (st ++ [Cell.lst xs])) st post ex ↔ post (.han st.length) (st ++ [.lst xs]) := Iff.rfl
@[simp] theorem wp_eH : Wp (eH al ro) st post ex ↔ Wp (al ro) st (fun xs s1 => post (.han s1.length) (s1 ++ [.lst xs])) ex := by unfold eH; simp only [wp_bnd, wp_H1]
@[simp] theorem wp_eF : Wp (eF a ro) st post ex ↔ Wp (a ro) st (fun x s1 => Wp (fz x) s1 post ex) ex := by unfold eF; simp only [wp_bnd]
theorem wp_fz {n : Nat} {ds : List Da} (h : st[n]? = some (.lst ds)) : Wp (fz (.han n)) st post ex ↔ post (.lst ds) (st.set n .dead) := by unfold Wp fz; dsimp only; rw [h]
@[simp] theorem wp_eCall {f : List Da → Mo Da} : Wp (eCall f al ro) st post ex ↔ Wp (al ro) st (fun xs s1 => Wp (f xs) s1 post ex) ex := by unfold eCall; simp only [wp_bnd]
@[simp] theorem wp_lCall {f : List Da → Mo (List Da)} : Wp (lCall f al ro) st postL ex ↔ Wp (al ro) st (fun xs s1 => Wp (f xs) s1 postL ex) ex := by unfold lCall; simp only [wp_bnd]
@[simp] theorem wp_l2 {f : Da → Da → Mo (List Da)} : Wp (l2 f a b ro) st postL ex ↔ Wp (a ro) st (fun x s1 => Wp (b ro) s1 (fun y s2 => Wp (f x y) s2 postL ex) ex) ex := by unfold l2; simp only [wp_bnd]
@[simp] theorem wp_chain {f g : Da → Da → Mo Da} : Wp (eChain f g a b c ro) st post ex ↔ Wp (a ro) st (fun x s1 => Wp (b ro) s1 (fun y s2 => Wp (f x y) s2 (fun z s3 => Wp (toB z) s3 (fun k s4 => if k = true then Wp (c ro) s4 (fun z s5 => Wp (g y z) s5 post ex) ex else post (.bl false) s4) ex) ex) ex) ex := by
  unfold eChain; simp only [wp_bnd, wp_ite, wp_ret]
@[simp] theorem wp_ar {n : Nat} {f : List Da → Mo A} {ds : List Da} {post : A → Store → Prop} : Wp (ar n f ds) st post ex ↔ if ds.length = n then Wp (f ds) st post ex else False := by
  unfold ar; simp only [wp_ite, wp_nop]
@[simp] theorem wp_one {f : Da → Mo A} {d : Da} {post : A → Store → Prop} : Wp (one f [d]) st post ex ↔ Wp (f d) st post ex := Iff.rfl
@[simp] theorem wp_two {f : Da → Da → Mo A} {d e : Da} {post : A → Store → Prop} : Wp (two f [d, e]) st post ex ↔ Wp (f d e) st post ex := Iff.rfl
/-! operators -/
@[simp] theorem wp_add_i {i j : Int} : Wp (addD (.int i) (.int j)) st post ex ↔ post (.int (i + j)) st := Iff.rfl
@[simp] theorem wp_sub_i {i j : Int} : Wp (subD (.int i) (.int j)) st post ex ↔ post (.int (i - j)) st := Iff.rfl
@[simp] theorem wp_mul_i {i j : Int} : Wp (mulD (.int i) (.int j)) st post ex ↔ if CMul i j then post (.int (i * j)) st else False := by unfold mulD; simp only [wp_ite, wp_ret, wp_nop]
@[simp] theorem wp_fdiv_i {i j : Int} : Wp (fdivD (.int i) (.int j)) st post ex ↔ if CDivN i j then post (.int (i.fdiv j)) st else False := by unfold fdivD; simp only [wp_ite, wp_ret, wp_nop]
@[simp] theorem wp_mod_i {i j : Int} : Wp (modD (.int i) (.int j)) st post ex ↔ if j ≠ 0 then post (.int (i.fmod j)) st else False := by unfold modD; simp only [wp_ite, wp_ret, wp_nop]
@[simp] theorem wp_pow_i {i j : Int} : Wp (powD (.int i) (.int j)) st post ex ↔ if CPow i j then post (.int (i ^ j.toNat)) st else False := by unfold powD; simp only [wp_ite, wp_ret, wp_nop]
@[simp] theorem wp_lt_i {i j : Int} : Wp (ltD (.int i) (.int j)) st post ex ↔ post (.bl (decide (i < j))) st := Iff.rfl
@[simp] theorem wp_le_i {i j : Int} : Wp (leD (.int i) (.int j)) st post ex ↔ post (.bl (decide (i ≤ j))) st := Iff.rfl
@[simp] theorem wp_gt_i {i j : Int} : Wp (gtD (.int i) (.int j)) st post ex ↔ post (.bl (decide (j < i))) st := Iff.rfl
@[simp] theorem wp_ge_i {i j : Int} : Wp (geD (.int i) (.int j)) st post ex ↔ post (.bl (decide (j ≤ i))) st := Iff.rfl
@[simp] theorem wp_neg_i {i : Int} : Wp (negD (.int i)) st post ex ↔ post (.int (-i)) st := Iff.rfl
@[simp] theorem wp_max_i {i j : Int} : Wp (maxD (.int i) (.int j)) st post ex ↔ post (.int (if j > i then j else i)) st := Iff.rfl
@[simp] theorem wp_min_i {i j : Int} : Wp (minD (.int i) (.int j)) st post ex ↔ post (.int (if j < i then j else i)) st := Iff.rfl
theorem wp_isT {t u : Tn} {d : Da} (h : tyN st d = some u) : Wp (isT t d) st post ex ↔ post (.bl (isTn u t)) st := by unfold Wp isT; rw [h]
@[simp] theorem wp_isT_i {t : Tn} {i : Int} : Wp (isT t (.int i)) st post ex ↔ post (.bl (isTn .int t)) st := Iff.rfl
@[simp] theorem wp_isT_b {t : Tn} {i : Bool} : Wp (isT t (.bl i)) st post ex ↔ post (.bl (isTn .bool t)) st := Iff.rfl
@[simp] theorem wp_isT_s {t : Tn} {i : Str} : Wp (isT t (.str i)) st post ex ↔ post (.bl (isTn .str t)) st := Iff.rfl
@[simp] theorem wp_isT_n {t : Tn} : Wp (isT t .non) st post ex ↔ post (.bl (isTn .non t)) st := Iff.rfl
@[simp] theorem wp_isT_t {t : Tn} {xs : List Da} : Wp (isT t (.tup xs)) st post ex ↔ post (.bl (isTn .tuple t)) st := Iff.rfl
@[simp] theorem wp_isT_l {t : Tn} {xs : List Da} : Wp (isT t (.lst xs)) st post ex ↔ post (.bl (isTn .list t)) st := Iff.rfl
@[simp] theorem wp_is_non {b : Bool} : Wp (isB b .non .non) st post ex ↔ post (.bl (if b then false else true)) st := by cases b <;> exact Iff.rfl
@[simp] theorem wp_is_int {b : Bool} {i : Int} : Wp (isB b (.int i) .non) st post ex ↔ post (.bl (if b then true else false)) st := by cases b <;> exact Iff.rfl
@[simp] theorem wp_is_tup {b : Bool} {i : List Da} : Wp (isB b (.tup i) .non) st post ex ↔ post (.bl (if b then true else false)) st := by cases b <;> exact Iff.rfl
@[simp] theorem wp_is_lst {b : Bool} {i : List Da} : Wp (isB b (.lst i) .non) st post ex ↔ post (.bl (if b then true else false)) st := by cases b <;> exact Iff.rfl
@[simp] theorem wp_is_bl {b x y : Bool} : Wp (isB b (.bl x) (.bl y)) st post ex ↔ post (.bl (if b then !decide (x = y) else decide (x = y))) st := Iff.rfl
/-! sequences -/
theorem wp_len {d : Da} {xs : List Da} (h : sqOf st d = some xs) : Wp (lenD d) st post ex ↔ post (.int xs.length) st := by
  unfold Wp lenD
  cases d <;> first | (dsimp only; rw [h]) | (cases h)
@[simp] theorem wp_len_l {xs : List Da} : Wp (lenD (.lst xs)) st post ex ↔ post (.int xs.length) st := Iff.rfl
@[simp] theorem wp_len_t {xs : List Da} : Wp (lenD (.tup xs)) st post ex ↔ post (.int xs.length) st := Iff.rfl
theorem wp_ix {d x : Da} {xs : List Da} {i : Int} (hf : ∀ ys, d ≠ .fro ys) (h : sqOf st d = some xs) (hx : atI xs i = some x) : Wp (ixD d (.int i)) st post ex ↔ post x st := by
  unfold Wp ixD
  cases d with
  | fro ys => exact absurd rfl (hf ys)
  | str s => cases h
  | non => cases h
  | bl b => cases h
  | int i => cases h
  | tup ys => dsimp only; rw [h]; dsimp only; rw [hx]
  | lst ys => dsimp only; rw [h]; dsimp only; rw [hx]
  | han n => dsimp only; rw [h]; dsimp only; rw [hx]
theorem wp_ix_t {x : Da} {xs : List Da} {i : Int} (hx : atI xs i = some x) : Wp (ixD (.tup xs) (.int i)) st post ex ↔ post x st := wp_ix (fun _ z => nomatch z) rfl hx
theorem wp_ix_l {x : Da} {xs : List Da} {i : Int} (hx : atI xs i = some x) : Wp (ixD (.lst xs) (.int i)) st post ex ↔ post x st := wp_ix (fun _ z => nomatch z) rfl hx
theorem wp_ix_h {n : Nat} {x : Da} {xs : List Da} {i : Int} (h : st[n]? = some (.lst xs)) (hx : atI xs i = some x) : Wp (ixD (.han n) (.int i)) st post ex ↔ post x st :=
  wp_ix (fun _ z => nomatch z) (by unfold sqOf lsOf; dsimp only; rw [h]) hx
@[simp] theorem wp_ix_t0 {x0 : Da} {r : List Da} : Wp (ixD (.tup (x0 :: r)) (.int 0)) st post ex ↔ post x0 st := wp_ix_t (atI_nat (j := 0) rfl)
@[simp] theorem wp_ix_t1 {x0 x1 : Da} {r : List Da} : Wp (ixD (.tup (x0 :: x1 :: r)) (.int 1)) st post ex ↔ post x1 st := wp_ix_t (atI_nat (j := 1) rfl)
@[simp] theorem wp_ix_t2 {x0 x1 x2 : Da} {r : List Da} : Wp (ixD (.tup (x0 :: x1 :: x2 :: r)) (.int 2)) st post ex ↔ post x2 st := wp_ix_t (atI_nat (j := 2) rfl)
@[simp] theorem wp_ix_t3 {x0 x1 x2 x3 : Da} {r : List Da} : Wp (ixD (.tup (x0 :: x1 :: x2 :: x3 :: r)) (.int 3)) st post ex ↔ post x3 st := wp_ix_t (atI_nat (j := 3) rfl)
@[simp] theorem wp_ix_l0 {x0 : Da} {r : List Da} : Wp (ixD (.lst (x0 :: r)) (.int 0)) st post ex ↔ post x0 st := wp_ix_l (atI_nat (j := 0) rfl)
theorem wp_list {d : Da} {xs : List Da} (h : sqOf st d = some xs) : Wp (listD d) st postL ex ↔ postL xs st := by unfold Wp listD; rw [h]
@[simp] theorem wp_list_l {xs : List Da} : Wp (listD (.lst xs)) st postL ex ↔ postL xs st := Iff.rfl
@[simp] theorem wp_list_t {xs : List Da} : Wp (listD (.tup xs)) st postL ex ↔ postL xs st := Iff.rfl
@[simp] theorem wp_list_f {xs : List Da} : Wp (listD (.fro xs)) st postL ex ↔ postL xs st := Iff.rfl
@[simp] theorem wp_tuple_l {xs : List Da} : Wp (tupleD (.lst xs)) st post ex ↔ post (.tup xs) st := Iff.rfl
theorem wp_tuple_h {n : Nat} {xs : List Da} (h : st[n]? = some (.lst xs)) : Wp (tupleD (.han n)) st post ex ↔ post (.tup xs) st := by
  unfold Wp tupleD sqOf lsOf; dsimp only; rw [h]
@[simp] theorem wp_catL_l {xs ys : List Da} : Wp (catL (.lst xs) (.lst ys)) st postL ex ↔ if xs.length + ys.length ≤ 1000000 then postL (xs ++ ys) st else False := by
  unfold Wp catL lsOf
  dsimp only
  by_cases h : xs.length + ys.length ≤ szD
  · rw [if_pos h, if_pos h]
  · rw [if_neg h, if_neg h]
theorem blsOf_map (bs : List Bool) : blsOf (bs.map Da.bl) = some bs := by
  induction bs with
  | nil => rfl
  | cons b r ih => show (blsOf (r.map Da.bl)).map (b :: ·) = _; rw [ih]; rfl
theorem wp_all {xs : List Da} {bs : List Bool} (h : xs = bs.map Da.bl) : Wp (allD (.lst xs)) st post ex ↔ post (.bl (bs.all id)) st := by
  unfold Wp allD lsOf; dsimp only; rw [h, blsOf_map]
@[simp] theorem wp_all1 {x : Bool} : Wp (allD (.lst [.bl x])) st post ex ↔ post (.bl x) st := (wp_all (xs := [.bl x]) (bs := [x]) rfl).trans (by simp)
@[simp] theorem wp_all2 {x y : Bool} : Wp (allD (.lst [.bl x, .bl y])) st post ex ↔ post (.bl (x && y)) st := (wp_all (xs := [.bl x, .bl y]) (bs := [x, y]) rfl).trans (by simp)
theorem wp_len_h {n : Nat} {xs : List Da} (h : st[n]? = some (.lst xs)) : Wp (lenD (.han n)) st post ex ↔ post (.int xs.length) st := wp_len (by unfold sqOf lsOf; dsimp only; rw [h])
/-! things that change -/
theorem wp_setD {n : Nat} {k : Int} {x : Da} {xs : List Da} {j : Nat} {post : Unit → Store → Prop} (h : st[n]? = some (.lst xs)) (hj : ixN xs.length k = some j) : Wp (setD (.han n) (.int k) x) st post ex ↔ post () (st.set n (.lst (xs.set j x))) := by
  unfold Wp setD; dsimp only; rw [h]; dsimp only; rw [hj]
@[simp] theorem wp_eApp : Wp (eApp a b ro) st post ex ↔ Wp (a ro) st (fun d s1 => Wp (isLs d) s1 (fun _ s2 => Wp (b ro) s2 (fun x s3 => Wp (appD d x) s3 post ex) ex) ex) ex := by unfold eApp; simp only [wp_bnd]
theorem wp_isLs {d : Da} {xs : List Da} {post : Unit → Store → Prop} (h : lsOf st d = some xs) : Wp (isLs d) st post ex ↔ post () st := by unfold Wp isLs; rw [h]
theorem wp_isLs_h {n : Nat} {xs : List Da} {post : Unit → Store → Prop} (h : st[n]? = some (.lst xs)) : Wp (isLs (.han n)) st post ex ↔ post () st := wp_isLs (xs := xs) (by unfold lsOf; dsimp only; rw [h])
theorem wp_appD {n : Nat} {x : Da} {xs : List Da} (h : st[n]? = some (.lst xs)) (hl : xs.length < szD) : Wp (appD (.han n) x) st post ex ↔ post .non (st.set n (.lst (xs ++ [x]))) := by
  unfold Wp appD; dsimp only; rw [h]; dsimp only; rw [if_pos hl]
@[simp] theorem wp_ePopAt : Wp (ePopAt a b ro) st post ex ↔ Wp (a ro) st (fun d s1 => Wp (isLs d) s1 (fun _ s2 => Wp (b ro) s2 (fun x s3 => Wp (popAtD d x) s3 post ex) ex) ex) ex := by unfold ePopAt; simp only [wp_bnd]
theorem wp_popAt {n : Nat} {k : Int} {xs : List Da} {j : Nat} {x : Da} (h : st[n]? = some (.lst xs)) (hj : ixN xs.length k = some j) (hx : xs[j]? = some x) (hb : big k) : Wp (popAtD (.han n) (.int k)) st post ex ↔ post x (st.set n (.lst (xs.eraseIdx j))) := by
  unfold Wp popAtD; dsimp only; rw [h]; dsimp only; rw [hj]; dsimp only; rw [hx]; dsimp only; rw [if_pos hb]
@[simp] theorem wp_ePop : Wp (ePop a ro) st post ex ↔ Wp (a ro) st (fun d s1 => Wp (isLs d) s1 (fun _ s2 => Wp (popD d) s2 post ex) ex) ex := by unfold ePop; simp only [wp_bnd]
theorem wp_popD {n : Nat} {xs : List Da} {x : Da} (h : st[n]? = some (.lst xs)) (hx : xs[xs.length - 1]? = some x) : Wp (popD (.han n)) st post ex ↔ post x (st.set n (.lst xs.dropLast)) := by
  unfold Wp popD; dsimp only; rw [h]; dsimp only; rw [hx]
theorem wp_setSl {n : Nat} {a c : Int} {xs ys : List Da} {post : Unit → Store → Prop} (h : st[n]? = some (.lst xs)) (hc : 0 ≤ a ∧ a ≤ c ∧ c ≤ xs.length ∧ xs.length + ys.length ≤ 1000000) : Wp (setSlD (.han n) (some a) (some c) (.lst ys)) st post ex ↔ post () (st.set n (.lst (xs.take a.toNat ++ ys ++ xs.drop c.toNat))) := by
  unfold Wp setSlD; dsimp only; rw [h]; dsimp only; rw [if_pos hc]
@[simp] theorem wp_mSetSl {lo hi : Sl → Mo (Option Int)} : Wp (mSetSl a b lo hi ro) st postF ex ↔ Wp (a ro) st (fun x s1 => Wp (b ro) s1 (fun d s2 => Wp (lo ro) s2 (fun l s3 => Wp (hi ro) s3 (fun h s4 => Wp (setSlD d l h x) s4 (fun _ s5 => postF (.nx ro) s5) ex) ex) ex) ex) ex := by unfold mSetSl; simp only [wp_bnd, wp_ret]
/-! statements -/
variable {m n : Sl → Mo Fl}
@[simp] theorem wp_mNil : Wp (mNil ro) st postF ex ↔ postF (.nx ro) st := Iff.rfl
def seqK (n : Sl → Mo Fl) (postF : Fl → Store → Prop) (ex : Str → List Da → Store → Prop) (f : Fl) (st : Store) : Prop := match f with
  | .nx ro => Wp (n ro) st postF ex
  | .rt d => postF (.rt d) st
  | .bk ro => postF (.bk ro) st
  | .ct ro => postF (.ct ro) st
@[simp] theorem seqK_nx : seqK n postF ex (.nx ro) st ↔ Wp (n ro) st postF ex := Iff.rfl
@[simp] theorem seqK_rt {d : Da} : seqK n postF ex (.rt d) st ↔ postF (.rt d) st := Iff.rfl
@[simp] theorem seqK_bk : seqK n postF ex (.bk ro) st ↔ postF (.bk ro) st := Iff.rfl
@[simp] theorem seqK_ct : seqK n postF ex (.ct ro) st ↔ postF (.ct ro) st := Iff.rfl
@[simp] theorem wp_mSeq : Wp (mSeq m n ro) st postF ex ↔ Wp (m ro) st (seqK n postF ex) ex := by
  unfold mSeq
  rw [wp_bnd]
  exact Wp.congr fun f s => by cases f <;> exact Iff.rfl
@[simp] theorem wp_mSet {i : Nat} : Wp (mSet i a ro) st postF ex ↔ Wp (a ro) st (fun d s1 => postF (.nx (ro.set i (some d))) s1) ex := by unfold mSet; simp only [wp_bnd, wp_ret]
@[simp] theorem wp_mTgt {t : Tg} : Wp (mTgt t a ro) st postF ex ↔ Wp (a ro) st (fun d s1 => ∃ ro', t d ro = some ro' ∧ postF (.nx ro') s1) ex := by
  unfold mTgt
  rw [wp_bnd]
  refine Wp.congr fun d s => ?_
  cases q : t d ro with
  | none => simp
  | some r => simp
def parK (i j : Nat) (ro : Sl) (postF : Fl → Store → Prop) (ds : List Da) (st : Store) : Prop := match ds with
  | [d, e] => postF (.nx ((ro.set i (some d)).set j (some e))) st
  | _ => False
@[simp] theorem parK_two {i j : Nat} {d e : Da} : parK i j ro postF [d, e] st ↔ postF (.nx ((ro.set i (some d)).set j (some e))) st := Iff.rfl
@[simp] theorem wp_mPar {i j : Nat} : Wp (mPar i j al ro) st postF ex ↔ Wp (al ro) st (parK i j ro postF) ex := by
  unfold mPar
  rw [wp_bnd]
  refine Wp.congr fun ds s => ?_
  match ds with
  | [] => exact Iff.rfl
  | [d] => exact Iff.rfl
  | [d, e] => exact Iff.rfl
  | d :: e :: f :: r => exact Iff.rfl
@[simp] theorem wp_mRet : Wp (mRet a ro) st postF ex ↔ Wp (a ro) st (fun d s1 => postF (.rt d) s1) ex := by unfold mRet; simp only [wp_bnd, wp_ret]
@[simp] theorem wp_mRetN : Wp (mRetN ro) st postF ex ↔ postF (.rt .non) st := Iff.rfl
@[simp] theorem wp_mExpr : Wp (mExpr a ro) st postF ex ↔ Wp (a ro) st (fun d s1 => postF (.nx ro) s1) ex := by unfold mExpr; simp only [wp_bnd, wp_ret]
@[simp] theorem wp_mIf : Wp (mIf p m n ro) st postF ex ↔ Wp (p ro) st (fun x s1 => if x = true then Wp (m ro) s1 postF ex else Wp (n ro) s1 postF ex) ex := by unfold mIf; simp only [wp_bnd, wp_ite]
@[simp] theorem wp_mBrk : Wp (mBrk ro) st postF ex ↔ postF (.bk ro) st := Iff.rfl
@[simp] theorem wp_mNever : Wp (mNever ro) st postF ex ↔ False := Iff.rfl
@[simp] theorem wp_mSetI : Wp (mSetI a b c ro) st postF ex ↔ Wp (a ro) st (fun x s1 => Wp (b ro) s1 (fun d s2 => Wp (c ro) s2 (fun k s3 => Wp (setD d k x) s3 (fun _ s4 => postF (.nx ro) s4) ex) ex) ex) ex := by unfold mSetI; simp only [wp_bnd, wp_ret]
def fnK (post : Da → Store → Prop) (f : Fl) (st : Store) : Prop := match f with
  | .nx _ => post .non st
  | .rt d => post d st
  | _ => False
@[simp] theorem fnK_nx : fnK post (.nx ro) st ↔ post .non st := Iff.rfl
@[simp] theorem fnK_rt {d : Da} : fnK post (.rt d) st ↔ post d st := Iff.rfl
@[simp] theorem wp_fnM {k : Nat} {ds : List Da} : Wp (fnM k m ds) st post ex ↔ Wp (m (startS k ds)) st (fnK post) ex := by
  unfold fnM
  rw [wp_bnd]
  exact Wp.congr fun f s => by cases f <;> exact Iff.rfl
/-! loops -/
def loopP (I : Sl → Store → Prop) (postF : Fl → Store → Prop) (f : Fl) (st : Store) : Prop := match f with
  | .nx ro => I ro st
  | .ct ro => I ro st
  | .bk ro => postF (.nx ro) st
  | .rt d => postF (.rt d) st
@[simp] theorem loopP_nx {I : Sl → Store → Prop} : loopP I postF (.nx ro) st ↔ I ro st := Iff.rfl
@[simp] theorem loopP_ct {I : Sl → Store → Prop} : loopP I postF (.ct ro) st ↔ I ro st := Iff.rfl
@[simp] theorem loopP_bk {I : Sl → Store → Prop} : loopP I postF (.bk ro) st ↔ postF (.nx ro) st := Iff.rfl
@[simp] theorem loopP_rt {I : Sl → Store → Prop} {d : Da} : loopP I postF (.rt d) st ↔ postF (.rt d) st := Iff.rfl
theorem wp_loopK {go : Sl → Mo Fl} {f : Fl} (h : loopP (fun ro st => Wp (go ro) st postF ex) postF f st) : Wp (loopK go f) st postF ex := by
  cases f <;> exact h
theorem wp_forGo {all : List Da} {t : Tg} {body : Sl → Mo Fl} (I : Nat → Sl → Store → Prop) {xs : List Da} (hs : ∀ (i : Nat) (x : Da) (ro : Sl) (st : Store), xs[i]? = some x → I i ro st → ∃ ro1, t x ro = some ro1 ∧ Wp (body ro1) st (loopP (I (i + 1)) postF) ex)
    (hd : ∀ ro st, I xs.length ro st → postF (.nx ro) st) : ∀ (k : Nat) (ro : Sl) (st : Store), k ≤ xs.length → I k ro st → Wp (forGo none all t body (xs.drop k) ro) st postF ex := by
  intro k
  induction hn : xs.length - k generalizing k with
  | zero =>
    intro ro st hk h
    have e : k = xs.length := by omega
    subst e
    rw [List.drop_length]
    exact hd ro st h
  | succ n ih =>
    intro ro st hk h
    have hlt : k < xs.length := by omega
    rw [List.drop_eq_getElem_cons hlt]
    obtain ⟨ro1, h1, h2⟩ := hs k _ ro st (List.getElem?_eq_getElem hlt) h
    show Wp (fun st => if chk none all st = true then (match t xs[k] ro with | some ro1 => bnd (body ro1) (loopK (forGo none all t body (xs.drop (k + 1)))) st | none => .bad) else .bad) st postF ex
    rw [h1]
    show Wp (bnd (body ro1) (loopK (forGo none all t body (xs.drop (k + 1))))) st postF ex
    rw [wp_bnd]
    refine h2.mono fun f st' hf => wp_loopK ?_
    cases f with
    | nx ro' => exact ih (k + 1) (by omega) ro' st' hlt hf
    | ct ro' => exact ih (k + 1) (by omega) ro' st' hlt hf
    | bk ro' => exact hf
    | rt d => exact hf
theorem wp_for {s : Sl → Mo Src} {t : Tg} {body : Sl → Mo Fl} : Wp (mFor s t body ro) st postF ex ↔ Wp (s ro) st (fun s st' => Wp (forGo s.o s.xs t body s.xs ro) st' postF ex) ex := by unfold mFor; rw [wp_bnd]
/-- a for over data: what holds between the turns -/
theorem wp_forI {all : List Da} {t : Tg} {body : Sl → Mo Fl} {xs : List Da} (I : Nat → Sl → Store → Prop) (h0 : I 0 ro st)
    (hs : ∀ (i : Nat) (x : Da) (ro : Sl) (st : Store), xs[i]? = some x → I i ro st → ∃ ro1, t x ro = some ro1 ∧ Wp (body ro1) st (loopP (I (i + 1)) postF) ex)
    (hd : ∀ ro st, I xs.length ro st → postF (.nx ro) st) : Wp (forGo none all t body xs ro) st postF ex := wp_forGo I hs hd 0 ro st (Nat.zero_le _) h0
theorem wp_whileI {body : Sl → Mo Fl} (I : Nat → Sl → Store → Prop) (hs : ∀ (k : Nat) (ro : Sl) (st : Store), I k ro st → Wp (p ro) st (fun c s1 => if c = true then Wp (body ro) s1 (loopP (fun ro' s2 => ∃ j, j < k ∧ I j ro' s2) postF) ex else postF (.nx ro) s1) ex) :
    ∀ (fuel k : Nat) (ro : Sl) (st : Store), k < fuel → I k ro st → Wp (whileF p body fuel ro) st postF ex := by
  intro fuel
  induction fuel with
  | zero => intro k ro st h; omega
  | succ n ih =>
    intro k ro st hk h
    unfold whileF
    rw [wp_bnd]
    refine (hs k ro st h).mono fun c s1 hc => ?_
    rw [wp_ite]
    cases c with
    | true =>
      rw [if_pos rfl] at hc ⊢
      rw [wp_bnd]
      refine hc.mono fun f s2 hf => wp_loopK ?_
      cases f with
      | nx ro' => obtain ⟨j, hj, hI⟩ := hf; exact ih j ro' s2 (by omega) hI
      | ct ro' => obtain ⟨j, hj, hI⟩ := hf; exact ih j ro' s2 (by omega) hI
      | bk ro' => exact hf
      | rt d => exact hf
    | false =>
      rw [if_neg Bool.false_ne_true] at hc ⊢
      exact hc
theorem wp_compGo {all : List Da} {t : Tg} {p : Sl → Mo Bool} {e : Sl → Mo Da} {xs : List Da} (I : Nat → List Da → Store → Prop) (hl : ∀ i acc st, I i acc st → acc.length ≤ i) (hx : xs.length < szD)
    (hs : ∀ (i : Nat) (x : Da) (acc : List Da) (st : Store), xs[i]? = some x → I i acc st → ∃ ro1, t x ro = some ro1 ∧ Wp (p ro1) st (fun c s1 => if c = true then Wp (e ro1) s1 (fun y s2 => I (i + 1) (acc ++ [y]) s2) noEx else I (i + 1) acc s1) noEx)
    (hd : ∀ acc st, I xs.length acc st → postL acc st) : ∀ (k : Nat) (acc : List Da) (st : Store), k ≤ xs.length → I k acc st → Wp (compGo none all t p e ro (xs.drop k) acc) st postL ex := by
  intro k
  induction hn : xs.length - k generalizing k with
  | zero =>
    intro acc st hk h
    have e : k = xs.length := by omega
    subst e
    rw [List.drop_length]
    exact hd acc st h
  | succ n ih =>
    intro acc st hk h
    have hlt : k < xs.length := by omega
    rw [List.drop_eq_getElem_cons hlt]
    obtain ⟨ro1, h1, h2⟩ := hs k _ acc st (List.getElem?_eq_getElem hlt) h
    have hacc := hl k acc st h
    show Wp (fun st => if chk none all st = true then (match t xs[k] ro with | some ro1 => bnd (noX (p ro1)) (fun c => if c = true then bnd (noX (e ro1)) (fun y => if acc.length < szD then compGo none all t p e ro (xs.drop (k + 1)) (acc ++ [y]) else nop) else compGo none all t p e ro (xs.drop (k + 1)) acc) st | none => .bad) else .bad) st postL ex
    rw [h1]
    show Wp (bnd (noX (p ro1)) _) st postL ex
    rw [wp_bnd, wp_noX]
    refine h2.mono fun c s1 hc => ?_
    rw [wp_ite]
    cases c with
    | true =>
      rw [if_pos rfl] at hc ⊢
      rw [wp_bnd, wp_noX]
      refine hc.mono fun y s2 hy => ?_
      rw [wp_ite, if_pos (show acc.length < szD by omega)]
      exact ih (k + 1) (by omega) _ s2 hlt hy
    | false =>
      rw [if_neg Bool.false_ne_true] at hc ⊢
      exact ih (k + 1) (by omega) _ s1 hlt hc
@[simp] theorem wp_comp_nil {all : List Da} {t : Tg} {p : Sl → Mo Bool} {e : Sl → Mo Da} {acc : List Da} : Wp (compGo none all t p e ro [] acc) st postL ex ↔ postL acc st := Iff.rfl
@[simp] theorem wp_comp_cons {all : List Da} {t : Tg} {p : Sl → Mo Bool} {e : Sl → Mo Da} {acc r : List Da} {x : Da} : Wp (compGo none all t p e ro (x :: r) acc) st postL ex ↔ ∃ ro1, t x ro = some ro1 ∧ Wp (p ro1) st (fun c s1 => if c = true then Wp (e ro1) s1 (fun y s2 => if acc.length < 1000000 then Wp (compGo none all t p e ro r (acc ++ [y])) s2 postL ex else False) noEx else Wp (compGo none all t p e ro r acc) s1 postL ex) noEx := by
  cases q : t x ro with
  | none =>
    refine ⟨fun h => ?_, fun ⟨_, h, _⟩ => nomatch h⟩
    have h' : Wp (fun st => if chk none all st = true then (match t x ro with | some ro1 => bnd (noX (p ro1)) (fun c => if c = true then bnd (noX (e ro1)) (fun y => if acc.length < szD then compGo none all t p e ro r (acc ++ [y]) else nop) else compGo none all t p e ro r acc) st | none => .bad) else .bad) st postL ex := h
    rw [q] at h'
    exact h'.elim
  | some ro1 =>
    have hh : Wp (compGo none all t p e ro (x :: r) acc) st postL ex ↔ Wp (fun st => if chk none all st = true then (match t x ro with | some ro1 => bnd (noX (p ro1)) (fun c => if c = true then bnd (noX (e ro1)) (fun y => if acc.length < szD then compGo none all t p e ro r (acc ++ [y]) else nop) else compGo none all t p e ro r acc) st | none => .bad) else .bad) st postL ex := Iff.rfl
    rw [hh, q]
    have hk : Wp (fun st => if chk none all st = true then (match some ro1 with | some ro1 => bnd (noX (p ro1)) (fun c => if c = true then bnd (noX (e ro1)) (fun y => if acc.length < szD then compGo none all t p e ro r (acc ++ [y]) else nop) else compGo none all t p e ro r acc) st | none => .bad) else .bad) st postL ex ↔ Wp (bnd (noX (p ro1)) (fun c => if c = true then bnd (noX (e ro1)) (fun y => if acc.length < szD then compGo none all t p e ro r (acc ++ [y]) else nop) else compGo none all t p e ro r acc)) st postL ex := Iff.rfl
    rw [hk]
    simp only [wp_bnd, wp_noX, wp_ite, wp_nop, Option.some.injEq, exists_eq_left']
@[simp] theorem wp_for_nil {all : List Da} {t : Tg} {body : Sl → Mo Fl} : Wp (forGo none all t body [] ro) st postF ex ↔ postF (.nx ro) st := Iff.rfl
@[simp] theorem wipe_nil : wipeS ro [] = ro := rfl
@[simp] theorem wipe_cons {v : Nat} {vs : List Nat} : wipeS ro (v :: vs) = (wipeS ro vs).set v none := rfl
@[simp] theorem cut_to2 {x y : Da} {r : List Da} : cutD (x :: y :: r) none (some 2) = [x, y] := by
  unfold cutD
  show List.take (min 2 (r.length + 1 + 1) - 0) (x :: y :: r) = [x, y]
  rw [show min 2 (r.length + 1 + 1) - 0 = 2 by omega]
  rfl
theorem wp_lComp {s : Sl → Mo Src} {t : Tg} {p : Sl → Mo Bool} {e : Sl → Mo Da} {vs : List Nat} : Wp (lComp s t p e vs ro) st postL ex ↔ Wp (s ro) st (fun s st' => Wp (compGo s.o s.xs t p e (wipeS ro vs) s.xs []) st' postL ex) ex := by unfold lComp; rw [wp_bnd]
theorem wp_compI {all : List Da} {t : Tg} {p : Sl → Mo Bool} {e : Sl → Mo Da} {xs : List Da} (I : Nat → List Da → Store → Prop) (h0 : I 0 [] st) (hl : ∀ i acc st, I i acc st → acc.length ≤ i) (hx : xs.length < szD)
    (hs : ∀ (i : Nat) (x : Da) (acc : List Da) (st : Store), xs[i]? = some x → I i acc st → ∃ ro1, t x ro = some ro1 ∧ Wp (p ro1) st (fun c s1 => if c = true then Wp (e ro1) s1 (fun y s2 => I (i + 1) (acc ++ [y]) s2) noEx else I (i + 1) acc s1) noEx)
    (hd : ∀ acc st, I xs.length acc st → postL acc st) : Wp (compGo none all t p e ro xs []) st postL ex := wp_compGo I hl hx hs hd 0 [] st (Nat.zero_le _) h0
/-- a comprehension that changes nothing -/
theorem wp_compF {α : Type} {all : List Da} {t : Tg} {p : Sl → Mo Bool} {e : Sl → Mo Da} {rs : List α} {f g : α → Da} {P : α → Bool} (hx : rs.length < 1000000)
    (h : ∀ x ∈ rs, ∃ ro1, t (f x) ro = some ro1 ∧ Wp (p ro1) st (fun c s => c = P x ∧ s = st) noEx ∧ (P x = true → Wp (e ro1) st (fun d s => d = g x ∧ s = st) noEx))
    (hp : postL ((rs.filter P).map g) st) : Wp (compGo none all t p e ro (rs.map f) []) st postL ex := by
  refine wp_compI (fun i acc s => s = st ∧ acc = ((rs.take i).filter P).map g) ⟨rfl, rfl⟩ (fun i acc s q => ?_) (by simpa using hx) ?_ ?_
  · rw [q.2, List.length_map]
    exact Nat.le_trans (List.length_filter_le _ _) (by simp; omega)
  · rintro i x acc s hq ⟨rfl, rfl⟩
    rw [List.getElem?_map] at hq
    obtain ⟨y, hy, rfl⟩ := Option.map_eq_some_iff.mp hq
    obtain ⟨ro1, h1, h2, h3⟩ := h y (List.mem_of_getElem? hy)
    refine ⟨ro1, h1, h2.mono ?_⟩
    rintro c s1 ⟨rfl, rfl⟩
    have ht : rs.take (i + 1) = rs.take i ++ [y] := by rw [List.take_add_one, hy]; rfl
    cases q : P y with
    | true =>
      rw [if_pos rfl]
      refine (h3 q).mono ?_
      rintro d s2 ⟨rfl, rfl⟩
      refine ⟨rfl, ?_⟩
      rw [ht, List.filter_append, List.map_append]
      simp [q]
    | false =>
      rw [if_neg Bool.false_ne_true]
      refine ⟨rfl, ?_⟩
      rw [ht, List.filter_append, List.map_append]
      simp [q]
  · rintro acc s ⟨rfl, rfl⟩
    rw [List.take_of_length_le (by simp)]
    exact hp
variable {postS : Src → Store → Prop}
@[simp] theorem wp_iV : Wp (iV a ro) st postS ex ↔ Wp (a ro) st (fun d s1 => Wp (srcV d) s1 postS ex) ex := by unfold iV; rw [wp_bnd]
@[simp] theorem wp_srcV_l {xs : List Da} : Wp (srcV (.lst xs)) st postS ex ↔ postS ⟨xs, none⟩ st := Iff.rfl
@[simp] theorem wp_srcV_t {xs : List Da} : Wp (srcV (.tup xs)) st postS ex ↔ postS ⟨xs, none⟩ st := Iff.rfl
@[simp] theorem wp_iR1 : Wp (iR1 al ro) st postS ex ↔ Wp (al ro) st (fun d s1 => Wp (srcR1 d) s1 postS ex) ex := by unfold iR1; rw [wp_bnd]
@[simp] theorem wp_iR2 : Wp (iR2 al ro) st postS ex ↔ Wp (al ro) st (fun d s1 => Wp (srcR2 d) s1 postS ex) ex := by unfold iR2; rw [wp_bnd]
@[simp] theorem wp_srcR1 {j : Int} : Wp (srcR1 [.int j]) st postS ex ↔ if big j then postS ⟨rngL 0 j.toNat, none⟩ st else False := by unfold srcR1; simp only [wp_ite, wp_ret, wp_nop]
@[simp] theorem wp_srcR2 {i j : Int} : Wp (srcR2 [.int i, .int j]) st postS ex ↔ if big i ∧ big j then postS ⟨rngL i (j - i).toNat, none⟩ st else False := by unfold srcR2; simp only [wp_ite, wp_ret, wp_nop]
@[simp] theorem wp_yes : Wp (tYes_ ro) st postB ex ↔ postB true st := Iff.rfl
@[simp] theorem gN_eq {i : Nat} {d : Da} : gN i d ro = some (ro.set i (some d)) := rfl
@[simp] theorem gsN_eq : gsN [] ro = some ro := rfl
@[simp] theorem gsC_eq {t : Tg} {u : Tgs} {d : Da} {r : List Da} : gsC t u (d :: r) ro = (t d ro).bind fun ro1 => u r ro1 := rfl
@[simp] theorem gT_eq {k : Nat} {t : Tgs} {xs : List Da} : gT k t (.tup xs) ro = if xs.length = k then t xs ro else none := rfl
variable {postP : Option Int → Store → Prop}
@[simp] theorem wp_noP : Wp (noP ro) st postP ex ↔ postP none st := Iff.rfl
@[simp] theorem wp_soP : Wp (soP a ro) st postP ex ↔ Wp (a ro) st (fun d s1 => ∃ i, d = .int i ∧ postP (some i) s1) ex := by
  unfold soP
  rw [wp_bnd]
  refine Wp.congr fun d s => ?_
  cases d <;> simp
@[simp] theorem wp_eSl {f : Da → Option Int → Option Int → Mo Da} {lo hi : Sl → Mo (Option Int)} : Wp (eSl f a lo hi ro) st post ex ↔ Wp (a ro) st (fun d s1 => Wp (lo ro) s1 (fun l s2 => Wp (hi ro) s2 (fun h s3 => Wp (f d l h) s3 post ex) ex) ex) ex := by unfold eSl; simp only [wp_bnd]
@[simp] theorem wp_slA_t {xs : List Da} {lo hi : Option Int} : Wp (slA (.tup xs) lo hi) st post ex ↔ post (.tup (cutD xs lo hi)) st := Iff.rfl
@[simp] theorem wp_slA_l {xs : List Da} {lo hi : Option Int} : Wp (slA (.lst xs) lo hi) st post ex ↔ post (.lst (cutD xs lo hi)) st := Iff.rfl
end
/-! ### comparing data -/
theorem wp_eqB {neg : Bool} {d e : Da} {p q : PyData} {st : Store} {ex : Str → List Da → Store → Prop} {post : Da → Store → Prop} (h1 : pyD st d = some p) (h2 : pyD st e = some q) (s1 : SeqAt.shaped p = true) (s2 : SeqAt.shaped q = true) :
    Wp (eqB neg d e) st post ex ↔ post (.bl (if neg then !PyData.eqv p q else PyData.eqv p q)) st := by
  unfold Wp eqB
  rw [h1, h2]
  dsimp only
  rw [if_pos (by rw [s1, s2]; rfl)]
end CL
namespace CL
open PySem L2
/-! ### plain data of a depth, and how they compare -/
mutual
def toPy : Da → PyData
  | .non => .none
  | .bl b => .bool b
  | .int i => .int i
  | .str s => .str s
  | .tup xs => .tuple (toPyL xs)
  | .lst xs => .list (toPyL xs)
  | .fro xs => .list (toPyL xs)
  | .han _ => .none
def toPyL : List Da → List PyData
  | [] => []
  | x :: xs => toPy x :: toPyL xs
end
mutual
def pl : Nat → Da → Bool
  | _, .non => true
  | _, .bl _ => true
  | _, .int _ => true
  | _, .str s => PyData.strOk s
  | 0, .tup _ => false
  | n + 1, .tup xs => plL n xs
  | 0, .lst _ => false
  | n + 1, .lst xs => plL n xs
  | 0, .fro _ => false
  | n + 1, .fro xs => plL n xs
  | _, .han _ => false
def plL : Nat → List Da → Bool
  | _, [] => true
  | n, x :: xs => pl n x && plL n xs
end
section
variable {hf : Nat → Option PyData}
mutual
theorem pl_py : ∀ (n : Nat) (d : Da), pl n d = true → pyW hf d = some (toPy d) ∧ (toPy d).canLay0 = true ∧ (toPy d).depth ≤ n
  | n, .non, h => by simp [pyW, toPy, PyData.canLay0, PyData.depth]
  | n, .bl b, h => by simp [pyW, toPy, PyData.canLay0, PyData.depth]
  | n, .int i, h => by simp [pyW, toPy, PyData.canLay0, PyData.depth]
  | n, .str s, h => by
    have h' : PyData.strOk s = true := by simpa [pl] using h
    simp [pyW, toPy, PyData.canLay0, PyData.depth, h']
  | 0, .tup xs, h => by simp [pl] at h
  | n + 1, .tup xs, h => by
    obtain ⟨h1, h2, h3⟩ := plL_py n xs (by simpa [pl] using h)
    simp [pyW, toPy, PyData.canLay0, PyData.depth, h1, h2, h3]
  | 0, .lst xs, h => by simp [pl] at h
  | n + 1, .lst xs, h => by
    obtain ⟨h1, h2, h3⟩ := plL_py n xs (by simpa [pl] using h)
    simp [pyW, toPy, PyData.canLay0, PyData.depth, h1, h2, h3]
  | 0, .fro xs, h => by simp [pl] at h
  | n + 1, .fro xs, h => by
    obtain ⟨h1, h2, h3⟩ := plL_py n xs (by simpa [pl] using h)
    simp [pyW, toPy, PyData.canLay0, PyData.depth, h1, h2, h3]
  | n, .han k, h => by simp [pl] at h
theorem plL_py : ∀ (n : Nat) (ds : List Da), plL n ds = true → pyWL hf ds = some (toPyL ds) ∧ PyData.canLayAll0 (toPyL ds) = true ∧ PyData.depthAll (toPyL ds) ≤ n
  | n, [], h => by simp [pyWL, toPyL, PyData.canLayAll0, PyData.depthAll]
  | n, x :: xs, h => by
    have h' : pl n x = true ∧ plL n xs = true := by simpa [plL] using h
    obtain ⟨a1, a2, a3⟩ := pl_py n x h'.1
    obtain ⟨b1, b2, b3⟩ := plL_py n xs h'.2
    simp only [pyWL, toPyL, PyData.canLayAll0, PyData.depthAll, a1, a2, b1, b2]
    refine ⟨trivial, rfl, ?_⟩
    omega
end
end
theorem plL_all : ∀ (n : Nat) (ds : List Da), plL n ds = ds.all (pl n)
  | n, [] => by simp [plL]
  | n, x :: xs => by simp [plL, plL_all n xs]
theorem toPyL_map : ∀ ds : List Da, toPyL ds = ds.map toPy
  | [] => by simp [toPyL]
  | x :: xs => by simp [toPyL, toPyL_map xs]
mutual
theorem pl_le : ∀ (n m : Nat) (d : Da), n ≤ m → pl n d = true → pl m d = true
  | _, _, .non, _, _ => by simp [pl]
  | _, _, .bl _, _, _ => by simp [pl]
  | _, _, .int _, _, _ => by simp [pl]
  | _, _, .str _, _, h => by simpa [pl] using h
  | 0, _, .tup _, _, h => by simp [pl] at h
  | 0, _, .lst _, _, h => by simp [pl] at h
  | 0, _, .fro _, _, h => by simp [pl] at h
  | n + 1, 0, _, hl, _ => by omega
  | n + 1, m + 1, .tup xs, hl, h => by simp only [pl] at h ⊢; exact plL_le n m xs (by omega) h
  | n + 1, m + 1, .lst xs, hl, h => by simp only [pl] at h ⊢; exact plL_le n m xs (by omega) h
  | n + 1, m + 1, .fro xs, hl, h => by simp only [pl] at h ⊢; exact plL_le n m xs (by omega) h
  | _, _, .han _, _, h => by simp [pl] at h
theorem plL_le : ∀ (n m : Nat) (d : List Da), n ≤ m → plL n d = true → plL m d = true
  | _, _, [], _, _ => by simp [plL]
  | n, m, x :: xs, hl, h => by
    have h' : pl n x = true ∧ plL n xs = true := by simpa [plL] using h
    simp only [plL, pl_le n m x hl h'.1, plL_le n m xs hl h'.2]
    rfl
end
/-- how two data compare -/
def deq (d e : Da) : Bool := PyData.eqv (toPy d) (toPy e)
def deqL (d e : List Da) : Bool := PyData.eqvAll (toPyL d) (toPyL e)
structure PyIs (st : Store) (d : Da) (p : PyData) : Prop where
  py : pyD st d = some p
  sh : SeqAt.shaped p = true
theorem pl_is {st : Store} {d : Da} {n : Nat} (hn : n ≤ 64) (h : pl n d = true) : PyIs st d (toPy d) := by
  obtain ⟨h1, h2, h3⟩ := pl_py (hf := hfOf st) n d h
  refine ⟨h1, ?_⟩
  unfold SeqAt.shaped
  rw [h2, decide_eq_true (by omega)]
  rfl
theorem han_is {st : Store} {k n : Nat} {xs : List Da} (hn : n ≤ 63) (h : st[k]? = some (.lst xs)) (hp : plL n xs = true) : PyIs st (.han k) (.list (toPyL xs)) := by
  obtain ⟨h1, h2, h3⟩ := plL_py (hf := fun _ => none) n xs hp
  refine ⟨?_, ?_⟩
  · show pyW (hfOf st) (.han k) = _
    unfold pyW hfOf
    rw [h]
    dsimp only
    rw [show py0L xs = some (toPyL xs) from h1]
    rfl
  · unfold SeqAt.shaped
    rw [show PyData.canLay0 (.list (toPyL xs)) = true by simpa [PyData.canLay0] using h2, decide_eq_true (by simp only [PyData.depth]; omega)]
    rfl
theorem deq_refl {d : Da} {n : Nat} (h : pl n d = true) : deq d d = true := SeqAt.eqv_refl _ (pl_py (hf := fun _ => none) n d h).2.1
theorem deqL_refl {d : List Da} {n : Nat} (h : plL n d = true) : deqL d d = true := SeqAt.eqvAll_refl _ (plL_py (hf := fun _ => none) n d h).2.1
section
variable {st : Store} {ex : Str → List Da → Store → Prop} {post : Da → Store → Prop}
theorem wp_eqI {neg : Bool} {d e : Da} {p q : PyData} (h1 : PyIs st d p) (h2 : PyIs st e q) : Wp (eqB neg d e) st post ex ↔ post (.bl (if neg then !PyData.eqv p q else PyData.eqv p q)) st := wp_eqB h1.py h2.py h1.sh h2.sh
theorem wp_eq {d e : Da} (h1 : pl 60 d = true) (h2 : pl 60 e = true) : Wp (eqB false d e) st post ex ↔ post (.bl (deq d e)) st := wp_eqI (pl_is (by decide) h1) (pl_is (by decide) h2)
theorem wp_ne {d e : Da} (h1 : pl 60 d = true) (h2 : pl 60 e = true) : Wp (eqB true d e) st post ex ↔ post (.bl (!deq d e)) st := wp_eqI (pl_is (by decide) h1) (pl_is (by decide) h2)
@[simp] theorem wp_eq_i {i j : Int} : Wp (eqB false (.int i) (.int j)) st post ex ↔ post (.bl (decide (i = j))) st := by
  rw [wp_eq (by simp [pl]) (by simp [pl])]
  simp [deq, toPy, PyData.eqv, BEq.beq]
@[simp] theorem wp_ne_i {i j : Int} : Wp (eqB true (.int i) (.int j)) st post ex ↔ post (.bl (!decide (i = j))) st := by
  rw [wp_ne (by simp [pl]) (by simp [pl])]
  simp [deq, toPy, PyData.eqv, BEq.beq]
end
@[simp] theorem deq_int {i j : Int} : deq (.int i) (.int j) = decide (i = j) := by simp [deq, toPy, PyData.eqv, BEq.beq]
@[simp] theorem deq_non_int {j : Int} : deq .non (.int j) = false := by simp [deq, toPy, PyData.eqv]
@[simp] theorem deq_int_non {j : Int} : deq (.int j) .non = false := by simp [deq, toPy, PyData.eqv]
@[simp] theorem deq_non : deq .non .non = true := by simp [deq, toPy, PyData.eqv]
@[simp] theorem deq_bl {i j : Bool} : deq (.bl i) (.bl j) = (i == j) := by simp [deq, toPy, PyData.eqv]
@[simp] theorem deq_tup {i j : List Da} : deq (.tup i) (.tup j) = deqL i j := by simp [deq, deqL, toPy, PyData.eqv]
@[simp] theorem deq_lst {i j : List Da} : deq (.lst i) (.lst j) = deqL i j := by simp [deq, deqL, toPy, PyData.eqv]
@[simp] theorem deq_fro {i j : List Da} : deq (.fro i) (.lst j) = deqL i j := by simp [deq, deqL, toPy, PyData.eqv]
@[simp] theorem deq_tup_lst {i j : List Da} : deq (.tup i) (.lst j) = false := by simp [deq, toPy, PyData.eqv]
@[simp] theorem deq_lst_tup {i j : List Da} : deq (.lst i) (.tup j) = false := by simp [deq, toPy, PyData.eqv]
@[simp] theorem deqL_nil : deqL [] [] = true := by simp [deqL, toPyL, PyData.eqvAll]
@[simp] theorem deqL_cons {x y : Da} {xs ys : List Da} : deqL (x :: xs) (y :: ys) = (deq x y && deqL xs ys) := by simp [deqL, deq, toPyL, PyData.eqvAll]
@[simp] theorem deqL_nc {y : Da} {ys : List Da} : deqL [] (y :: ys) = false := by simp [deqL, toPyL, PyData.eqvAll]
@[simp] theorem deqL_cn {y : Da} {ys : List Da} : deqL (y :: ys) [] = false := by simp [deqL, toPyL, PyData.eqvAll]
theorem deqL_ne {xs : List Da} : deqL xs [] = decide (xs = []) := by cases xs <;> simp
section
variable {st : Store} {ex : Str → List Da → Store → Prop} {post : Da → Store → Prop}
@[simp] theorem wp_ne_nil : Wp (eqB true (.lst []) (.lst [])) st post ex ↔ post (.bl false) st := by
  rw [wp_ne (by simp [pl, plL]) (by simp [pl, plL])]; simp
@[simp] theorem wp_eq_nil : Wp (eqB false (.lst []) (.lst [])) st post ex ↔ post (.bl true) st := by
  rw [wp_eq (by simp [pl, plL]) (by simp [pl, plL])]; simp
theorem wp_ne_cons {x : Da} {xs : List Da} (h : plL 59 (x :: xs) = true) : Wp (eqB true (.lst (x :: xs)) (.lst [])) st post ex ↔ post (.bl true) st := by
  rw [wp_ne (by simp only [pl]; exact h) (by simp [pl, plL])]; simp
theorem wp_eq_cons {x : Da} {xs : List Da} (h : plL 59 (x :: xs) = true) : Wp (eqB false (.lst (x :: xs)) (.lst [])) st post ex ↔ post (.bl false) st := by
  rw [wp_eq (by simp only [pl]; exact h) (by simp [pl, plL])]; simp
end
theorem wp_eq_hnil {neg : Bool} {n m : Nat} {xs : List Da} {st : Store} {ex : Str → List Da → Store → Prop} {post : Da → Store → Prop} (hm : m ≤ 60) (h : st[n]? = some (.lst xs)) (hp : plL m xs = true) : Wp (eqB neg (.han n) (.lst [])) st post ex ↔ post (.bl (if neg then !decide (xs = []) else decide (xs = []))) st := by
  rw [wp_eqI (han_is (by omega) h hp) (pl_is (n := 1) (by decide) (by simp [pl, plL]))]
  have : PyData.eqv (.list (toPyL xs)) (toPy (.lst [])) = decide (xs = []) := by
    cases xs <;> simp [toPy, toPyL, PyData.eqv, PyData.eqvAll]
  rw [this]
theorem plL_ints (n : Nat) : ∀ ns : List Int, plL n (ns.map Da.int) = true
  | [] => by simp [plL]
  | x :: xs => by simp [plL, pl, plL_ints n xs]
end CL
namespace CL
open PySem L2
section
variable {st : Store} {ex : Str → List Da → Store → Prop} {post : Da → Store → Prop} {postF : Fl → Store → Prop} {postS : Src → Store → Prop} {a b : Sl → Mo Da} {al kl : Sl → Mo (List Da)} {ro : Sl} {cs : List Str} {f c m : Str}
@[simp] theorem wp_eFld : Wp (eFld cs f a ro) st post ex ↔ Wp (a ro) st (fun d s1 => Wp (fldD cs f d) s1 post ex) ex := by unfold eFld; simp only [wp_bnd]
theorem wp_fldD {n : Nat} {c : Str} {fs : List (Str × Da)} {x : Da} (h : st[n]? = some (.ins c fs)) (hc : c ∈ cs) (hx : fs.lookup f = some x) : Wp (fldD cs f (.han n)) st post ex ↔ post x st := by
  unfold Wp fldD; dsimp only; rw [h]; dsimp only; rw [if_pos hc, hx]
@[simp] theorem wp_mFld : Wp (mFld cs f a b ro) st postF ex ↔ Wp (a ro) st (fun x s1 => Wp (b ro) s1 (fun d s2 => Wp (setFD cs f d x) s2 (fun _ s3 => postF (.nx ro) s3) ex) ex) ex := by unfold mFld; simp only [wp_bnd, wp_ret]
theorem wp_setFD {n : Nat} {c : Str} {fs : List (Str × Da)} {x : Da} {post : Unit → Store → Prop} (h : st[n]? = some (.ins c fs)) (hc : c ∈ cs) (hl : fs.length < 1000) : Wp (setFD cs f (.han n) x) st post ex ↔ post () (st.set n (.ins c (putD f x fs))) := by
  unfold Wp setFD; dsimp only; rw [h]; dsimp only; rw [if_pos ⟨hc, hl⟩]
@[simp] theorem wp_eMeth {g : List Da → Mo Da} : Wp (eMeth c m g a al ro) st post ex ↔ Wp (a ro) st (fun d s1 => Wp (isIns c m d) s1 (fun _ s2 => Wp (al ro) s2 (fun ds s3 => Wp (g (d :: ds)) s3 post ex) ex) ex) ex := by unfold eMeth; simp only [wp_bnd]
theorem wp_isIns {n : Nat} {fs : List (Str × Da)} {post : Unit → Store → Prop} (h : st[n]? = some (.ins c fs)) (hl : fs.lookup m = none) : Wp (isIns c m (.han n)) st post ex ↔ post () st := by
  unfold Wp isIns; dsimp only; rw [h]; dsimp only; rw [if_pos ⟨rfl, hl⟩]
@[simp] theorem wp_eMake {g : List Da → Mo Da} : Wp (eMake c g al ro) st post ex ↔ Wp (al ro) st (fun ds s1 => Wp (makeD c g ds) s1 post ex) ex := by unfold eMake; simp only [wp_bnd]
@[simp] theorem wp_isNon {post : Unit → Store → Prop} : Wp (isNon .non) st post ex ↔ post () st := Iff.rfl
theorem wp_makeD {g : List Da → Mo Da} {ds : List Da} : Wp (makeD c g ds) st post ex ↔ Wp (g (.han st.length :: ds)) (st ++ [.ins c []]) (fun r s2 => Wp (isNon r) s2 (fun _ s3 => post (.han st.length) s3) ex) ex := by
  show Wp (bnd (newI c) (fun _ => bnd (g (.han st.length :: ds)) fun r => bnd (isNon r) fun _ => ret (.han st.length))) st post ex ↔ _
  rw [wp_bnd]
  show Wp (bnd (g (.han st.length :: ds)) fun r => bnd (isNon r) fun _ => ret (.han st.length)) (st ++ [.ins c []]) post ex ↔ _
  simp only [wp_bnd, wp_ret]
theorem wp_eMakeK {g : List Da → Mo Da} {n1 k : Nat} {gD : List Da → List Da → List Da} : Wp (eMakeK c g n1 k gD al kl ro) st post ex ↔ Wp (al ro) st (fun ds s1 => Wp (kl ro) s1 (fun es s2 => if ds.length = n1 ∧ es.length = k then Wp (g (gD (.han s2.length :: ds) es)) (s2 ++ [.ins c []]) (fun r s3 => Wp (isNon r) s3 (fun _ s4 => post (.han s2.length) s4) ex) ex else False) ex) ex := by
  unfold eMakeK
  rw [wp_bnd]
  refine Wp.congr fun ds s1 => ?_
  rw [wp_bnd]
  refine Wp.congr fun es s2 => ?_
  by_cases h : ds.length = n1 ∧ es.length = k
  · rw [if_pos h]
    show Wp (fun st => if ds.length = n1 ∧ es.length = k then bnd (newI c) (fun _ => bnd (g (gD (.han st.length :: ds) es)) fun r => bnd (isNon r) fun _ => ret (.han st.length)) st else .bad) s2 post ex ↔ _
    have e : Wp (fun st => if ds.length = n1 ∧ es.length = k then bnd (newI c) (fun _ => bnd (g (gD (.han st.length :: ds) es)) fun r => bnd (isNon r) fun _ => ret (.han st.length)) st else .bad) s2 post ex ↔ Wp (bnd (newI c) (fun _ => bnd (g (gD (.han s2.length :: ds) es)) fun r => bnd (isNon r) fun _ => ret (.han s2.length))) s2 post ex := by
      unfold Wp
      dsimp only
      rw [if_pos h]
    rw [e, wp_bnd]
    show Wp (bnd (g (gD (.han s2.length :: ds) es)) fun r => bnd (isNon r) fun _ => ret (.han s2.length)) (s2 ++ [.ins c []]) post ex ↔ _
    simp only [wp_bnd, wp_ret]
  · rw [if_neg h]
    unfold Wp
    dsimp only
    rw [if_neg h]
@[simp] theorem wp_iR3 : Wp (iR3 al ro) st postS ex ↔ Wp (al ro) st (fun d s1 => Wp (srcR3 d) s1 postS ex) ex := by unfold iR3; rw [wp_bnd]
@[simp] theorem wp_srcR3 {i j c : Int} : Wp (srcR3 [.int i, .int j, .int c]) st postS ex ↔ if rgOk i j c then postS ⟨rngC i c (rgN i j c), none⟩ st else False := by unfold srcR3; simp only [wp_ite, wp_ret, wp_nop]
end
theorem char_inj {a b : Char} (h : a.toNat = b.toNat) : a = b := by
  apply Char.ext
  apply UInt32.toNat_inj.mp
  exact h
@[simp] theorem str_inj {a b : String} : Str.ofString a = Str.ofString b ↔ a = b := by
  refine ⟨fun h => ?_, fun h => by rw [h]⟩
  rw [Str.ofString_eq_toList, Str.ofString_eq_toList] at h
  have h1 : a.toList.map Char.toNat = b.toList.map Char.toNat := by
    have := congrArg (fun s => s.cps.toList) h
    simpa using this
  have h2 : a.toList = b.toList := by
    have : ∀ x y : List Char, x.map Char.toNat = y.map Char.toNat → x = y := by
      intro x
      induction x with
      | nil => intro y e; cases y with
        | nil => rfl
        | cons c r => simp at e
      | cons c r ih => intro y e; cases y with
        | nil => simp at e
        | cons d s => simp at e; rw [char_inj e.1, ih s e.2]
    exact this _ _ h1
  exact String.toList_inj.mp h2
@[simp] theorem str_beq {a b : String} : (Str.ofString a == Str.ofString b) = (a == b) := by
  by_cases h : a = b
  · subst h; simp
  · rw [beq_eq_false_iff_ne.mpr h, beq_eq_false_iff_ne.mpr fun z => h (str_inj.mp z)]
/-! ### a loop over a thing -/
theorem beqD_refl_all : (∀ d : Da, beqD d d = true) ∧ ∀ ds : List Da, beqL ds ds = true := by
  have h : ∀ n, (∀ d : Da, sizeOf d < n → beqD d d = true) ∧ ∀ ds : List Da, sizeOf ds < n → beqL ds ds = true := by
    intro n
    induction n with
    | zero => exact ⟨fun d h => by omega, fun d h => by omega⟩
    | succ n ih =>
      refine ⟨fun d h => ?_, fun ds h => ?_⟩
      · cases d with
        | non => rfl
        | bl b => simp [beqD]
        | int i => simp [beqD]
        | str s => simp [beqD]
        | tup xs => unfold beqD; exact ih.2 xs (by simp at h; omega)
        | lst xs => unfold beqD; exact ih.2 xs (by simp at h; omega)
        | fro xs => unfold beqD; exact ih.2 xs (by simp at h; omega)
        | han n => simp [beqD]
      · cases ds with
        | nil => rfl
        | cons x r =>
          unfold beqL
          rw [ih.1 x (by simp at h; omega), ih.2 r (by simp at h; omega)]
          rfl
  exact ⟨fun d => (h (sizeOf d + 1)).1 d (by omega), fun ds => (h (sizeOf ds + 1)).2 ds (by omega)⟩
theorem beqL_refl (ds : List Da) : beqL ds ds = true := beqD_refl_all.2 ds
theorem chk_han {st : Store} {n : Nat} {xs : List Da} (h : st[n]? = some (.lst xs)) : chk (some n) xs st = true := by
  unfold chk; dsimp only; rw [h]; exact beqL_refl xs
section
variable {ex : Str → List Da → Store → Prop} {postF : Fl → Store → Prop}
theorem wp_forGoH {n : Nat} {all : List Da} {t : Tg} {body : Sl → Mo Fl} (I : Nat → Sl → Store → Prop) {xs : List Da} (hk : ∀ i ro st, I i ro st → st[n]? = some (.lst all)) (hs : ∀ (i : Nat) (x : Da) (ro : Sl) (st : Store), xs[i]? = some x → I i ro st → ∃ ro1, t x ro = some ro1 ∧ Wp (body ro1) st (loopP (I (i + 1)) postF) ex)
    (hd : ∀ ro st, I xs.length ro st → postF (.nx ro) st) : ∀ (k : Nat) (ro : Sl) (st : Store), k ≤ xs.length → I k ro st → Wp (forGo (some n) all t body (xs.drop k) ro) st postF ex := by
  intro k
  induction hn : xs.length - k generalizing k with
  | zero =>
    intro ro st hle h
    have e : k = xs.length := by omega
    subst e
    rw [List.drop_length]
    have hc := chk_han (hk _ _ _ h)
    show Wp (fun st => if chk (some n) all st = true then .ok (.nx ro) st else .bad) st postF ex
    unfold Wp
    dsimp only
    rw [if_pos hc]
    exact hd ro st h
  | succ m ih =>
    intro ro st hle h
    have hlt : k < xs.length := by omega
    rw [List.drop_eq_getElem_cons hlt]
    have hc := chk_han (hk _ _ _ h)
    obtain ⟨ro1, h1, h2⟩ := hs k _ ro st (List.getElem?_eq_getElem hlt) h
    have e : Wp (forGo (some n) all t body (xs[k] :: xs.drop (k + 1)) ro) st postF ex ↔ Wp (bnd (body ro1) (loopK (forGo (some n) all t body (xs.drop (k + 1))))) st postF ex := by
      show Wp (fun st => if chk (some n) all st = true then (match t xs[k] ro with | some ro1 => bnd (body ro1) (loopK (forGo (some n) all t body (xs.drop (k + 1)))) st | none => .bad) else .bad) st postF ex ↔ _
      unfold Wp
      dsimp only
      rw [if_pos hc, h1]
    rw [e, wp_bnd]
    refine h2.mono fun f st' hf => wp_loopK ?_
    cases f with
    | nx ro' => exact ih (k + 1) (by omega) ro' st' hlt hf
    | ct ro' => exact ih (k + 1) (by omega) ro' st' hlt hf
    | bk ro' => exact hf
    | rt d => exact hf
/-- a for over a thing that stands still -/
theorem wp_forIh {n : Nat} {t : Tg} {body : Sl → Mo Fl} {xs : List Da} {ro : Sl} {st : Store} (I : Nat → Sl → Store → Prop) (h0 : I 0 ro st) (hk : ∀ i ro st, I i ro st → st[n]? = some (.lst xs))
    (hs : ∀ (i : Nat) (x : Da) (ro : Sl) (st : Store), xs[i]? = some x → I i ro st → ∃ ro1, t x ro = some ro1 ∧ Wp (body ro1) st (loopP (I (i + 1)) postF) ex)
    (hd : ∀ ro st, I xs.length ro st → postF (.nx ro) st) : Wp (forGo (some n) xs t body xs ro) st postF ex := wp_forGoH I hk hs hd 0 ro st (Nat.zero_le _) h0
theorem wp_srcV_h {n : Nat} {xs : List Da} {st : Store} {postS : Src → Store → Prop} (h : st[n]? = some (.lst xs)) : Wp (srcV (.han n)) st postS ex ↔ postS ⟨xs, some n⟩ st := by
  unfold Wp srcV; dsimp only; rw [h]
end
/-- a comprehension over a thing, that changes nothing -/
theorem wp_compFh {α : Type} {n : Nat} {t : Tg} {p : Sl → Mo Bool} {e : Sl → Mo Da} {rs : List α} {f g : α → Da} {P : α → Bool} {ro : Sl} {st : Store} {ex : Str → List Da → Store → Prop} {postL : List Da → Store → Prop} (hn : st[n]? = some (.lst (rs.map f))) (hx : rs.length < 1000000)
    (h : ∀ x ∈ rs, ∃ ro1, t (f x) ro = some ro1 ∧ Wp (p ro1) st (fun c s => c = P x ∧ s = st) noEx ∧ (P x = true → Wp (e ro1) st (fun d s => d = g x ∧ s = st) noEx))
    (hp : postL ((rs.filter P).map g) st) : Wp (compGo (some n) (rs.map f) t p e ro (rs.map f) []) st postL ex := by
  have hc := chk_han hn
  have go : ∀ (r2 r1 : List α), r1 ++ r2 = rs → Wp (compGo (some n) (rs.map f) t p e ro (r2.map f) ((r1.filter P).map g)) st postL ex := by
    intro r2
    induction r2 with
    | nil =>
      intro r1 h1
      rw [List.append_nil] at h1
      subst h1
      show Wp (fun st => if chk (some n) _ st = true then .ok _ st else .bad) st postL ex
      unfold Wp
      dsimp only
      rw [if_pos hc]
      exact hp
    | cons y r2 ih =>
      intro r1 h1
      obtain ⟨ro1, q1, q2, q3⟩ := h y (by rw [← h1]; simp)
      have hl : ((r1.filter P).map g).length < szD := by
        have := List.length_filter_le P r1
        have : rs.length = r1.length + (r2.length + 1) := by rw [← h1]; simp
        show _ < 1000000
        rw [List.length_map]
        omega
      have e1 : Wp (compGo (some n) (rs.map f) t p e ro (f y :: r2.map f) ((r1.filter P).map g)) st postL ex ↔ Wp (bnd (noX (p ro1)) (fun c => if c = true then bnd (noX (e ro1)) (fun z => if ((r1.filter P).map g).length < szD then compGo (some n) (rs.map f) t p e ro (r2.map f) ((r1.filter P).map g ++ [z]) else nop) else compGo (some n) (rs.map f) t p e ro (r2.map f) ((r1.filter P).map g))) st postL ex := by
        show Wp (fun st => if chk (some n) (rs.map f) st = true then (match t (f y) ro with | some ro1 => bnd (noX (p ro1)) (fun c => if c = true then bnd (noX (e ro1)) (fun z => if ((r1.filter P).map g).length < szD then compGo (some n) (rs.map f) t p e ro (r2.map f) ((r1.filter P).map g ++ [z]) else nop) else compGo (some n) (rs.map f) t p e ro (r2.map f) ((r1.filter P).map g)) st | none => .bad) else .bad) st postL ex ↔ _
        unfold Wp
        dsimp only
        rw [if_pos hc, q1]
      rw [List.map_cons, e1, wp_bnd, wp_noX]
      refine q2.mono ?_
      rintro c s1 ⟨rfl, rfl⟩
      rw [wp_ite]
      have hh := ih (r1 ++ [y]) (by simpa using h1)
      rw [List.filter_append, List.map_append] at hh
      cases q : P y with
      | true =>
        rw [if_pos rfl, wp_bnd, wp_noX]
        refine (q3 q).mono ?_
        rintro d s2 ⟨rfl, rfl⟩
        rw [wp_ite, if_pos hl]
        simpa [q] using hh
      | false =>
        rw [if_neg Bool.false_ne_true]
        simpa [q] using hh
  exact go rs [] rfl
end CL
namespace CL
open PySem L2
/-! ### Wp once more, by name: simp does not look behind the step at which it stands (what follows is no bare lambda over Wq) -/
structure Wq {A : Type} (m : Mo A) (st : Store) (post : A → Store → Prop) (ex : Str → List Da → Store → Prop) : Prop where
  p : Wp m st post ex
def kb {A B : Type} (f : A → Mo B) (post : B → Store → Prop) (ex : Str → List Da → Store → Prop) (a : A) (st : Store) : Prop := Wq (f a) st post ex
section
variable {A B : Type} {st : Store} {ex : Str → List Da → Store → Prop}
theorem wq_iff {m : Mo A} {post : A → Store → Prop} : Wq m st post ex ↔ Wp m st post ex := ⟨fun h => h.p, fun h => ⟨h⟩⟩
@[simp] theorem kb_app {f : A → Mo B} {post : B → Store → Prop} {a : A} : kb f post ex a st ↔ Wq (f a) st post ex := Iff.rfl
@[simp] theorem wq_bnd {m : Mo A} {f : A → Mo B} {post : B → Store → Prop} : Wq (bnd m f) st post ex ↔ Wq m st (kb f post ex) ex := by
  rw [wq_iff, wq_iff, wp_bnd]
  exact Wp.congr fun a s => wq_iff.symm
@[simp] theorem wq_ret {a : A} {post : A → Store → Prop} : Wq (ret a) st post ex ↔ post a st := wq_iff
@[simp] theorem wq_nop {post : A → Store → Prop} : Wq (nop : Mo A) st post ex ↔ False := wq_iff
@[simp] theorem wq_noX {m : Mo A} {post : A → Store → Prop} : Wq (noX m) st post ex ↔ Wq m st post noEx := wq_iff.trans (wp_noX.trans wq_iff.symm)
theorem Wq.mono {m : Mo A} {post post' : A → Store → Prop} (h : Wq m st post ex) (hp : ∀ a st', post a st' → post' a st') : Wq m st post' ex := ⟨Wp.mono h.p hp⟩
theorem Wq.ofNo {m : Mo A} {post post' : A → Store → Prop} (h : Wq m st post noEx) (hp : ∀ a st', post a st' → post' a st') : Wq m st post' ex := ⟨Wp.ofNo h.p hp⟩
theorem Wp.q {m : Mo A} {post : A → Store → Prop} (h : Wp m st post ex) : Wq m st post ex := ⟨h⟩
/-- a spec in the old word, taken at a step -/
theorem Wp.go {m : Mo A} {post post' : A → Store → Prop} (h : Wp m st post noEx) (hp : ∀ a st', post a st' → post' a st') : Wq m st post' ex := ⟨Wp.ofNo h hp⟩
theorem Wq.go {m : Mo A} {post post' : A → Store → Prop} (h : Wq m st post noEx) (hp : ∀ a st', post a st' → post' a st') : Wq m st post' ex := ⟨Wp.ofNo h.p hp⟩
/-- with what is raised -/
theorem Wq.con {m : Mo A} {post post' : A → Store → Prop} {ex' : Str → List Da → Store → Prop} (h : Wq m st post ex') (hp : ∀ a st', post a st' → post' a st') (he : ∀ c as st', ex' c as st' → ex c as st') : Wq m st post' ex := by
  have h := h.p
  refine ⟨?_⟩
  unfold Wp at h ⊢
  cases q : m st with
  | ok a st' => rw [q] at h; exact hp a st' h
  | exc c as st' => rw [q] at h; exact he c as st' h
  | bad => rw [q] at h; exact h
theorem Wq.of {m : Mo A} {post : A → Store → Prop} {a : A} {st' : Store} (h : m st = .ok a st') (hp : post a st') : Wq m st post ex := ⟨Wp.of h hp⟩
@[simp] theorem wq_ar {n : Nat} {f : List Da → Mo A} {ds : List Da} {post : A → Store → Prop} (h : ds.length = n) : Wq (ar n f ds) st post ex ↔ Wq (f ds) st post ex := by
  unfold ar; rw [if_pos h]
@[simp] theorem wq_one {f : Da → Mo A} {d : Da} {post : A → Store → Prop} : Wq (one f [d]) st post ex ↔ Wq (f d) st post ex := wq_iff.trans (wq_iff (m := f d)).symm
@[simp] theorem wq_two {f : Da → Da → Mo A} {d e : Da} {post : A → Store → Prop} : Wq (two f [d, e]) st post ex ↔ Wq (f d e) st post ex := wq_iff.trans (wq_iff (m := f d e)).symm
variable {a b c v o i' : Sl → Mo Da} {p q : Sl → Mo Bool} {al kl : Sl → Mo (List Da)} {ro : Sl} {post : Da → Store → Prop} {postB : Bool → Store → Prop} {postL : List Da → Store → Prop} {postF : Fl → Store → Prop} {postS : Src → Store → Prop} {postU : Unit → Store → Prop} {m n : Sl → Mo Fl}
theorem wq_var {i : Nat} {d : Da} (h : ro[i]? = some (some d)) : Wq (eVar i ro) st post ex ↔ post d st := wq_iff.trans (wp_var h)
@[simp] theorem wq_var0 {d : Da} {r : Sl} : Wq (eVar 0 (some d :: r)) st post ex ↔ post d st := wq_iff
@[simp] theorem wq_varS {i : Nat} {o : Option Da} {r : Sl} : Wq (eVar (i + 1) (o :: r)) st post ex ↔ Wq (eVar i r) st post ex := wq_iff.trans (wq_iff (m := eVar i r)).symm
@[simp] theorem wq_var1 {o0 : Option Da} {d : Da} {r : Sl} : Wq (eVar 1 (o0 :: some d :: r)) st post ex ↔ post d st := wq_iff
@[simp] theorem wq_var2 {o0 o1 : Option Da} {d : Da} {r : Sl} : Wq (eVar 2 (o0 :: o1 :: some d :: r)) st post ex ↔ post d st := wq_iff
@[simp] theorem wq_var3 {o0 o1 o2 : Option Da} {d : Da} {r : Sl} : Wq (eVar 3 (o0 :: o1 :: o2 :: some d :: r)) st post ex ↔ post d st := wq_iff
@[simp] theorem wq_var4 {o0 o1 o2 o3 : Option Da} {d : Da} {r : Sl} : Wq (eVar 4 (o0 :: o1 :: o2 :: o3 :: some d :: r)) st post ex ↔ post d st := wq_iff
@[simp] theorem wq_var5 {o0 o1 o2 o3 o4 : Option Da} {d : Da} {r : Sl} : Wq (eVar 5 (o0 :: o1 :: o2 :: o3 :: o4 :: some d :: r)) st post ex ↔ post d st := wq_iff
@[simp] theorem wq_var6 {o0 o1 o2 o3 o4 o5 : Option Da} {d : Da} {r : Sl} : Wq (eVar 6 (o0 :: o1 :: o2 :: o3 :: o4 :: o5 :: some d :: r)) st post ex ↔ post d st := wq_iff
@[simp] theorem wq_var7 {o0 o1 o2 o3 o4 o5 o6 : Option Da} {d : Da} {r : Sl} : Wq (eVar 7 (o0 :: o1 :: o2 :: o3 :: o4 :: o5 :: o6 :: some d :: r)) st post ex ↔ post d st := wq_iff
@[simp] theorem wq_var8 {o0 o1 o2 o3 o4 o5 o6 o7 : Option Da} {d : Da} {r : Sl} : Wq (eVar 8 (o0 :: o1 :: o2 :: o3 :: o4 :: o5 :: o6 :: o7 :: some d :: r)) st post ex ↔ post d st := wq_iff
@[simp] theorem wq_var9 {o0 o1 o2 o3 o4 o5 o6 o7 o8 : Option Da} {d : Da} {r : Sl} : Wq (eVar 9 (o0 :: o1 :: o2 :: o3 :: o4 :: o5 :: o6 :: o7 :: o8 :: some d :: r)) st post ex ↔ post d st := wq_iff
@[simp] theorem wq_var10 {o0 o1 o2 o3 o4 o5 o6 o7 o8 o9 : Option Da} {d : Da} {r : Sl} : Wq (eVar 10 (o0 :: o1 :: o2 :: o3 :: o4 :: o5 :: o6 :: o7 :: o8 :: o9 :: some d :: r)) st post ex ↔ post d st := wq_iff
@[simp] theorem wq_var11 {o0 o1 o2 o3 o4 o5 o6 o7 o8 o9 o10 : Option Da} {d : Da} {r : Sl} : Wq (eVar 11 (o0 :: o1 :: o2 :: o3 :: o4 :: o5 :: o6 :: o7 :: o8 :: o9 :: o10 :: some d :: r)) st post ex ↔ post d st := wq_iff
@[simp] theorem wq_var12 {o0 o1 o2 o3 o4 o5 o6 o7 o8 o9 o10 o11 : Option Da} {d : Da} {r : Sl} : Wq (eVar 12 (o0 :: o1 :: o2 :: o3 :: o4 :: o5 :: o6 :: o7 :: o8 :: o9 :: o10 :: o11 :: some d :: r)) st post ex ↔ post d st := wq_iff
@[simp] theorem wq_var13 {o0 o1 o2 o3 o4 o5 o6 o7 o8 o9 o10 o11 o12 : Option Da} {d : Da} {r : Sl} : Wq (eVar 13 (o0 :: o1 :: o2 :: o3 :: o4 :: o5 :: o6 :: o7 :: o8 :: o9 :: o10 :: o11 :: o12 :: some d :: r)) st post ex ↔ post d st := wq_iff
@[simp] theorem wq_var14 {o0 o1 o2 o3 o4 o5 o6 o7 o8 o9 o10 o11 o12 o13 : Option Da} {d : Da} {r : Sl} : Wq (eVar 14 (o0 :: o1 :: o2 :: o3 :: o4 :: o5 :: o6 :: o7 :: o8 :: o9 :: o10 :: o11 :: o12 :: o13 :: some d :: r)) st post ex ↔ post d st := wq_iff
@[simp] theorem wq_var15 {o0 o1 o2 o3 o4 o5 o6 o7 o8 o9 o10 o11 o12 o13 o14 : Option Da} {d : Da} {r : Sl} : Wq (eVar 15 (o0 :: o1 :: o2 :: o3 :: o4 :: o5 :: o6 :: o7 :: o8 :: o9 :: o10 :: o11 :: o12 :: o13 :: o14 :: some d :: r)) st post ex ↔ post d st := wq_iff
@[simp] theorem wq_var16 {o0 o1 o2 o3 o4 o5 o6 o7 o8 o9 o10 o11 o12 o13 o14 o15 : Option Da} {d : Da} {r : Sl} : Wq (eVar 16 (o0 :: o1 :: o2 :: o3 :: o4 :: o5 :: o6 :: o7 :: o8 :: o9 :: o10 :: o11 :: o12 :: o13 :: o14 :: o15 :: some d :: r)) st post ex ↔ post d st := wq_iff
@[simp] theorem wq_var17 {o0 o1 o2 o3 o4 o5 o6 o7 o8 o9 o10 o11 o12 o13 o14 o15 o16 : Option Da} {d : Da} {r : Sl} : Wq (eVar 17 (o0 :: o1 :: o2 :: o3 :: o4 :: o5 :: o6 :: o7 :: o8 :: o9 :: o10 :: o11 :: o12 :: o13 :: o14 :: o15 :: o16 :: some d :: r)) st post ex ↔ post d st := wq_iff
@[simp] theorem wq_var18 {o0 o1 o2 o3 o4 o5 o6 o7 o8 o9 o10 o11 o12 o13 o14 o15 o16 o17 : Option Da} {d : Da} {r : Sl} : Wq (eVar 18 (o0 :: o1 :: o2 :: o3 :: o4 :: o5 :: o6 :: o7 :: o8 :: o9 :: o10 :: o11 :: o12 :: o13 :: o14 :: o15 :: o16 :: o17 :: some d :: r)) st post ex ↔ post d st := wq_iff
@[simp] theorem wq_var19 {o0 o1 o2 o3 o4 o5 o6 o7 o8 o9 o10 o11 o12 o13 o14 o15 o16 o17 o18 : Option Da} {d : Da} {r : Sl} : Wq (eVar 19 (o0 :: o1 :: o2 :: o3 :: o4 :: o5 :: o6 :: o7 :: o8 :: o9 :: o10 :: o11 :: o12 :: o13 :: o14 :: o15 :: o16 :: o17 :: o18 :: some d :: r)) st post ex ↔ post d st := wq_iff
@[simp] theorem wq_var20 {o0 o1 o2 o3 o4 o5 o6 o7 o8 o9 o10 o11 o12 o13 o14 o15 o16 o17 o18 o19 : Option Da} {d : Da} {r : Sl} : Wq (eVar 20 (o0 :: o1 :: o2 :: o3 :: o4 :: o5 :: o6 :: o7 :: o8 :: o9 :: o10 :: o11 :: o12 :: o13 :: o14 :: o15 :: o16 :: o17 :: o18 :: o19 :: some d :: r)) st post ex ↔ post d st := wq_iff
@[simp] theorem wq_var21 {o0 o1 o2 o3 o4 o5 o6 o7 o8 o9 o10 o11 o12 o13 o14 o15 o16 o17 o18 o19 o20 : Option Da} {d : Da} {r : Sl} : Wq (eVar 21 (o0 :: o1 :: o2 :: o3 :: o4 :: o5 :: o6 :: o7 :: o8 :: o9 :: o10 :: o11 :: o12 :: o13 :: o14 :: o15 :: o16 :: o17 :: o18 :: o19 :: o20 :: some d :: r)) st post ex ↔ post d st := wq_iff
@[simp] theorem wq_var22 {o0 o1 o2 o3 o4 o5 o6 o7 o8 o9 o10 o11 o12 o13 o14 o15 o16 o17 o18 o19 o20 o21 : Option Da} {d : Da} {r : Sl} : Wq (eVar 22 (o0 :: o1 :: o2 :: o3 :: o4 :: o5 :: o6 :: o7 :: o8 :: o9 :: o10 :: o11 :: o12 :: o13 :: o14 :: o15 :: o16 :: o17 :: o18 :: o19 :: o20 :: o21 :: some d :: r)) st post ex ↔ post d st := wq_iff
@[simp] theorem wq_var23 {o0 o1 o2 o3 o4 o5 o6 o7 o8 o9 o10 o11 o12 o13 o14 o15 o16 o17 o18 o19 o20 o21 o22 : Option Da} {d : Da} {r : Sl} : Wq (eVar 23 (o0 :: o1 :: o2 :: o3 :: o4 :: o5 :: o6 :: o7 :: o8 :: o9 :: o10 :: o11 :: o12 :: o13 :: o14 :: o15 :: o16 :: o17 :: o18 :: o19 :: o20 :: o21 :: o22 :: some d :: r)) st post ex ↔ post d st := wq_iff
@[simp] theorem wq_var24 {o0 o1 o2 o3 o4 o5 o6 o7 o8 o9 o10 o11 o12 o13 o14 o15 o16 o17 o18 o19 o20 o21 o22 o23 : Option Da} {d : Da} {r : Sl} : Wq (eVar 24 (o0 :: o1 :: o2 :: o3 :: o4 :: o5 :: o6 :: o7 :: o8 :: o9 :: o10 :: o11 :: o12 :: o13 :: o14 :: o15 :: o16 :: o17 :: o18 :: o19 :: o20 :: o21 :: o22 :: o23 :: some d :: r)) st post ex ↔ post d st := wq_iff
@[simp] theorem wq_var25 {o0 o1 o2 o3 o4 o5 o6 o7 o8 o9 o10 o11 o12 o13 o14 o15 o16 o17 o18 o19 o20 o21 o22 o23 o24 : Option Da} {d : Da} {r : Sl} : Wq (eVar 25 (o0 :: o1 :: o2 :: o3 :: o4 :: o5 :: o6 :: o7 :: o8 :: o9 :: o10 :: o11 :: o12 :: o13 :: o14 :: o15 :: o16 :: o17 :: o18 :: o19 :: o20 :: o21 :: o22 :: o23 :: o24 :: some d :: r)) st post ex ↔ post d st := wq_iff
@[simp] theorem wq_c {d : Da} : Wq (eC d ro) st post ex ↔ Wq (ret d) st post ex := wq_iff.trans (wq_iff (m := (ret d))).symm
@[simp] theorem wq_e2 {f : Da → Da → Mo Da} : Wq (e2 f a b ro) st post ex ↔ Wq (a ro) st (kb (fun x => bnd (b ro) fun y => f x y) post ex) ex := wq_bnd
@[simp] theorem wq_e1 {f : Da → Mo Da} : Wq (e1 f a ro) st post ex ↔ Wq (a ro) st (kb f post ex) ex := wq_bnd
@[simp] theorem wq_tst  : Wq (tst a ro) st postB ex ↔ Wq (a ro) st (kb toB postB ex) ex := wq_bnd
@[simp] theorem wq_and  : Wq (tAnd_ p q ro) st postB ex ↔ Wq (p ro) st (kb (fun c => if c = true then q ro else ret false) postB ex) ex := wq_bnd
@[simp] theorem wq_or  : Wq (tOr_ p q ro) st postB ex ↔ Wq (p ro) st (kb (fun c => if c = true then ret true else q ro) postB ex) ex := wq_bnd
@[simp] theorem wq_not  : Wq (tNot_ p ro) st postB ex ↔ Wq (p ro) st (kb (fun c => ret (!c)) postB ex) ex := wq_bnd
@[simp] theorem wq_vAnd  : Wq (vAnd a b ro) st post ex ↔ Wq (tst a ro) st (kb (fun c => if c = true then b ro else ret (.bl false)) post ex) ex := wq_bnd
@[simp] theorem wq_vOr  : Wq (vOr a b ro) st post ex ↔ Wq (tst a ro) st (kb (fun c => if c = true then ret (.bl true) else b ro) post ex) ex := wq_bnd
@[simp] theorem wq_vNot  : Wq (vNot a ro) st post ex ↔ Wq (tst a ro) st (kb (fun c => ret (.bl (!c))) post ex) ex := wq_bnd
@[simp] theorem wq_eIf  : Wq (eIf p a b ro) st post ex ↔ Wq (p ro) st (kb (fun c => if c = true then a ro else b ro) post ex) ex := wq_bnd
@[simp] theorem wq_aNil  : Wq (aNil ro) st postL ex ↔ Wq (ret []) st postL ex := wq_iff.trans (wq_iff (m := (ret []))).symm
@[simp] theorem wq_aCons  : Wq (aCons a al ro) st postL ex ↔ Wq (a ro) st (kb (fun x => bnd (al ro) fun xs => ret (x :: xs)) postL ex) ex := wq_bnd
@[simp] theorem wq_eTup  : Wq (eTup al ro) st post ex ↔ Wq (al ro) st (kb (fun xs => if xs.length ≤ 1000 then ret (.tup xs) else nop) post ex) ex := wq_bnd
@[simp] theorem wq_lDisp  : Wq (lDisp al ro) st postL ex ↔ Wq (al ro) st (kb (fun xs => if xs.length ≤ 1000 then ret xs else nop) postL ex) ex := wq_bnd
@[simp] theorem wq_eL  : Wq (eL al ro) st post ex ↔ Wq (al ro) st (kb (fun xs => ret (.lst xs)) post ex) ex := wq_bnd
@[simp] theorem wq_eF  : Wq (eF a ro) st post ex ↔ Wq (a ro) st (kb fz post ex) ex := wq_bnd
@[simp] theorem wq_eCall {f : List Da → Mo Da} : Wq (eCall f al ro) st post ex ↔ Wq (al ro) st (kb f post ex) ex := wq_bnd
@[simp] theorem wq_lCall {f : List Da → Mo (List Da)} : Wq (lCall f al ro) st postL ex ↔ Wq (al ro) st (kb f postL ex) ex := wq_bnd
@[simp] theorem wq_l2 {f : Da → Da → Mo (List Da)} : Wq (l2 f a b ro) st postL ex ↔ Wq (a ro) st (kb (fun x => bnd (b ro) fun y => f x y) postL ex) ex := wq_bnd
@[simp] theorem wq_chain {f g : Da → Da → Mo Da} : Wq (eChain f g a b c ro) st post ex ↔ Wq (a ro) st (kb (fun x => bnd (b ro) fun y => bnd (bnd (f x y) toB) fun k => if k = true then bnd (c ro) fun z => g y z else ret (.bl false)) post ex) ex := wq_bnd
@[simp] theorem wq_eApp  : Wq (eApp a b ro) st post ex ↔ Wq (a ro) st (kb (fun d => bnd (isLs d) fun _ => bnd (b ro) fun x => appD d x) post ex) ex := wq_bnd
@[simp] theorem wq_ePop  : Wq (ePop a ro) st post ex ↔ Wq (a ro) st (kb (fun d => bnd (isLs d) fun _ => popD d) post ex) ex := wq_bnd
@[simp] theorem wq_ePopAt  : Wq (ePopAt a b ro) st post ex ↔ Wq (a ro) st (kb (fun d => bnd (isLs d) fun _ => bnd (b ro) fun x => popAtD d x) post ex) ex := wq_bnd
@[simp] theorem wq_eIndex  : Wq (eIndex a b ro) st post ex ↔ Wq (a ro) st (kb (fun d => bnd (isLs d) fun _ => bnd (b ro) fun x => indexD d x) post ex) ex := wq_bnd
@[simp] theorem wq_mNil  : Wq (mNil ro) st postF ex ↔ Wq (ret (Fl.nx ro)) st postF ex := wq_iff.trans (wq_iff (m := (ret (Fl.nx ro)))).symm
@[simp] theorem wq_mSet {i : Nat} : Wq (mSet i a ro) st postF ex ↔ Wq (a ro) st (kb (fun d => ret (Fl.nx (ro.set i (some d)))) postF ex) ex := wq_bnd
@[simp] theorem wq_mRet  : Wq (mRet a ro) st postF ex ↔ Wq (a ro) st (kb (fun d => ret (Fl.rt d)) postF ex) ex := wq_bnd
@[simp] theorem wq_mRetN  : Wq (mRetN ro) st postF ex ↔ Wq (ret (Fl.rt .non)) st postF ex := wq_iff.trans (wq_iff (m := (ret (Fl.rt .non)))).symm
@[simp] theorem wq_mExpr  : Wq (mExpr a ro) st postF ex ↔ Wq (a ro) st (kb (fun _ => ret (Fl.nx ro)) postF ex) ex := wq_bnd
@[simp] theorem wq_mIf  : Wq (mIf p m n ro) st postF ex ↔ Wq (p ro) st (kb (fun c => if c = true then m ro else n ro) postF ex) ex := wq_bnd
@[simp] theorem wq_mBrk  : Wq (mBrk ro) st postF ex ↔ Wq (ret (Fl.bk ro)) st postF ex := wq_iff.trans (wq_iff (m := (ret (Fl.bk ro)))).symm
@[simp] theorem wq_mCnt  : Wq (mCnt ro) st postF ex ↔ Wq (ret (Fl.ct ro)) st postF ex := wq_iff.trans (wq_iff (m := (ret (Fl.ct ro)))).symm
@[simp] theorem wq_mNever  : Wq (mNever ro) st postF ex ↔ Wq (nop) st postF ex := wq_iff.trans (wq_iff (m := (nop))).symm
@[simp] theorem wq_mSetI  : Wq (mSetI v o i' ro) st postF ex ↔ Wq (v ro) st (kb (fun x => bnd (o ro) fun d => bnd (i' ro) fun k => bnd (setD d k x) fun _ => ret (Fl.nx ro)) postF ex) ex := wq_bnd
@[simp] theorem wq_mFor {s : Sl → Mo Src} {t : Tg} : Wq (mFor s t m ro) st postF ex ↔ Wq (s ro) st (kb (fun s => forGo s.o s.xs t m s.xs ro) postF ex) ex := wq_bnd
@[simp] theorem wq_fnM {k : Nat} {ds : List Da} : Wq (fnM k m ds) st post ex ↔ Wq (m (startS k ds)) st (kb fnE post ex) ex := wq_bnd
@[simp] theorem wq_lComp {s : Sl → Mo Src} {t : Tg} {vs : List Nat} : Wq (lComp s t p a vs ro) st postL ex ↔ Wq (s ro) st (kb (fun s => compGo s.o s.xs t p a (wipeS ro vs) s.xs []) postL ex) ex := wq_bnd
@[simp] theorem wq_iV  : Wq (iV a ro) st postS ex ↔ Wq (a ro) st (kb srcV postS ex) ex := wq_bnd
@[simp] theorem wq_iR1  : Wq (iR1 al ro) st postS ex ↔ Wq (al ro) st (kb srcR1 postS ex) ex := wq_bnd
@[simp] theorem wq_iR2  : Wq (iR2 al ro) st postS ex ↔ Wq (al ro) st (kb srcR2 postS ex) ex := wq_bnd
@[simp] theorem wq_iR3  : Wq (iR3 al ro) st postS ex ↔ Wq (al ro) st (kb srcR3 postS ex) ex := wq_bnd
@[simp] theorem wq_yes  : Wq (tYes_ ro) st postB ex ↔ Wq (ret true) st postB ex := wq_iff.trans (wq_iff (m := (ret true))).symm
@[simp] theorem wq_eFld {cs : List Str} {f : Str} : Wq (eFld cs f a ro) st post ex ↔ Wq (a ro) st (kb (fldD cs f) post ex) ex := wq_bnd
@[simp] theorem wq_mFld {cs : List Str} {f : Str} : Wq (mFld cs f v o ro) st postF ex ↔ Wq (v ro) st (kb (fun x => bnd (o ro) fun d => bnd (setFD cs f d x) fun _ => ret (Fl.nx ro)) postF ex) ex := wq_bnd
@[simp] theorem wq_eMeth {c m : Str} {f : List Da → Mo Da} : Wq (eMeth c m f a al ro) st post ex ↔ Wq (a ro) st (kb (fun d => bnd (isIns c m d) fun _ => bnd (al ro) fun ds => f (d :: ds)) post ex) ex := wq_bnd
@[simp] theorem wq_eMake {c : Str} {f : List Da → Mo Da} : Wq (eMake c f al ro) st post ex ↔ Wq (al ro) st (kb (makeD c f) post ex) ex := wq_bnd
@[simp] theorem wq_eH : Wq (eH al ro) st post ex ↔ Wq (al ro) st (kb (fun xs st => .ok (.han st.length) (st ++ [.lst xs])) post ex) ex := wq_bnd
@[simp] theorem wq_okf {f : Store → A} {g : Store → Store} {post : A → Store → Prop} : Wq (fun st => Res.ok (f st) (g st)) st post ex ↔ post (f st) (g st) := wq_iff
@[simp] theorem wq_mSeq : Wq (mSeq m n ro) st postF ex ↔ Wq (m ro) st (kb (fun f => match f with | .nx ro' => n ro' | f => ret f) postF ex) ex := wq_bnd
theorem Wq.seq (Q : Fl → Store → Prop) (h1 : Wq (m ro) st Q ex) (h2 : ∀ f st', Q f st' → kb (fun f => match f with | .nx ro' => n ro' | f => ret f) postF ex f st') : Wq (mSeq m n ro) st postF ex := wq_mSeq.mpr (h1.mono h2)
@[simp] theorem wq_mTgt {t : Tg} : Wq (mTgt t a ro) st postF ex ↔ Wq (a ro) st (kb (fun d => match t d ro with | some ro' => ret (Fl.nx ro') | none => nop) postF ex) ex := wq_bnd
@[simp] theorem wq_mPar {i j : Nat} : Wq (mPar i j al ro) st postF ex ↔ Wq (al ro) st (kb (fun ds => match ds with | [d, e] => ret (Fl.nx ((ro.set i (some d)).set j (some e))) | _ => nop) postF ex) ex := wq_bnd
@[simp] theorem wq_mAug {i : Nat} {f : Int → Int → Int} : Wq (mAug i f a ro) st postF ex ↔ Wq (eVar i ro) st (kb (fun x => bnd (a ro) fun y => match x, y with | .int p, .int q => ret (Fl.nx (ro.set i (some (.int (f p q))))) | _, _ => nop) postF ex) ex := wq_bnd
@[simp] theorem wq_toB {k : Bool} : Wq (toB (.bl k)) st postB ex ↔ postB k st := wq_iff
@[simp] theorem fnE_nx {ro : Sl} : fnE (.nx ro) = ret .non := rfl
@[simp] theorem fnE_rt {d : Da} : fnE (.rt d) = ret d := rfl
theorem wq_fz {n : Nat} {ds : List Da} (h : st[n]? = some (.lst ds)) : Wq (fz (.han n)) st post ex ↔ post (.lst ds) (st.set n .dead) := wq_iff.trans (wp_fz h)
@[simp] theorem wq_noP {postP : Option Int → Store → Prop} : Wq (noP ro) st postP ex ↔ postP none st := wq_iff
@[simp] theorem wq_soP {postP : Option Int → Store → Prop} : Wq (soP a ro) st postP ex ↔ Wq (a ro) st (kb (fun d => match d with | .int i => ret (some i) | _ => nop) postP ex) ex := wq_bnd
@[simp] theorem wq_eSl {f : Da → Option Int → Option Int → Mo Da} {lo hi : Sl → Mo (Option Int)} : Wq (eSl f a lo hi ro) st post ex ↔ Wq (a ro) st (kb (fun d => bnd (lo ro) fun l => bnd (hi ro) fun h => f d l h) post ex) ex := wq_bnd
@[simp] theorem wq_lSl {lo hi : Sl → Mo (Option Int)} : Wq (lSl a lo hi ro) st postL ex ↔ Wq (a ro) st (kb (fun d => bnd (lo ro) fun l => bnd (hi ro) fun h => slL d l h) postL ex) ex := wq_bnd
@[simp] theorem wq_add_i {i j : Int} : Wq (addD (.int i) (.int j)) st post ex ↔ post (.int (i + j)) st := wq_iff
@[simp] theorem wq_sub_i {i j : Int} : Wq (subD (.int i) (.int j)) st post ex ↔ post (.int (i - j)) st := wq_iff
@[simp] theorem wq_lt_i {i j : Int} : Wq (ltD (.int i) (.int j)) st post ex ↔ post (.bl (decide (i < j))) st := wq_iff
@[simp] theorem wq_le_i {i j : Int} : Wq (leD (.int i) (.int j)) st post ex ↔ post (.bl (decide (i ≤ j))) st := wq_iff
@[simp] theorem wq_gt_i {i j : Int} : Wq (gtD (.int i) (.int j)) st post ex ↔ post (.bl (decide (j < i))) st := wq_iff
@[simp] theorem wq_ge_i {i j : Int} : Wq (geD (.int i) (.int j)) st post ex ↔ post (.bl (decide (j ≤ i))) st := wq_iff
@[simp] theorem wq_neg_i {i : Int} : Wq (negD (.int i)) st post ex ↔ post (.int (-i)) st := wq_iff
@[simp] theorem wq_max_i {i j : Int} : Wq (maxD (.int i) (.int j)) st post ex ↔ post (.int (if j > i then j else i)) st := wq_iff
@[simp] theorem wq_min_i {i j : Int} : Wq (minD (.int i) (.int j)) st post ex ↔ post (.int (if j < i then j else i)) st := wq_iff
@[simp] theorem wq_isT_i {t : Tn} {i : Int} : Wq (isT t (.int i)) st post ex ↔ post (.bl (isTn .int t)) st := wq_iff
@[simp] theorem wq_isT_b {t : Tn} {i : Bool} : Wq (isT t (.bl i)) st post ex ↔ post (.bl (isTn .bool t)) st := wq_iff
@[simp] theorem wq_isT_s {t : Tn} {i : Str} : Wq (isT t (.str i)) st post ex ↔ post (.bl (isTn .str t)) st := wq_iff
@[simp] theorem wq_isT_n {t : Tn} : Wq (isT t .non) st post ex ↔ post (.bl (isTn .non t)) st := wq_iff
@[simp] theorem wq_isT_t {t : Tn} {xs : List Da} : Wq (isT t (.tup xs)) st post ex ↔ post (.bl (isTn .tuple t)) st := wq_iff
@[simp] theorem wq_isT_l {t : Tn} {xs : List Da} : Wq (isT t (.lst xs)) st post ex ↔ post (.bl (isTn .list t)) st := wq_iff
@[simp] theorem wq_is_bl {b x y : Bool} : Wq (isB b (.bl x) (.bl y)) st post ex ↔ post (.bl (if b then !decide (x = y) else decide (x = y))) st := wq_iff
@[simp] theorem wq_len_l {xs : List Da} : Wq (lenD (.lst xs)) st post ex ↔ post (.int xs.length) st := wq_iff
@[simp] theorem wq_len_t {xs : List Da} : Wq (lenD (.tup xs)) st post ex ↔ post (.int xs.length) st := wq_iff
@[simp] theorem wq_list_l {xs : List Da} : Wq (listD (.lst xs)) st postL ex ↔ postL xs st := wq_iff
@[simp] theorem wq_list_t {xs : List Da} : Wq (listD (.tup xs)) st postL ex ↔ postL xs st := wq_iff
@[simp] theorem wq_list_f {xs : List Da} : Wq (listD (.fro xs)) st postL ex ↔ postL xs st := wq_iff
@[simp] theorem wq_tuple_l {xs : List Da} : Wq (tupleD (.lst xs)) st post ex ↔ post (.tup xs) st := wq_iff
@[simp] theorem wq_srcV_l {xs : List Da} : Wq (srcV (.lst xs)) st postS ex ↔ postS ⟨xs, none⟩ st := wq_iff
@[simp] theorem wq_srcV_t {xs : List Da} : Wq (srcV (.tup xs)) st postS ex ↔ postS ⟨xs, none⟩ st := wq_iff
@[simp] theorem wq_slA_t {xs : List Da} {lo hi : Option Int} : Wq (slA (.tup xs) lo hi) st post ex ↔ post (.tup (cutD xs lo hi)) st := wq_iff
@[simp] theorem wq_slA_l {xs : List Da} {lo hi : Option Int} : Wq (slA (.lst xs) lo hi) st post ex ↔ post (.lst (cutD xs lo hi)) st := wq_iff
@[simp] theorem wq_slL_l {xs : List Da} {lo hi : Option Int} : Wq (slL (.lst xs) lo hi) st postL ex ↔ postL (cutD xs lo hi) st := wq_iff
@[simp] theorem wq_isLs_l {xs : List Da} : Wq (isLs (.lst xs)) st postU ex ↔ postU () st := wq_iff
@[simp] theorem wq_isNon_n : Wq (isNon .non) st postU ex ↔ postU () st := wq_iff
@[simp] theorem wq_is_non {b : Bool}  : Wq (isB b (.non) .non) st post ex ↔ post (.bl (if b then false else true)) st := by cases b <;> exact wq_iff
@[simp] theorem wq_is_int {b : Bool} {i : Int} : Wq (isB b (.int i) .non) st post ex ↔ post (.bl b) st := by cases b <;> exact wq_iff
@[simp] theorem wq_is_tup {b : Bool} {l : List Da} : Wq (isB b (.tup l) .non) st post ex ↔ post (.bl b) st := by cases b <;> exact wq_iff
@[simp] theorem wq_is_lst {b : Bool} {l : List Da} : Wq (isB b (.lst l) .non) st post ex ↔ post (.bl b) st := by cases b <;> exact wq_iff
@[simp] theorem wq_is_str {b : Bool} {s : Str} : Wq (isB b (.str s) .non) st post ex ↔ post (.bl b) st := by cases b <;> exact wq_iff
@[simp] theorem wq_mul_i {i j : Int} (h : CMul i j) : Wq (mulD (.int i) (.int j)) st post ex ↔ post (.int (i * j)) st := by unfold mulD; dsimp only; rw [if_pos h]; exact wq_iff
@[simp] theorem wq_fdiv_i {i j : Int} (h : CDivN i j) : Wq (fdivD (.int i) (.int j)) st post ex ↔ post (.int (i.fdiv j)) st := by unfold fdivD; dsimp only; rw [if_pos h]; exact wq_iff
@[simp] theorem wq_mod_i {i j : Int} (h : j ≠ 0) : Wq (modD (.int i) (.int j)) st post ex ↔ post (.int (i.fmod j)) st := by unfold modD; dsimp only; rw [if_pos h]; exact wq_iff
@[simp] theorem wq_pow_i {i j : Int} (h : CPow i j) : Wq (powD (.int i) (.int j)) st post ex ↔ post (.int (i ^ j.toNat)) st := by unfold powD; dsimp only; rw [if_pos h]; exact wq_iff
@[simp] theorem wq_srcR1 {j : Int} (h : big j) : Wq (srcR1 [.int j]) st postS ex ↔ postS ⟨rngL 0 j.toNat, none⟩ st := by unfold srcR1; dsimp only; rw [if_pos h]; exact wq_iff
@[simp] theorem wq_srcR2 {i j : Int} (h : big i ∧ big j) : Wq (srcR2 [.int i, .int j]) st postS ex ↔ postS ⟨rngL i (j - i).toNat, none⟩ st := by unfold srcR2; dsimp only; rw [if_pos h]; exact wq_iff
@[simp] theorem wq_srcR3 {i j c : Int} (h : rgOk i j c) : Wq (srcR3 [.int i, .int j, .int c]) st postS ex ↔ postS ⟨rngC i c (rgN i j c), none⟩ st := by unfold srcR3; dsimp only; rw [if_pos h]; exact wq_iff
@[simp] theorem wq_catL_l {xs ys : List Da} (h : xs.length + ys.length ≤ 1000000) : Wq (catL (.lst xs) (.lst ys)) st postL ex ↔ postL (xs ++ ys) st := wq_iff.trans ((wp_catL_l).trans (by rw [if_pos h]))
@[simp] theorem wq_add_l {xs ys : List Da} (h : xs.length + ys.length ≤ 1000000) : Wq (addD (.tup xs) (.tup ys)) st post ex ↔ post (.tup (xs ++ ys)) st := by
  rw [wq_iff]; unfold Wp addD; dsimp only; rw [if_pos h]; exact Iff.rfl
theorem wq_isT {t u : Tn} {d : Da} (h : tyN st d = some u) : Wq (isT t d) st post ex ↔ post (.bl (isTn u t)) st := wq_iff.trans (wp_isT h)
theorem wq_isT_h {n : Nat} {xs : List Da} {t : Tn} (h : st[n]? = some (.lst xs)) : Wq (isT t (.han n)) st post ex ↔ post (.bl (isTn .list t)) st := wq_iff.trans (wp_isT (by unfold tyN; dsimp only; rw [h]))
theorem wq_ix_t {x : Da} {xs : List Da} {i : Int} (hx : atI xs i = some x) : Wq (ixD (.tup xs) (.int i)) st post ex ↔ post x st := wq_iff.trans (wp_ix_t hx)
theorem wq_ix_l {x : Da} {xs : List Da} {i : Int} (hx : atI xs i = some x) : Wq (ixD (.lst xs) (.int i)) st post ex ↔ post x st := wq_iff.trans (wp_ix_l hx)
theorem wq_ix_h {n : Nat} {x : Da} {xs : List Da} {i : Int} (h : st[n]? = some (.lst xs)) (hx : atI xs i = some x) : Wq (ixD (.han n) (.int i)) st post ex ↔ post x st := wq_iff.trans (wp_ix_h h hx)
@[simp] theorem wq_ix_t0 {x0 : Da} {r : List Da} : Wq (ixD (.tup (x0 :: r)) (.int 0)) st post ex ↔ post x0 st := wq_iff.trans (wp_ix_t0)
@[simp] theorem wq_ix_t1 {x0 x1 : Da} {r : List Da} : Wq (ixD (.tup (x0 :: x1 :: r)) (.int 1)) st post ex ↔ post x1 st := wq_iff.trans (wp_ix_t1)
@[simp] theorem wq_ix_t2 {x0 x1 x2 : Da} {r : List Da} : Wq (ixD (.tup (x0 :: x1 :: x2 :: r)) (.int 2)) st post ex ↔ post x2 st := wq_iff.trans (wp_ix_t2)
@[simp] theorem wq_ix_t3 {x0 x1 x2 x3 : Da} {r : List Da} : Wq (ixD (.tup (x0 :: x1 :: x2 :: x3 :: r)) (.int 3)) st post ex ↔ post x3 st := wq_iff.trans (wp_ix_t3)
@[simp] theorem wq_ix_l0 {x0 : Da} {r : List Da} : Wq (ixD (.lst (x0 :: r)) (.int 0)) st post ex ↔ post x0 st := wq_iff.trans (wp_ix_l0)
@[simp] theorem wq_ix_l1 {x0 x1 : Da} {r : List Da} : Wq (ixD (.lst (x0 :: x1 :: r)) (.int 1)) st post ex ↔ post x1 st := wq_iff.trans (wp_ix_l (atI_nat (j := 1) rfl))
@[simp] theorem wq_ix_l2 {x0 x1 x2 : Da} {r : List Da} : Wq (ixD (.lst (x0 :: x1 :: x2 :: r)) (.int 2)) st post ex ↔ post x2 st := wq_iff.trans (wp_ix_l (atI_nat (j := 2) rfl))
theorem wq_len_h {n : Nat} {xs : List Da} (h : st[n]? = some (.lst xs)) : Wq (lenD (.han n)) st post ex ↔ post (.int xs.length) st := wq_iff.trans (wp_len_h h)
theorem wq_list_h {n : Nat} {xs : List Da} (h : st[n]? = some (.lst xs)) : Wq (listD (.han n)) st postL ex ↔ postL xs st := wq_iff.trans (wp_list (by unfold sqOf lsOf; dsimp only; rw [h]))
theorem wq_tuple_h {n : Nat} {xs : List Da} (h : st[n]? = some (.lst xs)) : Wq (tupleD (.han n)) st post ex ↔ post (.tup xs) st := wq_iff.trans (wp_tuple_h h)
theorem wq_all {xs : List Da} {bs : List Bool} (h : xs = bs.map Da.bl) : Wq (allD (.lst xs)) st post ex ↔ post (.bl (bs.all id)) st := wq_iff.trans (wp_all h)
@[simp] theorem wq_all1 {x : Bool} : Wq (allD (.lst [.bl x])) st post ex ↔ post (.bl x) st := wq_iff.trans (wp_all1)
@[simp] theorem wq_all2 {x y : Bool} : Wq (allD (.lst [.bl x, .bl y])) st post ex ↔ post (.bl (x && y)) st := wq_iff.trans (wp_all2)
theorem wq_setD {n : Nat} {k : Int} {x : Da} {xs : List Da} {j : Nat} (h : st[n]? = some (.lst xs)) (hj : ixN xs.length k = some j) : Wq (setD (.han n) (.int k) x) st postU ex ↔ postU () (st.set n (.lst (xs.set j x))) := wq_iff.trans (wp_setD h hj)
theorem wq_isLs_h {n : Nat} {xs : List Da} (h : st[n]? = some (.lst xs)) : Wq (isLs (.han n)) st postU ex ↔ postU () st := wq_iff.trans (wp_isLs_h h)
theorem wq_appD {n : Nat} {x : Da} {xs : List Da} (h : st[n]? = some (.lst xs)) (hl : xs.length < 1000000) : Wq (appD (.han n) x) st post ex ↔ post .non (st.set n (.lst (xs ++ [x]))) := wq_iff.trans (wp_appD h hl)
theorem wq_popD {n : Nat} {xs : List Da} {x : Da} (h : st[n]? = some (.lst xs)) (hx : xs[xs.length - 1]? = some x) : Wq (popD (.han n)) st post ex ↔ post x (st.set n (.lst xs.dropLast)) := wq_iff.trans (wp_popD h hx)
theorem wq_popAt {n : Nat} {k : Int} {xs : List Da} {j : Nat} {x : Da} (h : st[n]? = some (.lst xs)) (hj : ixN xs.length k = some j) (hx : xs[j]? = some x) (hb : big k) : Wq (popAtD (.han n) (.int k)) st post ex ↔ post x (st.set n (.lst (xs.eraseIdx j))) := wq_iff.trans (wp_popAt h hj hx hb)
theorem wq_fldD {cs : List Str} {f : Str} {n : Nat} {c : Str} {fs : List (Str × Da)} {x : Da} (h : st[n]? = some (.ins c fs)) (hc : c ∈ cs) (hx : fs.lookup f = some x) : Wq (fldD cs f (.han n)) st post ex ↔ post x st := wq_iff.trans (wp_fldD h hc hx)
theorem wq_setFD {cs : List Str} {f : Str} {n : Nat} {c : Str} {fs : List (Str × Da)} {x : Da} (h : st[n]? = some (.ins c fs)) (hc : c ∈ cs) (hl : fs.length < 1000) : Wq (setFD cs f (.han n) x) st postU ex ↔ postU () (st.set n (.ins c (putD f x fs))) := wq_iff.trans (wp_setFD h hc hl)
theorem wq_isIns {c m : Str} {n : Nat} {fs : List (Str × Da)} (h : st[n]? = some (.ins c fs)) (hl : fs.lookup m = none) : Wq (isIns c m (.han n)) st postU ex ↔ postU () st := wq_iff.trans (wp_isIns h hl)
@[simp] theorem wq_makeD {c : Str} {g : List Da → Mo Da} {ds : List Da} : Wq (makeD c g ds) st post ex ↔ Wq (g (.han st.length :: ds)) (st ++ [.ins c []]) (kb (fun r => bnd (isNon r) fun _ => ret (.han st.length)) post ex) ex := by
  rw [← wq_bnd]
  refine wq_iff.trans (Iff.trans ?_ (wq_iff (m := bnd (g (Da.han st.length :: ds)) fun r => bnd (isNon r) fun _ => ret (Da.han st.length))).symm)
  exact Iff.rfl
def makeK (c : Str) (g : List Da → Mo Da) (n1 k : Nat) (gD : List Da → List Da → List Da) (ds es : List Da) : Mo Da := fun st => if ds.length = n1 ∧ es.length = k then bnd (newI c) (fun _ => bnd (g (gD (.han st.length :: ds) es)) fun r => bnd (isNon r) fun _ => ret (.han st.length)) st else .bad
@[simp] theorem wq_eMakeK {c : Str} {g : List Da → Mo Da} {n1 k : Nat} {gD : List Da → List Da → List Da} : Wq (eMakeK c g n1 k gD al kl ro) st post ex ↔ Wq (al ro) st (kb (fun ds => bnd (kl ro) fun es => makeK c g n1 k gD ds es) post ex) ex := wq_bnd
@[simp] theorem wq_makeK {c : Str} {g : List Da → Mo Da} {n1 k : Nat} {gD : List Da → List Da → List Da} {ds es : List Da} (h : ds.length = n1 ∧ es.length = k) : Wq (makeK c g n1 k gD ds es) st post ex ↔ Wq (g (gD (.han st.length :: ds) es)) (st ++ [.ins c []]) (kb (fun r => bnd (isNon r) fun _ => ret (.han st.length)) post ex) ex := by
  rw [← wq_bnd]
  refine wq_iff.trans (Iff.trans ?_ (wq_iff (m := bnd (g (gD (Da.han st.length :: ds) es)) fun r => bnd (isNon r) fun _ => ret (Da.han st.length))).symm)
  unfold makeK Wp
  dsimp only
  rw [if_pos h]
  exact Iff.rfl
/-! comparing -/
theorem wq_eqI {neg : Bool} {d e : Da} {p q : PyData} (h1 : PyIs st d p) (h2 : PyIs st e q) : Wq (eqB neg d e) st post ex ↔ post (.bl (if neg then !PyData.eqv p q else PyData.eqv p q)) st := wq_iff.trans (wp_eqI h1 h2)
@[simp] theorem wq_eq {d e : Da} (h1 : pl 60 d = true) (h2 : pl 60 e = true) : Wq (eqB false d e) st post ex ↔ post (.bl (deq d e)) st := wq_iff.trans (wp_eq h1 h2)
@[simp] theorem wq_ne {d e : Da} (h1 : pl 60 d = true) (h2 : pl 60 e = true) : Wq (eqB true d e) st post ex ↔ post (.bl (!deq d e)) st := wq_iff.trans (wp_ne h1 h2)
@[simp] theorem wq_eq_i {i j : Int} : Wq (eqB false (.int i) (.int j)) st post ex ↔ post (.bl (decide (i = j))) st := wq_iff.trans (wp_eq_i)
@[simp] theorem wq_ne_i {i j : Int} : Wq (eqB true (.int i) (.int j)) st post ex ↔ post (.bl (!decide (i = j))) st := wq_iff.trans (wp_ne_i)
theorem wq_eq_hnil {neg : Bool} {n m : Nat} {xs : List Da} (hm : m ≤ 60) (h : st[n]? = some (.lst xs)) (hp : plL m xs = true) : Wq (eqB neg (.han n) (.lst [])) st post ex ↔ post (.bl (if neg then !decide (xs = []) else decide (xs = []))) st := wq_iff.trans (wp_eq_hnil hm h hp)
theorem wq_srcV_h {n : Nat} {xs : List Da} (h : st[n]? = some (.lst xs)) : Wq (srcV (.han n)) st postS ex ↔ postS ⟨xs, some n⟩ st := wq_iff.trans (wp_srcV_h h)
/-! loops -/
theorem wq_forI {all : List Da} {t : Tg} {body : Sl → Mo Fl} {xs : List Da} (I : Nat → Sl → Store → Prop) (h0 : I 0 ro st)
    (hs : ∀ (i : Nat) (x : Da) (ro : Sl) (st : Store), xs[i]? = some x → I i ro st → ∃ ro1, t x ro = some ro1 ∧ Wq (body ro1) st (loopP (I (i + 1)) postF) ex)
    (hd : ∀ ro st, I xs.length ro st → postF (.nx ro) st) : Wq (forGo none all t body xs ro) st postF ex := ⟨wp_forI I h0 (fun i x ro st h1 h2 => let ⟨r, a, b⟩ := hs i x ro st h1 h2; ⟨r, a, b.p⟩) hd⟩
theorem wq_forIh {n : Nat} {t : Tg} {body : Sl → Mo Fl} {xs : List Da} (I : Nat → Sl → Store → Prop) (h0 : I 0 ro st) (hk : ∀ i ro st, I i ro st → st[n]? = some (.lst xs))
    (hs : ∀ (i : Nat) (x : Da) (ro : Sl) (st : Store), xs[i]? = some x → I i ro st → ∃ ro1, t x ro = some ro1 ∧ Wq (body ro1) st (loopP (I (i + 1)) postF) ex)
    (hd : ∀ ro st, I xs.length ro st → postF (.nx ro) st) : Wq (forGo (some n) xs t body xs ro) st postF ex := ⟨wp_forIh I h0 hk (fun i x ro st h1 h2 => let ⟨r, a, b⟩ := hs i x ro st h1 h2; ⟨r, a, b.p⟩) hd⟩
theorem wq_whileI {body : Sl → Mo Fl} (I : Nat → Sl → Store → Prop) (hs : ∀ (k : Nat) (ro : Sl) (st : Store), I k ro st → Wq (p ro) st (fun c s1 => if c = true then Wq (body ro) s1 (loopP (fun ro' s2 => ∃ j, j < k ∧ I j ro' s2) postF) ex else postF (.nx ro) s1) ex)
    (fuel k : Nat) (hk : k < fuel) (h0 : I k ro st) : Wq (whileF p body fuel ro) st postF ex := ⟨wp_whileI I (fun k ro st h => (hs k ro st h).p.mono fun c s1 hc => by
    cases c with
    | true => rw [if_pos rfl] at hc ⊢; exact hc.p
    | false => rw [if_neg Bool.false_ne_true] at hc ⊢; exact hc) fuel k ro st hk h0⟩
theorem wq_compI {all : List Da} {t : Tg} {p : Sl → Mo Bool} {e : Sl → Mo Da} {xs : List Da} (I : Nat → List Da → Store → Prop) (h0 : I 0 [] st) (hl : ∀ i acc st, I i acc st → acc.length ≤ i) (hx : xs.length < 1000000)
    (hs : ∀ (i : Nat) (x : Da) (acc : List Da) (st : Store), xs[i]? = some x → I i acc st → ∃ ro1, t x ro = some ro1 ∧ Wq (p ro1) st (fun c s1 => if c = true then Wq (e ro1) s1 (fun y s2 => I (i + 1) (acc ++ [y]) s2) noEx else I (i + 1) acc s1) noEx)
    (hd : ∀ acc st, I xs.length acc st → postL acc st) : Wq (compGo none all t p e ro xs []) st postL ex := ⟨wp_compI I h0 hl hx (fun i x acc st h1 h2 => let ⟨r, a, b⟩ := hs i x acc st h1 h2; ⟨r, a, b.p.mono fun c s1 hc => by
    cases c with
    | true => rw [if_pos rfl] at hc ⊢; exact hc.p
    | false => rw [if_neg Bool.false_ne_true] at hc ⊢; exact hc⟩) hd⟩
theorem wq_compF {α : Type} {all : List Da} {t : Tg} {p : Sl → Mo Bool} {e : Sl → Mo Da} {rs : List α} {f g : α → Da} {P : α → Bool} (hx : rs.length < 1000000)
    (h : ∀ x ∈ rs, ∃ ro1, t (f x) ro = some ro1 ∧ Wq (p ro1) st (fun c s => c = P x ∧ s = st) noEx ∧ (P x = true → Wq (e ro1) st (fun d s => d = g x ∧ s = st) noEx))
    (hp : postL ((rs.filter P).map g) st) : Wq (compGo none all t p e ro (rs.map f) []) st postL ex := ⟨wp_compF hx (fun x hx => let ⟨r, a, b, c⟩ := h x hx; ⟨r, a, b.p, fun z => (c z).p⟩) hp⟩
/-- without a test -/
theorem wq_compM {α : Type} {all : List Da} {t : Tg} {e : Sl → Mo Da} {rs : List α} {f g : α → Da} (hx : rs.length < 1000000)
    (h : ∀ x ∈ rs, ∃ ro1, t (f x) ro = some ro1 ∧ Wq (e ro1) st (fun d s => d = g x ∧ s = st) noEx)
    (hp : postL (rs.map g) st) : Wq (compGo none all t tYes_ e ro (rs.map f) []) st postL ex := by
  refine wq_compF (P := fun _ => true) (g := g) hx (fun x hm => ?_) ?_
  · obtain ⟨ro1, h1, h2⟩ := h x hm
    exact ⟨ro1, h1, by simp, fun _ => h2⟩
  · rw [List.filter_eq_self.mpr (by simp)]
    exact hp
theorem wq_compFh {α : Type} {n : Nat} {t : Tg} {p : Sl → Mo Bool} {e : Sl → Mo Da} {rs : List α} {f g : α → Da} {P : α → Bool} (hn : st[n]? = some (.lst (rs.map f))) (hx : rs.length < 1000000)
    (h : ∀ x ∈ rs, ∃ ro1, t (f x) ro = some ro1 ∧ Wq (p ro1) st (fun c s => c = P x ∧ s = st) noEx ∧ (P x = true → Wq (e ro1) st (fun d s => d = g x ∧ s = st) noEx))
    (hp : postL ((rs.filter P).map g) st) : Wq (compGo (some n) (rs.map f) t p e ro (rs.map f) []) st postL ex := ⟨wp_compFh hn hx (fun x hx => let ⟨r, a, b, c⟩ := h x hx; ⟨r, a, b.p, fun z => (c z).p⟩) hp⟩
@[simp] theorem wq_comp_nil {all : List Da} {t : Tg} {p : Sl → Mo Bool} {e : Sl → Mo Da} {acc : List Da} : Wq (compGo none all t p e ro [] acc) st postL ex ↔ postL acc st := wq_iff
@[simp] theorem loopK_nx {go : Sl → Mo Fl} : loopK go (.nx ro) = go ro := rfl
@[simp] theorem loopK_ct {go : Sl → Mo Fl} : loopK go (.ct ro) = go ro := rfl
@[simp] theorem loopK_bk {go : Sl → Mo Fl} : loopK go (.bk ro) = ret (Fl.nx ro) := rfl
@[simp] theorem loopK_rt {go : Sl → Mo Fl} {d : Da} : loopK go (.rt d) = ret (Fl.rt d) := rfl
theorem wq_for_cons {all : List Da} {t : Tg} {body : Sl → Mo Fl} {x : Da} {r : List Da} {ro1 : Sl} (h : t x ro = some ro1) : Wq (forGo none all t body (x :: r) ro) st postF ex ↔ Wq (body ro1) st (kb (loopK (forGo none all t body r)) postF ex) ex := by
  rw [← wq_bnd]
  rw [wq_iff, wq_iff]
  show Wp (fun st => if chk none all st = true then (match t x ro with | some ro1 => bnd (body ro1) (loopK (forGo none all t body r)) st | none => .bad) else .bad) st postF ex ↔ _
  rw [h]
  exact Iff.rfl
@[simp] theorem wq_for_nil {all : List Da} {t : Tg} {body : Sl → Mo Fl} : Wq (forGo none all t body [] ro) st postF ex ↔ postF (.nx ro) st := wq_iff
end
end CL
namespace CL
open PySem L2
/-- the town of a law: its row and its count -/
def Tw (t r : Nat) (st : Store) : Prop := t ≠ r ∧ (∃ (k : Int) (rest : List Da), (rest = [] ∨ ∃ c : Int, rest = [.int c]) ∧ st[t]? = some (.lst (.han r :: .int k :: rest))) ∧ ∃ xs : List Int, xs ≠ [] ∧ st[r]? = some (.lst (xs.map .int))
/-- all but the town stays -/
def Kp (t r : Nat) (st st' : Store) : Prop := st.length ≤ st'.length ∧ ∀ n, n ≠ t → n ≠ r → n < st.length → st'[n]? = st[n]?
structure Dr (t r : Nat) (st st' : Store) : Prop where
  tw : Tw t r st'
  kp : Kp t r st st'
theorem Kp.trans {t r : Nat} {a b c : Store} (h : Kp t r a b) (k : Kp t r b c) : Kp t r a c :=
  ⟨Nat.le_trans h.1 k.1, fun n h1 h2 h3 => (k.2 n h1 h2 (Nat.lt_of_lt_of_le h3 h.1)).trans (h.2 n h1 h2 h3)⟩
theorem Dr.trans {t r : Nat} {a b c : Store} (h : Dr t r a b) (k : Dr t r b c) : Dr t r a c := ⟨k.tw, h.kp.trans k.kp⟩
theorem Dr.refl {t r : Nat} {a : Store} (h : Tw t r a) : Dr t r a a := ⟨h, Nat.le_refl _, fun _ _ _ _ => rfl⟩
theorem some_lt {st : Store} {n : Nat} {c : Cell} (h : st[n]? = some c) : n < st.length := by
  by_cases z : n < st.length
  · exact z
  · rw [List.getElem?_eq_none (by omega)] at h; cases h
theorem fmod_rng (i : Int) {m : Int} (h : 1 ≤ m) : 0 ≤ i.fmod m ∧ i.fmod m < m := ⟨Int.fmod_nonneg_of_pos _ (by omega), Int.fmod_lt_of_pos _ (by omega)⟩
theorem fdiv_nn {i m : Int} (h : 0 ≤ i) (hm : 1 ≤ m) : 0 ≤ i.fdiv m := Int.fdiv_nonneg h (by omega)
theorem atI_int {α : Type} {xs : List α} {i : Int} {v : α} (h0 : 0 ≤ i) (h : xs[i.toNat]? = some v) : atI xs i = some v := by
  have := atI_nat h
  rwa [Int.toNat_of_nonneg h0] at this
theorem ixN_int {n : Nat} {i : Int} (h0 : 0 ≤ i) (h : i < n) : ixN n i = some i.toNat := by
  unfold ixN
  rw [if_pos h0, if_pos h]
theorem draw_ok {t r : Nat} {st : Store} {m : Int} (h : Tw t r st) (h1 : 1 ≤ m) (h2 : m < 1073741824) :
    Wp (f__law_draw [.han t, .int m]) st (fun d st' => ∃ v, d = .int v ∧ 0 ≤ v ∧ v < m ∧ Dr t r st st') noEx := by
  obtain ⟨hne, ⟨k, rest, hrest, hk⟩, xs, hx, hr⟩ := h
  have hlt := some_lt hk
  have hrlt := some_lt hr
  obtain ⟨st1, hs1⟩ : ∃ st1, st1 = st.set t (.lst (.han r :: .int (k + 1) :: rest)) := ⟨_, rfl⟩
  have a1 : st1[t]? = some (.lst (.han r :: .int (k + 1) :: rest)) := by subst hs1; simp [hlt]
  have a2 : st1[r]? = some (.lst (xs.map .int)) := by subst hs1; rw [List.getElem?_set_ne hne]; exact hr
  have hpos : (1 : Int) ≤ xs.length := by
    cases xs with
    | nil => exact absurd rfl hx
    | cons x r => simp; omega
  obtain ⟨f0, f1⟩ := fmod_rng (k + 1) hpos
  generalize hat : (k + 1).fmod xs.length = at' at f0 f1
  have hj : at'.toNat < xs.length := by omega
  obtain ⟨c, hc⟩ : ∃ c, xs[at'.toNat]? = some c := ⟨_, List.getElem?_eq_getElem hj⟩
  have a3 : atI (xs.map Da.int) at' = some (.int c) := atI_int f0 (by rw [List.getElem?_map, hc]; rfl)
  have hl0 : (xs.length : Int) ≠ 0 := by omega
  have e1 : ∀ {post : Da → Store → Prop} {ex : Str → List Da → Store → Prop}, Wp (ixD (.han t) (.int 0)) st post ex ↔ post (.han r) st := wp_ix_h hk (atI_nat (j := 0) rfl)
  have e2 : ∀ {post : Da → Store → Prop} {ex : Str → List Da → Store → Prop}, Wp (ixD (.han t) (.int 1)) st post ex ↔ post (.int k) st := wp_ix_h hk (atI_nat (j := 1) rfl)
  have e3 : ∀ {post : Unit → Store → Prop} {ex : Str → List Da → Store → Prop}, Wp (setD (.han t) (.int 1) (.int (k + 1))) st post ex ↔ post () st1 := by subst hs1; exact wp_setD hk (j := 1) (ixN_int (n := (Da.han r :: Da.int k :: rest).length) (i := 1) (by decide) (by simp; omega))
  have e4 : ∀ {post : Da → Store → Prop} {ex : Str → List Da → Store → Prop}, Wp (ixD (.han t) (.int 1)) st1 post ex ↔ post (.int (k + 1)) st1 := wp_ix_h a1 (atI_nat (j := 1) rfl)
  have e5 : ∀ {post : Da → Store → Prop} {ex : Str → List Da → Store → Prop}, Wp (lenD (.han r)) st1 post ex ↔ post (.int xs.length) st1 := by
    intro post ex
    rw [wp_len (xs := xs.map .int) (by unfold sqOf lsOf; dsimp only; rw [a2]), List.length_map]
  have e6 : ∀ {post : Da → Store → Prop} {ex : Str → List Da → Store → Prop}, Wp (ixD (.han r) (.int at')) st1 post ex ↔ post (.int c) st1 := wp_ix_h a2 a3
  have e7 : ∀ {post : Unit → Store → Prop} {ex : Str → List Da → Store → Prop} {y : Da}, Wp (setD (.han r) (.int at') y) st1 post ex ↔ post () (st1.set r (.lst ((xs.map .int).set at'.toNat y))) := wp_setD a2 (ixN_int f0 (by simpa using f1))
  unfold f__law_draw m__law_draw
  simp [startS, e1, e2, e3, e4, e5, e6, e7, hat, hl0]
  refine ⟨hx, ?_⟩
  have kp1 : Kp t r st st1 := by
    subst hs1
    refine ⟨by simp, fun n h3 h4 _ => by rw [List.getElem?_set_ne (Ne.symm h3)]⟩
  split
  · refine ⟨⟨by omega, by omega⟩, by omega, (fmod_rng c h1).1, (fmod_rng c h1).2, ⟨hne, ⟨k + 1, rest, hrest, by rw [List.getElem?_set_ne (Ne.symm hne)]; exact a1⟩, xs.set at'.toNat (c.fdiv m), by simpa using hx, ?_⟩, by rw [List.length_set]; exact kp1.1, fun n h3 h4 h5 => by rw [List.getElem?_set_ne (Ne.symm h4)]; exact kp1.2 n h3 h4 h5⟩
    rw [List.getElem?_set_self (some_lt a2), List.map_set]
  · obtain ⟨g1, g2⟩ := fmod_rng (c + 104729 * (k + 1)) (show (1 : Int) ≤ 4294967291 by decide)
    refine ⟨.inl ⟨by decide, by decide⟩, ⟨by decide, by decide, by omega⟩, ⟨by decide, by decide⟩, .inr ⟨by decide, by decide⟩, ⟨by decide, by decide⟩, by omega, (fmod_rng _ h1).1, (fmod_rng _ h1).2, ⟨hne, ⟨k + 1, rest, hrest, a1⟩, xs, hx, a2⟩, kp1⟩
theorem atI_mem {α : Type} {xs : List α} {i : Int} (h0 : 0 ≤ i) (h : i < xs.length) : ∃ x, atI xs i = some x ∧ x ∈ xs := by
  have hl : i.toNat < xs.length := by omega
  exact ⟨_, atI_int h0 (List.getElem?_eq_getElem hl), List.getElem_mem hl⟩
theorem pick_ok {t r : Nat} {st : Store} {xs : List Da} (h : Tw t r st) (h1 : xs ≠ []) (h2 : xs.length < 1000000) :
    Wp (f__law_pick [.han t, .lst xs]) st (fun d st' => d ∈ xs ∧ Dr t r st st') noEx := by
  have h3 : 1 ≤ xs.length := by
    cases xs with
    | nil => exact absurd rfl h1
    | cons x r => simp
  unfold f__law_pick m__law_pick
  simp [startS]
  refine (draw_ok h (by omega) (by omega)).mono fun d st' ⟨v, e, v0, v1, hd⟩ => ?_
  subst e
  obtain ⟨x, hx, hm⟩ := atI_mem v0 v1
  rw [wp_ix_l hx]
  exact ⟨hm, hd⟩
theorem new_at (st : Store) (c : Cell) : (st ++ [c])[st.length]? = some c := by simp
theorem old_at {st : Store} {c d : Cell} {n : Nat} (h : st[n]? = some d) : (st ++ [c])[n]? = some d := by
  rw [List.getElem?_append_left (some_lt h)]; exact h
theorem Tw.push {t r : Nat} {st : Store} {c : Cell} (h : Tw t r st) : Tw t r (st ++ [c]) := by
  obtain ⟨hne, ⟨k, rest, hrest, hk⟩, xs, hx, hr⟩ := h
  exact ⟨hne, ⟨k, rest, hrest, old_at hk⟩, xs, hx, old_at hr⟩
theorem Dr.push {t r : Nat} {st st' : Store} {c : Cell} (h : Dr t r st st') : Dr t r st (st' ++ [c]) :=
  ⟨h.tw.push, by simp; have := h.kp.1; omega, fun n h1 h2 h3 => by
    rw [List.getElem?_append_left (Nat.lt_of_lt_of_le h3 h.kp.1)]
    exact h.kp.2 n h1 h2 h3⟩
theorem Tw.set {t r n : Nat} {st : Store} {c : Cell} (h : Tw t r st) (h1 : n ≠ t) (h2 : n ≠ r) : Tw t r (st.set n c) := by
  obtain ⟨hne, ⟨k, rest, hrest, hk⟩, xs, hx, hr⟩ := h
  exact ⟨hne, ⟨k, rest, hrest, by rw [List.getElem?_set_ne h1]; exact hk⟩, xs, hx, by rw [List.getElem?_set_ne h2]; exact hr⟩
theorem Tw.lt {t r : Nat} {st : Store} (h : Tw t r st) : t < st.length ∧ r < st.length := by
  obtain ⟨hne, ⟨k, rest, hrest, hk⟩, xs, hx, hr⟩ := h
  exact ⟨some_lt hk, some_lt hr⟩
/-- a cell of one's own, beyond the store one began with -/
theorem Dr.set {t r n : Nat} {st st' : Store} {c : Cell} (h : Dr t r st st') (hn : st.length ≤ n) (ht : Tw t r st) : Dr t r st (st'.set n c) := by
  have := ht.lt
  exact ⟨h.tw.set (by omega) (by omega), by rw [List.length_set]; exact h.kp.1, fun m h1 h2 h3 => by
    rw [List.getElem?_set_ne (by omega)]
    exact h.kp.2 m h1 h2 h3⟩
theorem Dr.at {t r n : Nat} {st st' : Store} {c : Cell} (h : Dr t r st st') (hn : st[n]? = some c) (h1 : n ≠ t) (h2 : n ≠ r) : st'[n]? = some c := by
  rw [h.kp.2 n h1 h2 (some_lt hn)]; exact hn
theorem town_ok (ns : List Int) : Wp (f__law_town [.fro (ns.map Da.int)]) [] (fun d st' => d = .han 1 ∧ Tw 1 0 st') noEx := by
  unfold f__law_town m__law_town
  simp [startS]
  rw [wp_ne (by simp [pl, plL_ints]) (by simp [pl, plL])]
  simp
  rw [deqL_ne]
  by_cases h : ns = []
  · subst h
    simp
    exact ⟨by decide, ⟨0, [], .inl rfl, rfl⟩, [0], by simp, rfl⟩
  · simp [h]
    exact ⟨by decide, ⟨0, [], .inl rfl, rfl⟩, ns, h, rfl⟩
end CL
namespace CL
open PySem L2
/-! ### programs: their parts, as data -/
inductive Sg where
  | add | sub | mul | div
  deriving DecidableEq
def Sg.str : Sg → String
  | .add => "+"
  | .sub => "-"
  | .mul => "*"
  | .div => "/"
inductive Ex where
  | num (n : Int) | box (k : Nat) | op (s : Sg) (a b : Ex)
def Ex.da : Ex → Da
  | .num n => .int n
  | .box k => .tup [.str "box", .int k]
  | .op s a b => .tup [.str (Str.ofString s.str), a.da, b.da]
mutual
inductive Rw where
  | set (b : Nat) (e : Ex) | out (e : Ex) | thr (k : Nat) (e : Ex) | call (b g : Nat) (es : List Ex) | ifs (e : Ex) (a b : Bd) | loop (n : Nat) (a : Bd) | brk | ret (e : Ex) | tri (a : Bd) (hs : Hs) (l : Lo)
inductive Bd where
  | nil | cons (r : Rw) (b : Bd)
inductive Hs where
  | nil | cons (k : Option Nat) (b : Nat) (a : Bd) (h : Hs)
inductive Lo where
  | non | som (a : Bd)
end
def onD : Option Nat → Da
  | none => .non
  | some k => .int k
mutual
def Rw.da : Rw → Da
  | .set b e => .tup [.str "set", .int b, e.da]
  | .out e => .tup [.str "out", e.da]
  | .thr k e => .tup [.str "throw", .int k, e.da]
  | .call b g es => .tup [.str "call", .int b, .int g, .lst (es.map Ex.da)]
  | .ifs e a b => .tup [.str "if", e.da, .lst a.da, .lst b.da]
  | .loop n a => .tup [.str "loop", .int n, .lst a.da]
  | .brk => .tup [.str "break"]
  | .ret e => .tup [.str "return", e.da]
  | .tri a hs l => .tup [.str "try", .lst a.da, .lst hs.da, l.da]
def Bd.da : Bd → List Da
  | .nil => []
  | .cons r b => r.da :: b.da
def Hs.da : Hs → List Da
  | .nil => []
  | .cons k b a h => .tup [onD k, .int b, .lst a.da] :: h.da
def Lo.da : Lo → Da
  | .non => .non
  | .som a => .lst a.da
end
/-- a function: how many parameters, its body -/
abbrev Fn := Nat × Bd
def Fn.da (f : Fn) : Da := .tup [.int f.1, .lst f.2.da]
abbrev Pg := List Fn
def Pg.da (p : Pg) : Da := .lst (p.map Fn.da)
def Bd.len : Bd → Nat
  | .nil => 0
  | .cons _ b => b.len + 1
def Hs.len : Hs → Nat
  | .nil => 0
  | .cons _ _ _ h => h.len + 1
theorem Bd.da_len : ∀ b : Bd, b.da.length = b.len
  | .nil => rfl
  | .cons r b => by simp [Bd.da, Bd.len, Bd.da_len b]
theorem Hs.da_len : ∀ b : Hs, b.da.length = b.len
  | .nil => rfl
  | .cons k b a h => by simp [Hs.da, Hs.len, Hs.da_len h]
/-! ### what they mean -/
inductive Ed where
  | on | brk | ret (v : Int) | thr (k : Nat) (v : Int)
  deriving DecidableEq
def Ed.da : Ed → Da
  | .on => .tup [.str "on"]
  | .brk => .tup [.str "break"]
  | .ret v => .tup [.str "return", .int v]
  | .thr k v => .tup [.str "throw", .int k, .int v]
@[simp] theorem ed_on : Ed.da .on = .tup [.str "on"] := rfl
@[simp] theorem ed_brk : Ed.da .brk = .tup [.str "break"] := rfl
@[simp] theorem ed_ret {v : Int} : Ed.da (.ret v) = .tup [.str "return", .int v] := rfl
@[simp] theorem ed_thr {k : Nat} {v : Int} : Ed.da (.thr k v) = .tup [.str "throw", .int k, .int v] := rfl
inductive Vl where
  | ok (v : Int) | flt (v : Int)
def Vl.da : Vl → Da
  | .ok v => .tup [.str "on", .int v]
  | .flt v => .tup [.str "throw", .int 0, .int v]
@[simp] theorem vl_ok {v : Int} : Vl.da (.ok v) = .tup [.str "on", .int v] := rfl
@[simp] theorem vl_flt {v : Int} : Vl.da (.flt v) = .tup [.str "throw", .int 0, .int v] := rfl
def rk : Sg → Int → Int → Option Int
  | .add, a, b => some ((a + b) % 1000)
  | .sub, a, b => some ((a - b) % 1000)
  | .mul, a, b => some (a * b % 1000)
  | .div, a, b => if b = 0 then none else some (a / b)
def Ex.ev (bx : List Int) : Ex → Vl
  | .num n => .ok n
  | .box k => .ok (bx.getD k 0)
  | .op s a b => match a.ev bx with
    | .flt v => .flt v
    | .ok x => match b.ev bx with
      | .flt v => .flt v
      | .ok y => match rk s x y with
        | some z => .ok z
        | none => .flt x
/-- expressions one behind another: their numbers, or the first fault -/
def evs (bx : List Int) : List Ex → List Int × Option Int
  | [] => ([], none)
  | e :: es => match e.ev bx with
    | .flt v => ([], some v)
    | .ok x => ((x :: (evs bx es).1), (evs bx es).2)
structure Sx where
  bx : List Int
  told : List Int
  cnt : Nat
abbrev Cl := Nat → List Int → List Int → Nat → Ed × List Int × Nat
def loopN (f : Sx → Ed × Sx) : Nat → Sx → Ed × Sx
  | 0, s => (.on, s)
  | n + 1, s => match f s with
    | (.on, s') => loopN f n s'
    | (.brk, s') => (.on, s')
    | (e, s') => (e, s')
mutual
def Rw.ev (cal : Cl) : Rw → Sx → Ed × Sx
  | .set b e, s => match e.ev s.bx with
    | .ok v => (.on, ⟨s.bx.set b v, s.told, s.cnt⟩)
    | .flt v => (.thr 0 v, s)
  | .out e, s => match e.ev s.bx with
    | .ok v => (.on, ⟨s.bx, s.told ++ [v], s.cnt⟩)
    | .flt v => (.thr 0 v, s)
  | .thr k e, s => match e.ev s.bx with
    | .ok v => (.thr k v, s)
    | .flt v => (.thr 0 v, s)
  | .call b g es, s => match (evs s.bx es).2 with
    | some v => (.thr 0 v, s)
    | none => match cal g (evs s.bx es).1 s.told s.cnt with
      | (.ret v, t, c) => (.on, ⟨s.bx.set b v, t, c⟩)
      | (e, t, c) => (e, ⟨s.bx, t, c⟩)
  | .ifs e a b, s => match e.ev s.bx with
    | .ok v => if v ≠ 0 then a.ev cal s else b.ev cal s
    | .flt v => (.thr 0 v, s)
  | .loop n a, s => loopN (fun s => a.ev cal s) n s
  | .brk, s => (.brk, s)
  | .ret e, s => match e.ev s.bx with
    | .ok v => (.ret v, s)
    | .flt v => (.thr 0 v, s)
  | .tri a hs l, s => l.ev cal (hs.ev cal (a.ev cal s))
def Bd.ev (cal : Cl) : Bd → Sx → Ed × Sx
  | .nil, s => (.on, s)
  | .cons r b, s => match r.ev cal ⟨s.bx, s.told, s.cnt + 1⟩ with
    | (.on, s') => b.ev cal s'
    | (e, s') => (e, s')
def Hs.ev (cal : Cl) : Hs → Ed × Sx → Ed × Sx
  | .nil, x => x
  | .cons k b a h, x => match x.1 with
    | .thr j v => if k = none ∨ k = some j then a.ev cal ⟨x.2.bx.set b v, x.2.told, x.2.cnt⟩ else h.ev cal x
    | _ => x
def Lo.ev (cal : Cl) : Lo → Ed × Sx → Ed × Sx
  | .non, x => x
  | .som a, x => match a.ev cal x.2 with
    | (.on, s') => (x.1, s')
    | (e, s') => (e, s')
end
def fnE2 : Ed → Ed
  | .on => .ret 0
  | e => e
def box8 (args : List Int) : List Int := args ++ List.replicate (8 - args.length) 0
def fnEv (P : Pg) : Nat → Cl
  | 0, _, _, told, cnt => (.ret 0, told, cnt)
  | k + 1, g, args, told, cnt => match P[g]? with
    | some f => (fnE2 (f.2.ev (fnEv P k) ⟨box8 args, told, cnt⟩).1, (f.2.ev (fnEv P k) ⟨box8 args, told, cnt⟩).2.told, (f.2.ev (fnEv P k) ⟨box8 args, told, cnt⟩).2.cnt)
    | none => (.ret 0, told, cnt)
/-! ### what holds of all -/
/-- from s to s': more told (no more than counted, and j), more counted, as many boxes -/
structure Le (j : Nat) (s s' : Sx) : Prop where
  cnt : s.cnt ≤ s'.cnt
  told : ∃ x, s'.told = s.told ++ x ∧ x.length ≤ s'.cnt - s.cnt + j
  len : s'.bx.length = s.bx.length
theorem Le.refl (s : Sx) : Le 0 s s := ⟨Nat.le_refl _, ⟨[], by simp⟩, rfl⟩
theorem Le.more {i j : Nat} {a b : Sx} (x : Le i a b) (h : i ≤ j) : Le j a b := by
  obtain ⟨t1, e1, l1⟩ := x.told
  exact ⟨x.cnt, ⟨t1, e1, by omega⟩, x.len⟩
theorem Le.trans {i j : Nat} {a b c : Sx} (x : Le i a b) (y : Le j b c) : Le (i + j) a c := by
  obtain ⟨t1, e1, l1⟩ := x.told
  obtain ⟨t2, e2, l2⟩ := y.told
  have h1 := x.cnt
  have h2 := y.cnt
  exact ⟨by omega, ⟨t1 ++ t2, by rw [e2, e1, List.append_assoc], by rw [List.length_append]; omega⟩, y.len.trans x.len⟩
theorem Le.box {j : Nat} {a b : Sx} {k : Nat} {v : Int} (x : Le j a b) : Le j a ⟨b.bx.set k v, b.told, b.cnt⟩ := ⟨x.cnt, x.told, by simpa using x.len⟩
def ClLe (cal : Cl) : Prop := ∀ g a t c, c ≤ (cal g a t c).2.2 ∧ ∃ x, (cal g a t c).2.1 = t ++ x ∧ x.length ≤ (cal g a t c).2.2 - c
theorem loopN_le {f : Sx → Ed × Sx} (h : ∀ s, Le 0 s (f s).2) : ∀ (n : Nat) (s : Sx), Le 0 s (loopN f n s).2
  | 0, s => Le.refl s
  | n + 1, s => by
    unfold loopN
    have h1 := h s
    split
    · rename_i s' e; rw [e] at h1; exact h1.trans (loopN_le h n s')
    · rename_i s' e; rw [e] at h1; exact h1
    · rename_i e' s' _ _ e; rw [e] at h1; exact h1
mutual
theorem Rw.le {cal : Cl} (hc : ClLe cal) : ∀ (r : Rw) (s : Sx), Le 1 s (r.ev cal s).2
  | .set b e, s => by
    unfold Rw.ev
    split
    · exact ((Le.refl s).more (by omega)).box
    · exact (Le.refl s).more (by omega)
  | .out e, s => by
    unfold Rw.ev
    split
    · exact ⟨Nat.le_refl _, ⟨[_], rfl, by simp⟩, rfl⟩
    · exact (Le.refl s).more (by omega)
  | .thr k e, s => by unfold Rw.ev; split <;> exact (Le.refl s).more (by omega)
  | .call b g es, s => by
    unfold Rw.ev
    split
    · exact (Le.refl s).more (by omega)
    · have h := hc g (evs s.bx es).1 s.told s.cnt
      split
      · rename_i v t c e
        rw [e] at h
        obtain ⟨h1, x, h2, h3⟩ := h
        exact ⟨h1, ⟨x, h2, by simp at h3 ⊢; omega⟩, by simp⟩
      · rename_i e' t c _ e
        rw [e] at h
        obtain ⟨h1, x, h2, h3⟩ := h
        exact ⟨h1, ⟨x, h2, by simp at h3 ⊢; omega⟩, rfl⟩
  | .ifs e a b, s => by
    unfold Rw.ev
    split
    · split
      · exact (Bd.le hc a s).more (by omega)
      · exact (Bd.le hc b s).more (by omega)
    · exact (Le.refl s).more (by omega)
  | .loop n a, s => by unfold Rw.ev; exact (loopN_le (fun s => Bd.le hc a s) n s).more (by omega)
  | .brk, s => by unfold Rw.ev; exact (Le.refl s).more (by omega)
  | .ret e, s => by unfold Rw.ev; split <;> exact (Le.refl s).more (by omega)
  | .tri a hs l, s => by
    unfold Rw.ev
    exact (((Bd.le hc a s).trans (Hs.le hc hs (a.ev cal s))).trans (Lo.le hc l (hs.ev cal (a.ev cal s)))).more (by omega)
theorem Bd.le {cal : Cl} (hc : ClLe cal) : ∀ (r : Bd) (s : Sx), Le 0 s (r.ev cal s).2
  | .nil, s => by unfold Bd.ev; exact Le.refl s
  | .cons r b, s => by
    unfold Bd.ev
    have h := Rw.le hc r ⟨s.bx, s.told, s.cnt + 1⟩
    have h' : Le 0 s (r.ev cal ⟨s.bx, s.told, s.cnt + 1⟩).2 := by
      obtain ⟨x, h1, h2⟩ := h.told
      have := h.cnt
      exact ⟨by simp at this; omega, ⟨x, h1, by simp at h2 this ⊢; omega⟩, h.len⟩
    split
    · rename_i s' e
      rw [e] at h'
      exact h'.trans (Bd.le hc b s')
    · rename_i e' s' _ e
      rw [e] at h'
      exact h'
theorem Hs.le {cal : Cl} (hc : ClLe cal) : ∀ (h : Hs) (x : Ed × Sx), Le 0 x.2 (h.ev cal x).2
  | .nil, x => by unfold Hs.ev; exact Le.refl _
  | .cons k b a h, x => by
    unfold Hs.ev
    split
    · split
      · exact ((Le.refl x.2).box (k := b)).trans (Bd.le hc a _)
      · exact Hs.le hc h x
    · exact Le.refl _
theorem Lo.le {cal : Cl} (hc : ClLe cal) : ∀ (l : Lo) (x : Ed × Sx), Le 0 x.2 (l.ev cal x).2
  | .non, x => by unfold Lo.ev; exact Le.refl _
  | .som a, x => by
    unfold Lo.ev
    have h := Bd.le hc a x.2
    split
    · rename_i s' e; rw [e] at h; exact h
    · rename_i e' s' _ e; rw [e] at h; exact h
end
theorem fnEv_le (P : Pg) : ∀ k, ClLe (fnEv P k)
  | 0 => fun g a t c => ⟨Nat.le_refl _, [], by simp [fnEv]⟩
  | k + 1 => fun g a t c => by
    unfold fnEv
    split
    · rename_i f e
      have h := Bd.le (fnEv_le P k) f.2 ⟨box8 a, t, c⟩
      obtain ⟨x, h1, h2⟩ := h.told
      exact ⟨h.cnt, x, h1, by simpa using h2⟩
    · exact ⟨Nat.le_refl _, [], by simp⟩
end CL
namespace CL
open PySem L2
/-! ### what is a program -/
abbrev Rg (v : Int) : Prop := 0 ≤ v ∧ v ≤ 999
def Ex.ok : Nat → Ex → Prop
  | d, .num n => d ≤ 6 ∧ Rg n
  | d, .box k => d ≤ 6 ∧ k < 8
  | d, .op _ a b => d ≤ 6 ∧ a.ok (d + 1) ∧ b.ok (d + 1)
mutual
def Rw.ok (ix : Nat) (many : List Nat) : Nat → Bool → Rw → Prop
  | _, _, .set b e => b < 8 ∧ e.ok 0
  | _, _, .out e => e.ok 0
  | _, _, .thr k e => (1 ≤ k ∧ k ≤ 4) ∧ e.ok 0
  | _, _, .call b g es => b < 8 ∧ ix < g ∧ many[g]? = some es.length ∧ ∀ e ∈ es, e.ok 0
  | d, lp, .ifs e a b => e.ok 0 ∧ (d + 1 ≤ 6 ∧ a.len ≤ 8 ∧ a.rows ix many (d + 1) lp) ∧ (b.len ≤ 8 ∧ b.rows ix many (d + 1) lp)
  | d, _, .loop n a => (1 ≤ n ∧ n ≤ 4) ∧ d + 1 ≤ 6 ∧ a.len ≤ 8 ∧ a.rows ix many (d + 1) true
  | _, lp, .brk => lp = true
  | _, _, .ret e => e.ok 0
  | d, lp, .tri a hs l => (d + 1 ≤ 6 ∧ a.len ≤ 8 ∧ a.rows ix many (d + 1) lp) ∧ (hs.len ≤ 4 ∧ hs.ok ix many (d + 1) lp) ∧ l.ok ix many (d + 1) lp
def Bd.rows (ix : Nat) (many : List Nat) : Nat → Bool → Bd → Prop
  | _, _, .nil => True
  | d, lp, .cons r b => r.ok ix many d lp ∧ b.rows ix many d lp
def Hs.ok (ix : Nat) (many : List Nat) : Nat → Bool → Hs → Prop
  | _, _, .nil => True
  | d, lp, .cons k b a h => (∀ j, k = some j → j < 5) ∧ b < 8 ∧ (a.len ≤ 8 ∧ a.rows ix many d lp) ∧ h.ok ix many d lp
def Lo.ok (ix : Nat) (many : List Nat) : Nat → Bool → Lo → Prop
  | _, _, .non => True
  | d, lp, .som a => a.len ≤ 8 ∧ a.rows ix many d lp
end
structure Bd.ok (ix : Nat) (many : List Nat) (d : Nat) (lp : Bool) (b : Bd) : Prop where
  dp : d ≤ 6
  len : b.len ≤ 8
  rows : b.rows ix many d lp
structure Pg.ok (P : Pg) : Prop where
  l1 : 1 ≤ P.length
  l5 : P.length ≤ 5
  par : ∀ f ∈ P, f.1 ≤ 3
  fst : ∀ f, P[0]? = some f → f.1 = 0
  bod : ∀ (k : Nat) (f : Fn), P[k]? = some f → f.2.ok k (P.map (·.1)) 0 false
/-! ### numbers stay within 0 .. 999 -/
structure Sx.ok (s : Sx) : Prop where
  len : s.bx.length = 8
  rg : ∀ v ∈ s.bx, Rg v
def Vl.fine : Vl → Prop
  | .ok v => Rg v
  | .flt v => Rg v
def Ed.ok (lp : Bool) : Ed → Prop
  | .on => True
  | .brk => lp = true
  | .ret v => Rg v
  | .thr k v => k < 5 ∧ Rg v
theorem rk_rg {s : Sg} {a b z : Int} (ha : Rg a) (hb : Rg b) (h : rk s a b = some z) : Rg z := by
  cases s with
  | add => simp [rk] at h; constructor <;> omega
  | sub => simp [rk] at h; constructor <;> omega
  | mul => simp [rk] at h; constructor <;> omega
  | div =>
    have h' : (if b = 0 then none else some (a / b)) = some z := h
    split at h'
    · cases h'
    · cases h'
      exact ⟨Int.ediv_nonneg ha.1 hb.1, Int.le_trans (Int.ediv_le_self _ ha.1) ha.2⟩
theorem getD_rg {bx : List Int} {k : Nat} (hk : k < bx.length) (h : ∀ v ∈ bx, Rg v) : Rg (bx.getD k 0) := by
  rw [List.getD_eq_getElem?_getD, List.getElem?_eq_getElem hk]
  exact h _ (List.getElem_mem hk)
theorem Ex.ev_ok {bx : List Int} (hl : bx.length = 8) (hb : ∀ v ∈ bx, Rg v) : ∀ (e : Ex) (d : Nat), e.ok d → (e.ev bx).fine
  | .num n, d, h => h.2
  | .box k, d, h => getD_rg (by have := h.2; omega) hb
  | .op s a b, d, h => by
    have h1 := Ex.ev_ok hl hb a (d + 1) h.2.1
    have h2 := Ex.ev_ok hl hb b (d + 1) h.2.2
    unfold Ex.ev
    split
    · rename_i v e; rw [e] at h1; exact h1
    · rename_i x e
      rw [e] at h1
      split
      · rename_i v e2; rw [e2] at h2; exact h2
      · rename_i y e2
        rw [e2] at h2
        split
        · rename_i z e3; exact rk_rg h1 h2 e3
        · exact h1
theorem evs_ok {bx : List Int} (hl : bx.length = 8) (hb : ∀ v ∈ bx, Rg v) : ∀ (es : List Ex), (∀ e ∈ es, e.ok 0) → (∀ v ∈ (evs bx es).1, Rg v) ∧ (∀ v, (evs bx es).2 = some v → Rg v) ∧ ((evs bx es).2 = none → (evs bx es).1.length = es.length)
  | [], _ => ⟨by simp [evs], by simp [evs], by simp [evs]⟩
  | e :: es, h => by
    have h1 := Ex.ev_ok hl hb e 0 (h e (by simp))
    obtain ⟨h2, h3, h4⟩ := evs_ok hl hb es fun x hx => h x (List.mem_cons_of_mem _ hx)
    unfold evs
    split
    · rename_i v q
      rw [q] at h1
      exact ⟨by simp, fun z hz => by cases hz; exact h1, by simp⟩
    · rename_i x q
      rw [q] at h1
      refine ⟨fun z hz => ?_, h3, fun hz => by simp [h4 hz]⟩
      rcases List.mem_cons.mp hz with rfl | hz
      · exact h1
      · exact h2 z hz
theorem Sx.ok.set {s : Sx} {b : Nat} {v : Int} {t : List Int} {c : Nat} (h : s.ok) (hv : Rg v) : Sx.ok ⟨s.bx.set b v, t, c⟩ :=
  ⟨by simpa using h.len, fun z hz => by
    rcases List.mem_or_eq_of_mem_set hz with hz | rfl
    · exact h.rg z hz
    · exact hv⟩
theorem Sx.ok.same {s : Sx} {t : List Int} {c : Nat} (h : s.ok) : Sx.ok ⟨s.bx, t, c⟩ := ⟨h.len, h.rg⟩
/-- calls of functions beyond ix that have as many parameters as told -/
def ClOk (ix : Nat) (many : List Nat) (cal : Cl) : Prop := ∀ g a t c, ix < g → many[g]? = some a.length → (∀ v ∈ a, Rg v) → Ed.ok false (cal g a t c).1 ∧ (cal g a t c).1 ≠ .on
theorem loopN_ok {f : Sx → Ed × Sx} {lp : Bool} (h : ∀ s, s.ok → Ed.ok true (f s).1 ∧ (f s).2.ok) : ∀ (n : Nat) (s : Sx), s.ok → Ed.ok lp (loopN f n s).1 ∧ (loopN f n s).2.ok
  | 0, s, hs => ⟨trivial, hs⟩
  | n + 1, s, hs => by
    unfold loopN
    have h1 := h s hs
    split
    · rename_i s' e; rw [e] at h1; exact loopN_ok h n s' h1.2
    · rename_i s' e; rw [e] at h1; exact ⟨trivial, h1.2⟩
    · rename_i e' s' n1 n2 e
      rw [e] at h1
      refine ⟨?_, h1.2⟩
      cases e' with
      | on => trivial
      | brk => exact absurd rfl n2
      | ret v => exact h1.1
      | thr k v => exact h1.1
mutual
theorem Rw.ev_ok {ix : Nat} {many : List Nat} {cal : Cl} (hc : ClOk ix many cal) : ∀ (r : Rw) (d : Nat) (lp : Bool) (s : Sx), r.ok ix many d lp → s.ok → Ed.ok lp (r.ev cal s).1 ∧ (r.ev cal s).2.ok
  | .set b e, d, lp, s, h, hs => by
    have h1 := Ex.ev_ok hs.len hs.rg e 0 h.2
    unfold Rw.ev
    split
    · rename_i v q; rw [q] at h1; exact ⟨trivial, hs.set h1⟩
    · rename_i v q; rw [q] at h1; exact ⟨⟨by decide, h1⟩, hs⟩
  | .out e, d, lp, s, h, hs => by
    have h1 := Ex.ev_ok hs.len hs.rg e 0 h
    unfold Rw.ev
    split
    · exact ⟨trivial, hs.same⟩
    · rename_i v q; rw [q] at h1; exact ⟨⟨by decide, h1⟩, hs⟩
  | .thr k e, d, lp, s, h, hs => by
    have h1 := Ex.ev_ok hs.len hs.rg e 0 h.2
    unfold Rw.ev
    split
    · rename_i v q; rw [q] at h1; exact ⟨⟨by have := h.1; omega, h1⟩, hs⟩
    · rename_i v q; rw [q] at h1; exact ⟨⟨by decide, h1⟩, hs⟩
  | .call b g es, d, lp, s, h, hs => by
    obtain ⟨h1, h2, h3, h4⟩ := h
    obtain ⟨k1, k2, k3⟩ := evs_ok hs.len hs.rg es h4
    unfold Rw.ev
    split
    · rename_i v q; exact ⟨⟨by decide, k2 v q⟩, hs⟩
    · rename_i q
      have hh := hc g (evs s.bx es).1 s.told s.cnt h2 (by rw [k3 q]; exact h3) k1
      split
      · rename_i v t c e
        rw [e] at hh
        exact ⟨trivial, hs.set hh.1⟩
      · rename_i e' t c _ e
        rw [e] at hh
        refine ⟨?_, hs.same⟩
        cases e' with
        | on => trivial
        | brk => exact nomatch hh.1
        | ret v => exact hh.1
        | thr k v => exact hh.1
  | .ifs e a b, d, lp, s, h, hs => by
    have h1 := Ex.ev_ok hs.len hs.rg e 0 h.1
    unfold Rw.ev
    split
    · split
      · exact Bd.ev_ok hc a (d + 1) lp s h.2.1.2.2 hs
      · exact Bd.ev_ok hc b (d + 1) lp s h.2.2.2 hs
    · rename_i v q; rw [q] at h1; exact ⟨⟨by decide, h1⟩, hs⟩
  | .loop n a, d, lp, s, h, hs => by
    unfold Rw.ev
    exact loopN_ok (fun s hs => Bd.ev_ok hc a (d + 1) true s h.2.2.2 hs) n s hs
  | .brk, d, lp, s, h, hs => by unfold Rw.ev; exact ⟨h, hs⟩
  | .ret e, d, lp, s, h, hs => by
    have h1 := Ex.ev_ok hs.len hs.rg e 0 h
    unfold Rw.ev
    split
    · rename_i v q; rw [q] at h1; exact ⟨h1, hs⟩
    · rename_i v q; rw [q] at h1; exact ⟨⟨by decide, h1⟩, hs⟩
  | .tri a hs l, d, lp, s, h, hs' => by
    unfold Rw.ev
    have h1 := Bd.ev_ok hc a (d + 1) lp s h.1.2.2 hs'
    have h2 := Hs.ev_ok hc hs (d + 1) lp _ h.2.1.2 h1.1 h1.2
    exact Lo.ev_ok hc l (d + 1) lp _ h.2.2 h2.1 h2.2
theorem Bd.ev_ok {ix : Nat} {many : List Nat} {cal : Cl} (hc : ClOk ix many cal) : ∀ (r : Bd) (d : Nat) (lp : Bool) (s : Sx), r.rows ix many d lp → s.ok → Ed.ok lp (r.ev cal s).1 ∧ (r.ev cal s).2.ok
  | .nil, d, lp, s, h, hs => by unfold Bd.ev; exact ⟨trivial, hs⟩
  | .cons r b, d, lp, s, h, hs => by
    unfold Bd.ev
    have h1 := Rw.ev_ok hc r d lp ⟨s.bx, s.told, s.cnt + 1⟩ h.1 hs.same
    split
    · rename_i s' e; rw [e] at h1; exact Bd.ev_ok hc b d lp s' h.2 h1.2
    · rename_i e' s' _ e; rw [e] at h1; exact h1
theorem Hs.ev_ok {ix : Nat} {many : List Nat} {cal : Cl} (hc : ClOk ix many cal) : ∀ (r : Hs) (d : Nat) (lp : Bool) (x : Ed × Sx), r.ok ix many d lp → Ed.ok lp x.1 → x.2.ok → Ed.ok lp (r.ev cal x).1 ∧ (r.ev cal x).2.ok
  | .nil, d, lp, x, h, h1, h2 => by unfold Hs.ev; exact ⟨h1, h2⟩
  | .cons k b a h, d, lp, x, hh, h1, h2 => by
    unfold Hs.ev
    split
    · rename_i j v e
      split
      · rw [e] at h1
        exact Bd.ev_ok hc a d lp _ hh.2.2.1.2 (h2.set h1.2)
      · exact Hs.ev_ok hc h d lp x hh.2.2.2 h1 h2
    · exact ⟨h1, h2⟩
theorem Lo.ev_ok {ix : Nat} {many : List Nat} {cal : Cl} (hc : ClOk ix many cal) : ∀ (r : Lo) (d : Nat) (lp : Bool) (x : Ed × Sx), r.ok ix many d lp → Ed.ok lp x.1 → x.2.ok → Ed.ok lp (r.ev cal x).1 ∧ (r.ev cal x).2.ok
  | .non, d, lp, x, h, h1, h2 => by unfold Lo.ev; exact ⟨h1, h2⟩
  | .som a, d, lp, x, h, h1, h2 => by
    unfold Lo.ev
    have h3 := Bd.ev_ok hc a d lp x.2 h.2 h2
    split
    · rename_i s' e; rw [e] at h3; exact ⟨h1, h3.2⟩
    · rename_i e' s' _ e; rw [e] at h3; exact h3
end
theorem box8_ok {a t : List Int} {c : Nat} (hl : a.length ≤ 8) (h : ∀ v ∈ a, Rg v) : Sx.ok ⟨box8 a, t, c⟩ :=
  ⟨by simp [box8]; omega, fun v hv => by
    rcases List.mem_append.mp hv with hv | hv
    · exact h v hv
    · rw [List.eq_of_mem_replicate hv]; decide⟩
theorem fnEv_ok {P : Pg} (hP : P.ok) : ∀ (k ix : Nat), P.length ≤ k + ix + 1 → ClOk ix (P.map (·.1)) (fnEv P k)
  | 0, ix, hk => fun g a t c h1 h2 h3 => by
    have : g < P.length := by
      obtain ⟨h, _⟩ := List.getElem?_eq_some_iff.mp h2
      simpa using h
    omega
  | k + 1, ix, hk => fun g a t c h1 h2 h3 => by
    unfold fnEv
    rw [List.getElem?_map] at h2
    obtain ⟨f, hf, hl⟩ := Option.map_eq_some_iff.mp h2
    rw [hf]
    have hp := hP.par f (List.mem_of_getElem? hf)
    have h4 := Bd.ev_ok (fnEv_ok hP k g (by omega)) f.2 0 false ⟨box8 a, t, c⟩ (hP.bod g f hf).rows (box8_ok (by omega) h3)
    dsimp only
    cases q : (f.2.ev (fnEv P k) ⟨box8 a, t, c⟩).1 with
    | on => exact ⟨show Rg 0 by decide, by intro z; cases z⟩
    | brk => rw [q] at h4; exact nomatch h4.1
    | ret v => rw [q] at h4; exact ⟨h4.1, by intro z; cases z⟩
    | thr k v => rw [q] at h4; exact ⟨h4.1, by intro z; cases z⟩
/-! ### how deep the readings go: c is what a call needs -/
mutual
def Rw.nd (c : Nat) : Rw → Nat
  | .call _ _ _ => c + 2
  | .ifs _ a b => max (a.nd c) (b.nd c) + 1
  | .loop _ a => a.nd c + 2
  | .tri a hs l => max (a.nd c) (max (hs.nd c) (l.nd c)) + 2
  | _ => 1
def Bd.nd (c : Nat) : Bd → Nat
  | .nil => 1
  | .cons r b => max (r.nd c + 1) (b.nd c)
def Hs.nd (c : Nat) : Hs → Nat
  | .nil => 1
  | .cons _ _ a h => max (a.nd c) (h.nd c)
def Lo.nd (c : Nat) : Lo → Nat
  | .non => 1
  | .som a => a.nd c
end
/-- what k functions, called one by another, need -/
def Pg.nd (P : Pg) : Nat → Nat
  | 0 => 0
  | k + 1 => (P.map fun f => f.2.nd (P.nd k)).foldr max 0 + 1
theorem foldr_max_ge {xs : List Nat} {x : Nat} (h : x ∈ xs) : x ≤ xs.foldr max 0 := by
  induction xs with
  | nil => cases h
  | cons y ys ih =>
    simp only [List.foldr_cons]
    rcases List.mem_cons.mp h with rfl | h
    · omega
    · have := ih h; omega
theorem Pg.nd_ge {P : Pg} {k : Nat} {f : Fn} (h : f ∈ P) : f.2.nd (P.nd k) + 1 ≤ P.nd (k + 1) := by
  have := foldr_max_ge (xs := P.map fun f => f.2.nd (P.nd k)) (x := f.2.nd (P.nd k)) (List.mem_map.mpr ⟨f, h, rfl⟩)
  simp only [Pg.nd]
  omega
end CL
namespace CL
open PySem L2
/-! ### texts -/
theorem strOk_of (s : String) : PyData.strOk (Str.ofString s) = true := by
  unfold PyData.strOk
  rw [Str.ofString_eq_toList]
  simp only [List.all_toArray, List.all_map, List.all_eq_true]
  intro c _
  have h : c.toNat < 0x110000 := by
    rcases c.valid with h | h
    · exact Nat.lt_trans h (by decide)
    · exact h.2
  simpa using h
@[simp] theorem pl_str {n : Nat} {s : String} : pl n (.str (Str.ofString s)) = true := by
  cases n <;> simp [pl, strOk_of]
@[simp] theorem pl_int {n : Nat} {i : Int} : pl n (.int i) = true := by cases n <;> simp [pl]
@[simp] theorem pl_non {n : Nat} : pl n .non = true := by cases n <;> simp [pl]
@[simp] theorem pl_bl {n : Nat} {b : Bool} : pl n (.bl b) = true := by cases n <;> simp [pl]
@[simp] theorem pl_tup {n : Nat} {xs : List Da} : pl (n + 1) (.tup xs) = plL n xs := by simp [pl]
@[simp] theorem pl_lst {n : Nat} {xs : List Da} : pl (n + 1) (.lst xs) = plL n xs := by simp [pl]
@[simp] theorem plL_nil {n : Nat} : plL n [] = true := by simp [plL]
@[simp] theorem plL_cons {n : Nat} {x : Da} {xs : List Da} : plL n (x :: xs) = (pl n x && plL n xs) := by simp [plL]
@[simp] theorem pl_tup60 {xs : List Da} : pl 60 (.tup xs) = plL 59 xs := pl_tup
@[simp] theorem pl_lst60 {xs : List Da} : pl 60 (.lst xs) = plL 59 xs := pl_lst
@[simp] theorem pl_tup59 {xs : List Da} : pl 59 (.tup xs) = plL 58 xs := pl_tup
@[simp] theorem pl_lst59 {xs : List Da} : pl 59 (.lst xs) = plL 58 xs := pl_lst
@[simp] theorem deq_str {a b : String} : deq (.str (Str.ofString a)) (.str (Str.ofString b)) = decide (a = b) := by
  simp [deq, toPy, PyData.eqv]
  by_cases h : a = b <;> simp [h]
@[simp] theorem deq_int_str {i : Int} {b : Str} : deq (.int i) (.str b) = false := by simp [deq, toPy, PyData.eqv]
@[simp] theorem deq_str_int {i : Int} {b : Str} : deq (.str b) (.int i) = false := by simp [deq, toPy, PyData.eqv]
@[simp] theorem deq_non_str {b : Str} : deq .non (.str b) = false := by simp [deq, toPy, PyData.eqv]
@[simp] theorem deq_str_non {b : Str} : deq (.str b) .non = false := by simp [deq, toPy, PyData.eqv]
@[simp] theorem deq_tup_int {i : Int} {l : List Da} : deq (.tup l) (.int i) = false := by simp [deq, toPy, PyData.eqv]
@[simp] theorem deq_int_tup {i : Int} {l : List Da} : deq (.int i) (.tup l) = false := by simp [deq, toPy, PyData.eqv]
@[simp] theorem deq_tup_str {i : Str} {l : List Da} : deq (.tup l) (.str i) = false := by simp [deq, toPy, PyData.eqv]
@[simp] theorem deq_str_tup {i : Str} {l : List Da} : deq (.str i) (.tup l) = false := by simp [deq, toPy, PyData.eqv]
@[simp] theorem deq_tup_non {l : List Da} : deq (.tup l) .non = false := by simp [deq, toPy, PyData.eqv]
@[simp] theorem deq_non_tup {l : List Da} : deq .non (.tup l) = false := by simp [deq, toPy, PyData.eqv]
section
variable {st : Store} {ex : Str → List Da → Store → Prop} {post : Da → Store → Prop} {a : Sl → Mo Da} {al kl : Sl → Mo (List Da)} {ro : Sl}
theorem any_py {d : Da} : ∀ xs : List Da, (toPyL xs).any (fun z => PyData.eqv z (toPy d)) = xs.any fun z => deq z d
  | [] => by simp [toPyL]
  | x :: xs => by simp [toPyL, any_py xs, deq]
theorem wq_inI {neg : Bool} {d e : Da} {p : PyData} {qs : List PyData} (h1 : PyIs st d p) (h2 : PyIs st e (.tuple qs) ∨ PyIs st e (.list qs)) : Wq (inU neg d e) st post ex ↔ post (.bl (if neg then !qs.any (fun z => PyData.eqv z p) else qs.any fun z => PyData.eqv z p)) st := by
  rw [wq_iff]
  unfold Wp inU
  rw [h1.py]
  rcases h2 with h2 | h2
  · rw [h2.py]
    dsimp only
    rw [if_pos (by rw [h1.sh, h2.sh]; rfl)]
  · rw [h2.py]
    dsimp only
    rw [if_pos (by rw [h1.sh, h2.sh]; rfl)]
@[simp] theorem wq_inU_t {neg : Bool} {d : Da} {xs : List Da} (h1 : pl 60 d = true) (h2 : plL 59 xs = true) : Wq (inU neg d (.tup xs)) st post ex ↔ post (.bl (if neg then !xs.any (fun z => deq z d) else xs.any fun z => deq z d)) st := by
  rw [wq_inI (pl_is (n := 60) (by decide) h1) (qs := toPyL xs) (.inl ?_), any_py]
  have := pl_is (st := st) (n := 60) (by decide) (d := .tup xs) (by simpa using h2)
  simpa [toPy] using this
@[simp] theorem wq_inU_l {neg : Bool} {d : Da} {xs : List Da} (h1 : pl 60 d = true) (h2 : plL 59 xs = true) : Wq (inU neg d (.lst xs)) st post ex ↔ post (.bl (if neg then !xs.any (fun z => deq z d) else xs.any fun z => deq z d)) st := by
  rw [wq_inI (pl_is (n := 60) (by decide) h1) (qs := toPyL xs) (.inr ?_), any_py]
  have := pl_is (st := st) (n := 60) (by decide) (d := .lst xs) (by simpa using h2)
  simpa [toPy] using this
theorem wq_isTT {ts : List Tn} {u : Tn} {d : Da} (h : tyN st d = some u) : Wq (isTT ts d) st post ex ↔ post (.bl (ts.any (isTn u))) st := by
  rw [wq_iff]; unfold Wp isTT; rw [h]
@[simp] theorem wq_isTT_t {ts : List Tn} {xs : List Da} : Wq (isTT ts (.tup xs)) st post ex ↔ post (.bl (ts.any (isTn .tuple))) st := wq_isTT rfl
@[simp] theorem wq_isTT_l {ts : List Tn} {xs : List Da} : Wq (isTT ts (.lst xs)) st post ex ↔ post (.bl (ts.any (isTn .list))) st := wq_isTT rfl
@[simp] theorem wq_eCallK {f : List Da → Mo Da} {n1 k : Nat} {gD : List Da → List Da → List Da} : Wq (eCallK f n1 k gD al kl ro) st post ex ↔ Wq (al ro) st (kb (fun ds => bnd (kl ro) fun es => if ds.length = n1 ∧ es.length = k then f (gD ds es) else nop) post ex) ex := wq_bnd
@[simp] theorem wq_eMethK {c m : Str} {f : List Da → Mo Da} {n1 k : Nat} {gD : List Da → List Da → List Da} : Wq (eMethK c m f n1 k gD a al kl ro) st post ex ↔ Wq (a ro) st (kb (fun d => bnd (isIns c m d) fun _ => bnd (al ro) fun ds => bnd (kl ro) fun es => if ds.length = n1 ∧ es.length = k then f (gD (d :: ds) es) else nop) post ex) ex := wq_bnd
end
end CL
namespace CL
open PySem L2
/-! ### programs are plain data -/
theorem Ex.pl : ∀ (e : Ex) (d : Nat), e.ok d → CL.pl (7 - d) e.da = true
  | .num n, d, h => by simp [Ex.da]
  | .box k, d, h => by
    have := h.1
    obtain ⟨j, hj⟩ : ∃ j, 7 - d = j + 1 := ⟨6 - d, by omega⟩
    rw [hj]
    simp [Ex.da]
  | .op s a b, d, h => by
    have := h.1
    obtain ⟨j, hj⟩ : ∃ j, 7 - d = j + 1 := ⟨6 - d, by omega⟩
    have h1 := Ex.pl a (d + 1) h.2.1
    have h2 := Ex.pl b (d + 1) h.2.2
    rw [show 7 - (d + 1) = j by omega] at h1 h2
    rw [hj]
    simp [Ex.da, h1, h2]
theorem Ex.pl7 {e : Ex} (h : e.ok 0) {n : Nat} (hn : 7 ≤ n) : CL.pl n e.da = true := pl_le _ _ _ hn (Ex.pl e 0 h)
theorem onD_pl {k : Option Nat} {n : Nat} : CL.pl n (onD k) = true := by cases k <;> simp [onD]
def NN (d : Nat) : Nat := 4 * (6 - d) + 9
section
variable {ix : Nat} {many : List Nat}
mutual
theorem Rw.pl : ∀ (r : Rw) (d : Nat) (lp : Bool), d ≤ 6 → r.ok ix many d lp → CL.pl (NN d) r.da = true
  | .set b e, d, lp, hd, h => by
    obtain ⟨j, hj⟩ : ∃ j, NN d = j + 1 := ⟨4 * (6 - d) + 8, by unfold NN; omega⟩
    have := Ex.pl7 h.2 (n := j) (by unfold NN at hj; omega)
    rw [hj]; simp [Rw.da, this]
  | .out e, d, lp, hd, h => by
    obtain ⟨j, hj⟩ : ∃ j, NN d = j + 1 := ⟨4 * (6 - d) + 8, by unfold NN; omega⟩
    have := Ex.pl7 h (n := j) (by unfold NN at hj; omega)
    rw [hj]; simp [Rw.da, this]
  | .thr k e, d, lp, hd, h => by
    obtain ⟨j, hj⟩ : ∃ j, NN d = j + 1 := ⟨4 * (6 - d) + 8, by unfold NN; omega⟩
    have := Ex.pl7 h.2 (n := j) (by unfold NN at hj; omega)
    rw [hj]; simp [Rw.da, this]
  | .call b g es, d, lp, hd, h => by
    obtain ⟨j, hj⟩ : ∃ j, NN d = j + 1 + 1 := ⟨4 * (6 - d) + 7, by unfold NN; omega⟩
    have : plL j (es.map Ex.da) = true := by
      rw [plL_all, List.all_eq_true]
      intro x hx
      obtain ⟨e, he, rfl⟩ := List.mem_map.mp hx
      exact Ex.pl7 (h.2.2.2 e he) (by unfold NN at hj; omega)
    rw [hj]; simp [Rw.da, this]
  | .ifs e a b, d, lp, hd, h => by
    obtain ⟨j, hj⟩ : ∃ j, NN d = j + 1 + 1 := ⟨4 * (6 - d) + 7, by unfold NN; omega⟩
    have hd2 := h.2.1.1
    have h1 := Ex.pl7 h.1 (n := j + 1) (by unfold NN at hj; omega)
    have h2 := plL_le _ j _ (by unfold NN at hj ⊢; omega) (Bd.pl a (d + 1) lp hd2 h.2.1.2.2)
    have h3 := plL_le _ j _ (by unfold NN at hj ⊢; omega) (Bd.pl b (d + 1) lp hd2 h.2.2.2)
    rw [hj]; simp [Rw.da, h1, h2, h3]
  | .loop n a, d, lp, hd, h => by
    obtain ⟨j, hj⟩ : ∃ j, NN d = j + 1 + 1 := ⟨4 * (6 - d) + 7, by unfold NN; omega⟩
    have hd2 := h.2.1
    have h2 := plL_le _ j _ (by unfold NN at hj ⊢; omega) (Bd.pl a (d + 1) true hd2 h.2.2.2)
    rw [hj]; simp [Rw.da, h2]
  | .brk, d, lp, hd, h => by
    obtain ⟨j, hj⟩ : ∃ j, NN d = j + 1 := ⟨4 * (6 - d) + 8, by unfold NN; omega⟩
    rw [hj]; simp [Rw.da]
  | .ret e, d, lp, hd, h => by
    obtain ⟨j, hj⟩ : ∃ j, NN d = j + 1 := ⟨4 * (6 - d) + 8, by unfold NN; omega⟩
    have := Ex.pl7 h (n := j) (by unfold NN at hj; omega)
    rw [hj]; simp [Rw.da, this]
  | .tri a hs l, d, lp, hd, h => by
    have hd2 := h.1.1
    obtain ⟨j, hj⟩ : ∃ j, NN d = j + 1 + 1 := ⟨4 * (6 - d) + 7, by unfold NN; omega⟩
    have h1 := plL_le _ j _ (by unfold NN at hj ⊢; omega) (Bd.pl a (d + 1) lp hd2 h.1.2.2)
    have h2 := plL_le _ j _ (by unfold NN at hj ⊢; omega) (Hs.pl hs (d + 1) lp hd2 h.2.1.2)
    have h3 := pl_le _ (j + 1) _ (by unfold NN at hj ⊢; omega) (Lo.pl l (d + 1) lp hd2 h.2.2)
    rw [hj]; simp [Rw.da, h1, h2, h3]
theorem Bd.pl : ∀ (b : Bd) (d : Nat) (lp : Bool), d ≤ 6 → b.rows ix many d lp → plL (NN d) b.da = true
  | .nil, d, lp, hd, h => by simp [Bd.da]
  | .cons r b, d, lp, hd, h => by simp [Bd.da, Rw.pl r d lp hd h.1, Bd.pl b d lp hd h.2]
theorem Hs.pl : ∀ (b : Hs) (d : Nat) (lp : Bool), d ≤ 6 → b.ok ix many d lp → plL (NN d + 2) b.da = true
  | .nil, d, lp, hd, h => by simp [Hs.da]
  | .cons k b a hh, d, lp, hd, h => by
    simp [Hs.da, onD_pl, Bd.pl a d lp hd h.2.2.1.2, Hs.pl hh d lp hd h.2.2.2]
theorem Lo.pl : ∀ (b : Lo) (d : Nat) (lp : Bool), d ≤ 6 → b.ok ix many d lp → CL.pl (NN d + 1) b.da = true
  | .non, d, lp, hd, h => by simp [Lo.da]
  | .som a, d, lp, hd, h => by simp [Lo.da, Bd.pl a d lp hd h.2]
end
end
/-! ### handlers -/
abbrev Hd := Option Nat × Nat × Bd
def Hs.list : Hs → List Hd
  | .nil => []
  | .cons k b a h => (k, b, a) :: h.list
def hdD (x : Hd) : Da := .tup [onD x.1, .int x.2.1, .lst x.2.2.da]
def hdFit (j : Nat) (x : Hd) : Bool := decide (x.1 = none ∨ x.1 = some j)
theorem Hs.da_list : ∀ h : Hs, h.da = h.list.map hdD
  | .nil => rfl
  | .cons k b a h => by simp [Hs.da, Hs.list, hdD, Hs.da_list h]
theorem Hs.list_len : ∀ h : Hs, h.list.length = h.len
  | .nil => rfl
  | .cons k b a h => by simp [Hs.list, Hs.len, Hs.list_len h]
theorem Hs.ev_thr {cal : Cl} {j : Nat} {v : Int} {s : Sx} : ∀ h : Hs, h.ev cal (.thr j v, s) = match h.list.filter (hdFit j) with
    | x :: _ => x.2.2.ev cal ⟨s.bx.set x.2.1 v, s.told, s.cnt⟩
    | [] => (.thr j v, s)
  | .nil => by simp [Hs.ev, Hs.list]
  | .cons k b a h => by
    rw [Hs.ev]
    dsimp only
    by_cases z : k = none ∨ k = some j
    · rw [if_pos z]
      simp [Hs.list, hdFit, z]
    · rw [if_neg z, Hs.ev_thr h]
      simp [Hs.list, hdFit, z]
theorem Hs.ev_not {cal : Cl} {e : Ed} {s : Sx} (he : ∀ k v, e ≠ .thr k v) : ∀ h : Hs, h.ev cal (e, s) = (e, s)
  | .nil => by simp [Hs.ev]
  | .cons k b a h => by
    rw [Hs.ev]
    dsimp only
    cases e with
    | on => rfl
    | brk => rfl
    | ret v => rfl
    | thr k v => exact absurd rfl (he k v)
theorem Hs.ok_mem {ix : Nat} {many : List Nat} {d : Nat} {lp : Bool} : ∀ (h : Hs), h.ok ix many d lp → ∀ x ∈ h.list, x.2.1 < 8 ∧ x.2.2.rows ix many d lp
  | .nil, _, x, hx => nomatch hx
  | .cons k b a h, ho, x, hx => by
    rcases List.mem_cons.mp hx with rfl | hx
    · exact ⟨ho.2.1, ho.2.2.1.2⟩
    · exact Hs.ok_mem h ho.2.2.2 x hx
end CL
namespace CL
open PySem L2
theorem slt {st : Store} {n : Nat} {c : Cell} (h : st[n]? = some c) : n < st.length := by
  by_cases z : n < st.length
  · exact z
  · rw [List.getElem?_eq_none (by omega)] at h; cases h
theorem fmod1000 (a : Int) : a.fmod 1000 = a % 1000 := Int.fmod_eq_emod_of_nonneg _ (by decide)
theorem atI_box {bx : List Int} {k : Nat} (hk : k < bx.length) : atI (bx.map Da.int) (k : Int) = some (.int (bx.getD k 0)) := atI_nat (by
  rw [List.getElem?_map, List.getElem?_eq_getElem hk, List.getD_eq_getElem?_getD, List.getElem?_eq_getElem hk]; rfl)
section
variable {st : Store} {ex : Str → List Da → Store → Prop} {post : Da → Store → Prop}
theorem reckoned_ok {s : Sg} {x y : Int} (hx : Rg x) (hy : Rg y) (hp : post (match rk s x y with | some z => .int z | none => .non) st) : Wq (f_reckoned [.str (Str.ofString s.str), .int x, .int y]) st post ex := by
  unfold f_reckoned m_reckoned
  cases s with
  | add => simpa [startS, Sg.str, rk, fmod1000] using hp
  | sub => simpa [startS, Sg.str, rk, fmod1000] using hp
  | mul =>
    have hm : CMul x y := .inl ⟨by omega, by omega⟩
    simpa [startS, Sg.str, rk, fmod1000, hm] using hp
  | div =>
    simp [startS, Sg.str]
    by_cases z : y = 0
    · simpa [z, rk] using hp
    · have hd : CDivN x y := ⟨z, by omega⟩
      simp [z, hd]
      simpa [z, rk, Int.fdiv_eq_ediv_of_nonneg _ hy.1] using hp
/-! ### expressions -/
abbrev plainF (P : Pg) (h : Nat) : List (Str × Da) := [("program", P.da), ("told", .han h)]
theorem worth_ok {P : Pg} {n0 h hb : Nat} {bx : List Int} (h0 : st[n0]? = some (.ins "Plain" (plainF P h))) (hbx : st[hb]? = some (.lst (bx.map Da.int))) (hl : bx.length = 8) (hr : ∀ v ∈ bx, Rg v) :
    ∀ (e : Ex) (d m : Nat) (post : Da → Store → Prop), e.ok d → 8 ≤ m + d → post (e.ev bx).da st → Wq (f_Plain_worth m [.han n0, e.da, .han hb]) st post ex
  | .num n, d, 0, post, ho, hm, hp => by have := ho.1; omega
  | .box n, d, 0, post, ho, hm, hp => by have := ho.1; omega
  | .op s a b, d, 0, post, ho, hm, hp => by have := ho.1; omega
  | .num n, d, m + 1, post, ho, hm, hp => by
    rw [f_Plain_worth_s]
    unfold m_Plain_worth
    simpa [startS, Ex.da, isTn, Ex.ev] using hp
  | .box k, d, m + 1, post, ho, hm, hp => by
    rw [f_Plain_worth_s]
    unfold m_Plain_worth
    have hk : k < bx.length := by have := ho.2; omega
    simpa [startS, Ex.da, isTn, Ex.ev, wq_ix_h hbx (atI_box hk)] using hp
  | .op s a b, d, m + 1, post, ho, hm, hp => by
    rw [f_Plain_worth_s]
    unfold m_Plain_worth
    have hs : ¬ s.str = "box" := by cases s <;> decide
    have hi : ∀ {postU : Unit → Store → Prop} {ex : Str → List Da → Store → Prop}, Wq (isIns "Plain" "worth" (.han n0)) st postU ex ↔ postU () st := wq_isIns h0 (by simp [List.lookup])
    simp [startS, Ex.da, isTn, hs, hi]
    refine worth_ok h0 hbx hl hr a (d + 1) m _ ho.2.1 (by omega) ?_
    have hra := Ex.ev_ok hl hr a (d + 1) ho.2.1
    have hrb := Ex.ev_ok hl hr b (d + 1) ho.2.2
    unfold Ex.ev at hp
    cases q : a.ev bx with
    | flt v =>
      rw [q] at hp
      simpa using hp
    | ok x =>
      rw [q] at hp hra
      simp [hi]
      refine worth_ok h0 hbx hl hr b (d + 1) m _ ho.2.2 (by omega) ?_
      cases q2 : b.ev bx with
      | flt v =>
        rw [q2] at hp
        simpa using hp
      | ok y =>
        rw [q2] at hp hrb
        simp
        refine reckoned_ok hra hrb ?_
        dsimp only at hp
        cases q3 : rk s x y with
        | none =>
          rw [q3] at hp
          simpa using hp
        | some z =>
          rw [q3] at hp
          simpa using hp
end
/-! ### statements -/
structure PlSt (P : Pg) (n0 h hb : Nat) (s : Sx) (st : Store) : Prop where
  a0 : st[n0]? = some (.ins "Plain" (plainF P h))
  ah : st[h]? = some (.lst (s.told.map Da.int))
  ab : st[hb]? = some (.lst (s.bx.map Da.int))
  ne : h ≠ hb
structure Ch (h hb : Nat) (st st' : Store) (s : Sx) : Prop where
  ah : st'[h]? = some (.lst (s.told.map Da.int))
  ab : st'[hb]? = some (.lst (s.bx.map Da.int))
  ge : st.length ≤ st'.length
  kp : ∀ n, n < st.length → n ≠ h → n ≠ hb → st'[n]? = st[n]?
theorem PlSt.n0h {P : Pg} {n0 h hb : Nat} {s : Sx} {st : Store} (p : PlSt P n0 h hb s st) : n0 ≠ h ∧ n0 ≠ hb := by
  refine ⟨fun e => ?_, fun e => ?_⟩
  · have := p.a0; rw [e, p.ah] at this; cases this
  · have := p.a0; rw [e, p.ab] at this; cases this
theorem PlSt.ch {P : Pg} {n0 h hb : Nat} {s s' : Sx} {st st' : Store} (p : PlSt P n0 h hb s st) (c : Ch h hb st st' s') : PlSt P n0 h hb s' st' := by
  obtain ⟨h1, h2⟩ := p.n0h
  exact ⟨by rw [c.kp n0 (slt p.a0) h1 h2]; exact p.a0, c.ah, c.ab, p.ne⟩
theorem Ch.refl {P : Pg} {n0 h hb : Nat} {s : Sx} {st : Store} (p : PlSt P n0 h hb s st) : Ch h hb st st s := ⟨p.ah, p.ab, Nat.le_refl _, fun _ _ _ _ => rfl⟩
theorem Ch.trans {h hb : Nat} {a b c : Store} {s t : Sx} (x : Ch h hb a b s) (y : Ch h hb b c t) : Ch h hb a c t :=
  ⟨y.ah, y.ab, Nat.le_trans x.ge y.ge, fun n h1 h2 h3 => (y.kp n (Nat.lt_of_lt_of_le h1 x.ge) h2 h3).trans (x.kp n h1 h2 h3)⟩
theorem Ch.cnt {h hb : Nat} {a b : Store} {s : Sx} {c : Nat} (x : Ch h hb a b s) : Ch h hb a b ⟨s.bx, s.told, c⟩ := ⟨x.ah, x.ab, x.ge, x.kp⟩
theorem PlSt.cnt {P : Pg} {n0 h hb : Nat} {s : Sx} {st : Store} {c : Nat} (p : PlSt P n0 h hb s st) : PlSt P n0 h hb ⟨s.bx, s.told, c⟩ st := ⟨p.a0, p.ah, p.ab, p.ne⟩
/-- a box is set -/
theorem PlSt.set {P : Pg} {n0 h hb : Nat} {s : Sx} {st : Store} {b : Nat} {v : Int} (p : PlSt P n0 h hb s st) : Ch h hb st (st.set hb (.lst ((s.bx.map Da.int).set b (.int v)))) ⟨s.bx.set b v, s.told, s.cnt⟩ :=
  ⟨by rw [List.getElem?_set_ne (Ne.symm p.ne)]; exact p.ah, by rw [List.getElem?_set_self (slt p.ab), List.map_set], by simp, fun n _ _ h3 => List.getElem?_set_ne (Ne.symm h3)⟩
theorem ixN_box {bx : List Int} {k : Nat} (hk : k < bx.length) : ixN (bx.map Da.int).length (k : Int) = some k := by
  unfold ixN
  rw [if_pos (by omega), if_pos (by simpa using hk)]
  simp
section
variable (P : Pg) (n0 h ix : Nat) (many : List Nat) (cal : Cl) (c : Nat)
def PSpec (b : Bd) (m : Nat) : Prop := ∀ (d : Nat) (lp : Bool) (hb : Nat) (s : Sx) (st : Store), b.rows ix many d lp → s.ok → PlSt P n0 h hb s st → s.told.length ≤ s.cnt → (b.ev cal s).2.cnt ≤ 900000 →
  Wq (f_Plain_all_rows m [.han n0, .lst b.da, .han hb]) st (fun x st' => x = (b.ev cal s).1.da ∧ Ch h hb st st' (b.ev cal s).2) noEx
def RSpec (r : Rw) (m : Nat) : Prop := ∀ (d : Nat) (lp : Bool) (hb : Nat) (s : Sx) (st : Store), r.ok ix many d lp → s.ok → PlSt P n0 h hb s st → s.told.length + 1 ≤ s.cnt → (r.ev cal s).2.cnt ≤ 900000 →
  Wq (f_Plain_row m [.han n0, r.da, .han hb]) st (fun x st' => x = (r.ev cal s).1.da ∧ Ch h hb st st' (r.ev cal s).2) noEx
def CSpec : Prop := ∀ (m g : Nat) (args told : List Int) (cnt : Nat) (own : Da) (st : Store), c ≤ m → ix < g → many[g]? = some args.length → (∀ v ∈ args, Rg v) → lsOf st own = some (args.map Da.int) → st[n0]? = some (.ins "Plain" (plainF P h)) → st[h]? = some (.lst (told.map Da.int)) → told.length ≤ cnt → (cal g args told cnt).2.2 ≤ 900000 →
  Wq (f_Plain_function m [.han n0, .int g, own]) st (fun x st' => x = (cal g args told cnt).1.da ∧ st'[h]? = some (.lst ((cal g args told cnt).2.1.map Da.int)) ∧ st.length ≤ st'.length ∧ ∀ n, n < st.length → n ≠ h → st'[n]? = st[n]?) noEx
end
section
variable {P : Pg} {n0 h ix : Nat} {many : List Nat} {cal : Cl} {c : Nat}
def bodyR (g : List Da → Mo Da) : Sl → Mo Fl := mSeq (mSet 4 (eMeth "Plain" "row" (fun ds => ar 3 g (ds ++ [])) (eVar 0) (aCons (eVar 3) (aCons (eVar 2) aNil)))) (mIf (tst (e2 neD (e2 ixD (eVar 4) (eC (.int 0))) (eC (.str "on")))) (mRet (eVar 4)) mNil)
theorem all_rows_eq (g : List Da → Mo Da) : m_Plain_all_rows g = mSeq (mFor (iV (eVar 1)) (gN 3) (bodyR g)) (mRet (eC (.tup [(.str "on")]))) := rfl
/-- how a loop over statements ends -/
def FEnd (e : Ed) (n0 hb : Nat) (L : Da) (f : Fl) : Prop := (e = .on ∧ ∃ o3 o4, f = .nx [some (.han n0), some L, some (.han hb), o3, o4]) ∨ (e ≠ .on ∧ f = .rt e.da)
variable (P n0 h ix many cal c) in
def FSpec (b : Bd) (m : Nat) : Prop := ∀ (d : Nat) (lp : Bool) (hb : Nat) (s : Sx) (st : Store) (all : List Da) (L : Da) (o3 o4 : Option Da), b.rows ix many d lp → s.ok → PlSt P n0 h hb s st → s.told.length ≤ s.cnt → (b.ev cal s).2.cnt ≤ 900000 →
  Wq (forGo none all (gN 3) (bodyR (f_Plain_row m)) b.da [some (.han n0), some L, some (.han hb), o3, o4]) st (fun f st' => FEnd (b.ev cal s).1 n0 hb L f ∧ Ch h hb st st' (b.ev cal s).2) noEx
theorem pl_nil {m : Nat} : FSpec P n0 h ix many cal .nil m := by
  intro d lp hb s st all L o3 o4 ho hs hp ht hc
  simp [Bd.da]
  exact ⟨.inl ⟨by simp [Bd.ev], _, _, rfl⟩, by simpa [Bd.ev] using Ch.refl hp⟩
theorem Bd.cons_on {r : Rw} {b : Bd} {s s' : Sx} (q : r.ev cal ⟨s.bx, s.told, s.cnt + 1⟩ = (.on, s')) : (Bd.cons r b).ev cal s = b.ev cal s' := by rw [Bd.ev, q]
theorem Bd.cons_not {r : Rw} {b : Bd} {s s' : Sx} {e : Ed} (q : r.ev cal ⟨s.bx, s.told, s.cnt + 1⟩ = (e, s')) (he : e ≠ .on) : (Bd.cons r b).ev cal s = (e, s') := by
  rw [Bd.ev, q]
  cases e with
  | on => exact absurd rfl he
  | brk => rfl
  | ret v => rfl
  | thr k v => rfl
theorem pl_cons {r : Rw} {b : Bd} {m : Nat} (hcl : ClLe cal) (hco : ClOk ix many cal) (hr : RSpec P n0 h ix many cal r m) (hb : FSpec P n0 h ix many cal b m) : FSpec P n0 h ix many cal (.cons r b) m := by
  intro d lp hbx s st all L o3 o4 ho hs hp ht hc
  have le1 := Rw.le hcl r ⟨s.bx, s.told, s.cnt + 1⟩
  have ok1 := Rw.ev_ok hco r d lp ⟨s.bx, s.told, s.cnt + 1⟩ ho.1 hs.same
  have hi : ∀ {postU : Unit → Store → Prop} {ex : Str → List Da → Store → Prop}, Wq (isIns "Plain" "row" (.han n0)) st postU ex ↔ postU () st := wq_isIns hp.a0 (by simp [List.lookup])
  simp only [Bd.da]
  rw [wq_for_cons gN_eq]
  have hcnt : (r.ev cal ⟨s.bx, s.told, s.cnt + 1⟩).2.cnt ≤ 900000 := by
    refine Nat.le_trans ?_ hc
    cases q : r.ev cal ⟨s.bx, s.told, s.cnt + 1⟩ with
    | mk e s' =>
      by_cases he : e = .on
      · subst he; rw [Bd.cons_on q]; exact (Bd.le hcl b s').cnt
      · rw [Bd.cons_not q he]; exact Nat.le_refl _
  conv => arg 1; unfold bodyR
  simp [hi]
  refine (hr d lp hbx ⟨s.bx, s.told, s.cnt + 1⟩ st ho.1 hs.same hp.cnt (by simpa using ht) hcnt).mono ?_
  rintro x st1 ⟨rfl, ch1⟩
  cases q : r.ev cal ⟨s.bx, s.told, s.cnt + 1⟩ with
  | mk e s' =>
    rw [q] at ch1 le1 ok1
    have htl : s'.told.length ≤ s'.cnt := by
      obtain ⟨x, e1, e2⟩ := le1.told
      have := le1.cnt
      simp at e1 e2 this
      rw [e1, List.length_append]
      omega
    by_cases he : e = .on
    · subst he
      rw [Bd.cons_on q] at hc ⊢
      simp
      refine (hb d lp hbx s' st1 all L _ _ ho.2 ok1.2 (hp.ch ch1) htl hc).mono ?_
      rintro f st2 ⟨hf, ch2⟩
      exact ⟨hf, ch1.trans ch2⟩
    · rw [Bd.cons_not q he]
      have : Wq (if ¬ e = .on then mRet (eVar 4) [some (Da.han n0), some L, some (.han hbx), some r.da, some e.da] else mNil [some (Da.han n0), some L, some (.han hbx), some r.da, some e.da]) st1 (kb (loopK (forGo none all (gN 3) (bodyR (f_Plain_row m)) b.da)) (fun f st' => FEnd e n0 hbx L f ∧ Ch h hbx st st' s') noEx) noEx := by
        simp [he]
        exact ⟨.inr ⟨he, rfl⟩, ch1⟩
      cases e with
      | on => exact absurd rfl he
      | brk => simpa using this
      | ret v => simpa using this
      | thr k v => simpa using this
theorem FSpec.rows {b : Bd} {m : Nat} (hf : FSpec P n0 h ix many cal b m) : PSpec P n0 h ix many cal b (m + 1) := by
  intro d lp hb s st ho hs hp ht hc
  rw [f_Plain_all_rows_s, all_rows_eq]
  simp [startS]
  refine (hf d lp hb s st b.da (.lst b.da) none none ho hs hp ht hc).mono ?_
  rintro f st1 ⟨hf, ch⟩
  rcases hf with ⟨he, o3, o4, rfl⟩ | ⟨he, rfl⟩
  · rw [he]
    simp
    exact ch
  · simp
    exact ch
end
end CL
namespace CL
open PySem L2
section
variable {P : Pg} {n0 h ix : Nat} {many : List Nat} {cal : Cl} {c : Nat}
theorem isPl {m : String} {st : Store} {postU : Unit → Store → Prop} {ex : Str → List Da → Store → Prop} (h0 : st[n0]? = some (.ins "Plain" (plainF P h))) (h1 : ¬ m = "program") (h2 : ¬ m = "told") : Wq (isIns "Plain" (Str.ofString m) (.han n0)) st postU ex ↔ postU () st :=
  wq_isIns h0 (by
    have e1 : (m == "program") = false := by simpa using h1
    have e2 : (m == "told") = false := by simpa using h2
    simp [List.lookup, e1, e2])
theorem Le.tl {i : Nat} {s s' : Sx} (le : Le i s s') (h : s.told.length + i ≤ s.cnt) : s'.told.length ≤ s'.cnt := by
  obtain ⟨x, e1, e2⟩ := le.told
  have := le.cnt
  rw [e1, List.length_append]
  omega
/-! loops -/
def bodyL (g : List Da → Mo Da) : Sl → Mo Fl := mSeq (mSet 4 (eMeth "Plain" "all_rows" (fun ds => ar 3 g (ds ++ [])) (eVar 0) (aCons (e2 ixD (eVar 1) (eC (.int 2))) (aCons (eVar 2) aNil)))) (mSeq (mIf (tst (e2 eqD (e2 ixD (eVar 4) (eC (.int 0))) (eC (.str "break")))) (mRet (eC (.tup [(.str "on")]))) mNil) (mIf (tst (e2 neD (e2 ixD (eVar 4) (eC (.int 0))) (eC (.str "on")))) (mRet (eVar 4)) mNil))
theorem looped_eq (g : List Da → Mo Da) : m_Plain_looped g = mSeq (mFor (iR1 (aCons (e2 ixD (eVar 1) (eC (.int 1))) aNil)) (gN 3) (bodyL g)) (mRet (eC (.tup [(.str "on")]))) := rfl
theorem ploop_ok {a : Bd} {m : Nat} (hcl : ClLe cal) (hco : ClOk ix many cal) (ha : PSpec P n0 h ix many cal a m) {d hb : Nat} {n : Nat} (hr : a.rows ix many d true) : ∀ (xs all : List Da) (o3 o4 : Option Da) (s : Sx) (st : Store), s.ok → PlSt P n0 h hb s st → s.told.length ≤ s.cnt → (loopN (fun s => a.ev cal s) xs.length s).2.cnt ≤ 900000 →
    Wq (forGo none all (gN 3) (bodyL (f_Plain_all_rows m)) xs [some (.han n0), some (Rw.loop n a).da, some (.han hb), o3, o4]) st (fun f st' => (((loopN (fun s => a.ev cal s) xs.length s).1 = .on ∧ ∃ o3 o4, f = .nx [some (.han n0), some (Rw.loop n a).da, some (.han hb), o3, o4]) ∨ f = .rt (loopN (fun s => a.ev cal s) xs.length s).1.da) ∧ Ch h hb st st' (loopN (fun s => a.ev cal s) xs.length s).2) noEx
  | [], all, o3, o4, s, st, hs, hp, ht, hc => by
    simp [loopN]
    exact Ch.refl hp
  | x :: xs, all, o3, o4, s, st, hs, hp, ht, hc => by
    rw [wq_for_cons gN_eq]
    conv => arg 1; unfold bodyL
    have hle := Bd.le hcl a s
    have hok := Bd.ev_ok hco a d true s hr hs
    have hcnt : (a.ev cal s).2.cnt ≤ 900000 := by
      refine Nat.le_trans ?_ hc
      rw [List.length_cons, loopN]
      cases q : a.ev cal s with
      | mk e s' =>
        cases e with
        | on => exact (loopN_le (fun s => Bd.le hcl a s) _ s').cnt
        | brk => exact Nat.le_refl _
        | ret v => exact Nat.le_refl _
        | thr k v => exact Nat.le_refl _
    simp [isPl hp.a0, Rw.da]
    refine (ha d true hb s st hr hs hp ht hcnt).mono ?_
    rintro y st1 ⟨rfl, ch⟩
    simp only [List.length_cons, loopN] at hc ⊢
    cases q : a.ev cal s with
    | mk e s' =>
      rw [q] at ch hle hok hc
      cases e with
      | on =>
        simp
        refine (ploop_ok hcl hco ha (n := n) hr xs all _ _ s' st1 hok.2 (hp.ch ch) (hle.tl ht) hc).mono ?_
        rintro f st2 ⟨h1, h2⟩
        refine ⟨?_, ch.trans h2⟩
        simpa [Rw.da] using h1
      | brk => simpa using ch
      | ret v => simpa using ch
      | thr k v => simpa using ch
theorem plLoop {a : Bd} {m : Nat} (hcl : ClLe cal) (hco : ClOk ix many cal) (ha : PSpec P n0 h ix many cal a m) {d hb n : Nat} {s : Sx} {st : Store} (hn : n ≤ 4) (hr : a.rows ix many d true) (hs : s.ok) (hp : PlSt P n0 h hb s st) (ht : s.told.length ≤ s.cnt) (hc : ((Rw.loop n a).ev cal s).2.cnt ≤ 900000) :
    Wq (f_Plain_looped (m + 1) [.han n0, (Rw.loop n a).da, .han hb]) st (fun x st' => x = ((Rw.loop n a).ev cal s).1.da ∧ Ch h hb st st' ((Rw.loop n a).ev cal s).2) noEx := by
  rw [f_Plain_looped_s, looped_eq]
  have hb' : big (n : Int) := ⟨by omega, by omega⟩
  have e : (Rw.loop n a).ev cal s = loopN (fun s => a.ev cal s) (rngL 0 ((n : Int)).toNat).length s := by rw [Rw.ev]; simp [rngL]
  have hc2 := hc
  rw [e] at hc2
  have key := fun all => ploop_ok hcl hco ha (n := n) hr (rngL 0 ((n : Int)).toNat) all none none s st hs hp ht hc2
  rw [← e] at key
  generalize (Rw.loop n a).ev cal s = R at *
  simp [startS]
  conv => arg 1; unfold Rw.da
  simp [hb']
  simp at key
  refine (key _).mono ?_
  rintro f st1 ⟨hf, ch⟩
  rcases hf with ⟨he, o3, o4, rfl⟩ | rfl
  · rw [he]; simp; exact ch
  · simp; exact ch
end
end CL
namespace CL
open PySem L2
section
variable {P : Pg} {n0 h ix : Nat} {many : List Nat} {cal : Cl} {c : Nat}
/-! a try -/
theorem tried_ok {a : Bd} {hs : Hs} {l : Lo} {m : Nat} (hcl : ClLe cal) (hco : ClOk ix many cal) (ha : PSpec P n0 h ix many cal a m) (hh : ∀ x ∈ hs.list, PSpec P n0 h ix many cal x.2.2 m) (hl : ∀ b, l = .som b → PSpec P n0 h ix many cal b m)
    {d hb : Nat} {lp : Bool} {s : Sx} {st : Store} (ho : (Rw.tri a hs l).ok ix many d lp) (hd : d ≤ 6) (hs' : s.ok) (hp : PlSt P n0 h hb s st) (ht : s.told.length ≤ s.cnt) (hc : ((Rw.tri a hs l).ev cal s).2.cnt ≤ 900000) :
    Wq (f_Plain_tried (m + 1) [.han n0, (Rw.tri a hs l).da, .han hb]) st (fun x st' => x = ((Rw.tri a hs l).ev cal s).1.da ∧ Ch h hb st st' ((Rw.tri a hs l).ev cal s).2) noEx := by
  rw [f_Plain_tried_s]
  unfold m_Plain_tried
  rw [Rw.ev] at hc ⊢
  have le1 := Bd.le hcl a s
  have le2 := Hs.le hcl hs (a.ev cal s)
  have le3 := Lo.le hcl l (hs.ev cal (a.ev cal s))
  have ok1 := Bd.ev_ok hco a (d + 1) lp s ho.1.2.2 hs'
  have ok2 := Hs.ev_ok hco hs (d + 1) lp (a.ev cal s) ho.2.1.2 ok1.1 ok1.2
  have c2 : (hs.ev cal (a.ev cal s)).2.cnt ≤ 900000 := Nat.le_trans le3.cnt hc
  have c1 : (a.ev cal s).2.cnt ≤ 900000 := Nat.le_trans le2.cnt c2
  simp [startS, Rw.da, isPl hp.a0]
  refine (ha (d + 1) lp hb s st ho.1.2.2 hs' hp ht c1).mono ?_
  rintro x st1 ⟨rfl, ch1⟩
  have hp1 := hp.ch ch1
  have ht1 := le1.tl ht
  simp only [kb_app, wq_ret, List.set_cons_succ, List.set_cons_zero]
  refine Wq.seq (fun f st2 => (∃ o8 o10 o11 o12, f = Fl.nx [some (.han n0), some (Rw.tri a hs l).da, some (.han hb), some (.str "try"), some (.lst a.da), some (.lst hs.da), some l.da, some (hs.ev cal (a.ev cal s)).1.da, o8, none, o10, o11, o12, none]) ∧ Ch h hb st1 st2 (hs.ev cal (a.ev cal s)).2) ?_ ?_
  · cases q : a.ev cal s with
    | mk e s1 =>
      rw [q] at ch1 hp1 ht1 ok1 le1 c1 c2
      cases e with
      | on => simp [Hs.ev_not, Rw.da]; exact Ch.refl hp1
      | brk => simp [Hs.ev_not, Rw.da]; exact Ch.refl hp1
      | ret v => simp [Hs.ev_not, Rw.da]; exact Ch.refl hp1
      | thr j v =>
        rw [q] at ok2
        rw [Hs.ev_thr] at c2 ok2 ⊢
        simp
        rw [Hs.da_list]
        have hlen : hs.list.length ≤ 4 := by rw [Hs.list_len]; exact ho.2.1.1
        refine wq_compF (P := hdFit j) (g := hdD) (by omega) ?_ ?_
        · intro x hx
          refine ⟨_, rfl, ?_, fun _ => by simp⟩
          obtain ⟨k, b, a'⟩ := x
          cases k with
          | none => simp [hdD, onD, hdFit]
          | some i =>
            by_cases z : i = j
            · subst z; simp [hdD, onD, hdFit]
            · have z2 : ¬ (i : Int) = (j : Int) := by omega
              simp [hdD, onD, hdFit, z, z2]
        · have hpl : ∀ x ∈ hs.list, CL.pl 58 (hdD x) = true := by
            intro x hx
            have h1 := Hs.pl hs (d + 1) lp ho.1.1 ho.2.1.2
            rw [Hs.da_list, plL_all, List.all_eq_true] at h1
            exact pl_le _ _ _ (by unfold NN; omega) (h1 _ (List.mem_map.mpr ⟨x, hx, rfl⟩))
          have hpl2 : plL 59 ((hs.list.filter (hdFit j)).map hdD) = true := by
            rw [plL_all, List.all_eq_true]
            intro y hy
            obtain ⟨x, hx, rfl⟩ := List.mem_map.mp hy
            exact pl_le _ _ _ (by decide) (hpl x (List.mem_filter.mp hx).1)
          cases q2 : hs.list.filter (hdFit j) with
          | nil =>
            rw [q2] at hpl2
            simp [Rw.da, Hs.da_list]
            exact Ch.refl hp1
          | cons x r =>
            rw [q2] at hpl2 c2 ok2
            have hx : x ∈ hs.list := (List.mem_filter.mp (by rw [q2]; simp : x ∈ hs.list.filter (hdFit j))).1
            obtain ⟨hx1, hx2⟩ := Hs.ok_mem hs ho.2.1.2 x hx
            have hl8 := ok1.2.len
            simp only [List.map_cons] at hpl2
            simp
            rw [wq_ne (by simpa using hpl2) (by simp)]
            simp [hdD]
            rw [wq_setD hp1.ab (ixN_box (by omega))]
            have chs := hp1.set (b := x.2.1) (v := v)
            have hps := hp1.ch chs
            dsimp only at chs hps
            generalize st1.set hb (.lst ((s1.bx.map Da.int).set x.2.1 (.int v))) = stS at chs hps ⊢
            simp [isPl hps.a0]
            refine (hh x hx (d + 1) lp hb ⟨s1.bx.set x.2.1 v, s1.told, s1.cnt⟩ _ hx2 (ok1.2.set ok1.1.2) hps ht1 c2).mono ?_
            rintro y st2 ⟨rfl, ch2⟩
            simp [Rw.da, Hs.da_list]
            exact chs.trans ch2
  · rintro f st2 ⟨⟨o8, o10, o11, o12, rfl⟩, ch2⟩
    have hp2 := hp1.ch ch2
    have ht2 := le2.tl (i := 0) (by simpa using ht1)
    generalize hs.ev cal (a.ev cal s) = R at *
    simp
    cases l with
    | non =>
      rw [Lo.ev]
      simp [Lo.da]
      exact ch1.trans ch2
    | som b =>
      have hc' : (b.ev cal R.2).2.cnt ≤ 900000 := by
        refine Nat.le_trans (Nat.le_of_eq ?_) hc
        rw [Lo.ev]
        cases q : b.ev cal R.2 with
        | mk e s' => cases e <;> rfl
      simp [Lo.da, isPl hp2.a0]
      refine (hl b rfl (d + 1) lp hb R.2 st2 ho.2.2.2 ok2.2 hp2 ht2 hc').mono ?_
      rintro y st3 ⟨rfl, ch3⟩
      rw [Lo.ev]
      cases q : b.ev cal R.2 with
      | mk e s' =>
        rw [q] at ch3
        cases e with
        | on => simp; exact (ch1.trans ch2).trans ch3
        | brk => simp; exact (ch1.trans ch2).trans ch3
        | ret v => simp; exact (ch1.trans ch2).trans ch3
        | thr k v => simp; exact (ch1.trans ch2).trans ch3
end
end CL
namespace CL
open PySem L2
section
variable {P : Pg} {n0 h ix : Nat} {many : List Nat} {cal : Cl} {c : Nat}
/-! a call -/
def bodyC (g : List Da → Mo Da) : Sl → Mo Fl := mSeq (mSet 9 (eMeth "Plain" "worth" (fun ds => ar 3 g (ds ++ [])) (eVar 0) (aCons (eVar 8) (aCons (eVar 2) aNil)))) (mSeq (mIf (tst (e2 neD (e2 ixD (eVar 9) (eC (.int 0))) (eC (.str "on")))) (mRet (eVar 9)) mNil) (mExpr (eApp (eVar 7) (e2 ixD (eVar 9) (eC (.int 1))))))
theorem called_eq (g f : List Da → Mo Da) : m_Plain_called g f = mSeq (mTgt (gT 4 (gsC (gN 3) (gsC (gN 4) (gsC (gN 5) (gsC (gN 6) gsN))))) (eVar 1)) (mSeq (mSet 7 (eH (lDisp aNil))) (mSeq (mFor (iV (eVar 6)) (gN 8) (bodyC g)) (mSeq (mSet 9 (eMeth "Plain" "function" (fun ds => ar 3 f (ds ++ [])) (eVar 0) (aCons (eVar 5) (aCons (eVar 7) aNil)))) (mSeq (mIf (tst (e2 eqD (e2 ixD (eVar 9) (eC (.int 0))) (eC (.str "return")))) (mSeq (mSetI (e2 ixD (eVar 9) (eC (.int 1))) (eVar 2) (eVar 4)) (mRet (eC (.tup [(.str "on")])))) mNil) (mRet (eVar 9)))))) := rfl
/-- the arguments, one behind another, into a new list at o -/
theorem args_ok {hb o : Nat} {s : Sx} {ro0 ro1 ro3 ro4 ro5 ro6 : Option Da} (hs : s.ok) : ∀ (es : List Ex) (all : List Da) (o8 o9 : Option Da) (acc : List Int) (st : Store), (∀ e ∈ es, e.ok 0) → acc.length + es.length ≤ 8 → PlSt P n0 h hb s st → st[o]? = some (.lst (acc.map Da.int)) → o ≠ h → o ≠ hb →
    Wq (forGo none all (gN 8) (bodyC (f_Plain_worth 10)) (es.map Ex.da) [some (.han n0), ro1, some (.han hb), ro3, ro4, ro5, ro6, some (.han o), o8, o9]) st (fun f st' => (((evs s.bx es).2 = none ∧ (∃ o8 o9, f = .nx [some (.han n0), ro1, some (.han hb), ro3, ro4, ro5, ro6, some (.han o), o8, o9]) ∧ st'[o]? = some (.lst ((acc ++ (evs s.bx es).1).map Da.int))) ∨ ∃ v, (evs s.bx es).2 = some v ∧ f = .rt (Ed.thr 0 v).da) ∧ st.length = st'.length ∧ ∀ n, n ≠ o → st'[n]? = st[n]?) noEx
  | [], all, o8, o9, acc, st, he, hl, hp, ho, h1, h2 => by
    simp [evs]
    exact ho
  | e :: es, all, o8, o9, acc, st, he, hl, hp, ho, h1, h2 => by
    simp only [List.map_cons]
    rw [wq_for_cons gN_eq]
    conv => arg 1; unfold bodyC
    have hok := Ex.ev_ok hs.len hs.rg e 0 (he e (by simp))
    simp [isPl hp.a0]
    refine worth_ok hp.a0 hp.ab hs.len hs.rg e 0 10 _ (he e (by simp)) (by decide) ?_
    cases q : e.ev s.bx with
    | flt v => simp [evs, q]
    | ok x =>
      simp [wq_isLs_h ho]
      rw [wq_appD ho (by simp at hl ⊢; omega)]
      simp
      have hol := slt ho
      have hp' : PlSt P n0 h hb s (st.set o (.lst (acc.map Da.int ++ [.int x]))) := by
        have hn0 : n0 ≠ o := fun z => by have := hp.a0; rw [z, ho] at this; cases this
        exact ⟨by rw [List.getElem?_set_ne (Ne.symm hn0)]; exact hp.a0, by rw [List.getElem?_set_ne h1]; exact hp.ah, by rw [List.getElem?_set_ne h2]; exact hp.ab, hp.ne⟩
      refine (args_ok (ro0 := ro0) hs es all _ _ (acc ++ [x]) _ (fun z hz => he z (List.mem_cons_of_mem _ hz)) (by simp at hl ⊢; omega) hp' (by rw [List.getElem?_set_self hol]; simp) h1 h2).mono ?_
      rintro f st' ⟨hf, hl1, hk⟩
      refine ⟨?_, by simpa using hl1, fun n hn => by rw [hk n hn, List.getElem?_set_ne (Ne.symm hn)]⟩
      simp only [evs, q]
      simpa using hf
theorem called_ok {b g : Nat} {es : List Ex} {m : Nat} (hC : CSpec P n0 h ix many cal c) (hco : ClOk ix many cal) (hm : c ≤ m)
    {d hb : Nat} {lp : Bool} {s : Sx} {st : Store} (ho : (Rw.call b g es).ok ix many d lp) (hmany : ∀ k ∈ many, k ≤ 3) (hs : s.ok) (hp : PlSt P n0 h hb s st) (ht : s.told.length ≤ s.cnt) (hc : ((Rw.call b g es).ev cal s).2.cnt ≤ 900000) :
    Wq (f_Plain_called (m + 1) [.han n0, (Rw.call b g es).da, .han hb]) st (fun x st' => x = ((Rw.call b g es).ev cal s).1.da ∧ Ch h hb st st' ((Rw.call b g es).ev cal s).2) noEx := by
  rw [f_Plain_called_s, called_eq]
  obtain ⟨ob, og, om, oe⟩ := ho
  have hel : es.length ≤ 3 := hmany _ (List.mem_of_getElem? om)
  have hlt := slt hp.ah
  have hlb := slt hp.ab
  have hl0 := slt hp.a0
  have hpn : PlSt P n0 h hb s (st ++ [.lst []]) := ⟨by rw [List.getElem?_append_left hl0]; exact hp.a0, by rw [List.getElem?_append_left hlt]; exact hp.ah, by rw [List.getElem?_append_left hlb]; exact hp.ab, hp.ne⟩
  obtain ⟨e1, e2, e3⟩ := evs_ok hs.len hs.rg es oe
  simp [startS]
  conv => arg 1; unfold Rw.da
  simp
  refine (args_ok (o := st.length) (ro0 := none) hs es _ none none [] (st ++ [.lst []]) oe (by simp; omega) hpn (by simp) (by omega) (by omega)).mono ?_
  rintro f st1 ⟨hf, hl1, hk⟩
  have hk' : ∀ n, n < st.length → st1[n]? = st[n]? := fun n hn => by
    rw [hk n (by omega), List.getElem?_append_left hn]
  have hp1 : PlSt P n0 h hb s st1 := ⟨by rw [hk' n0 hl0]; exact hp.a0, by rw [hk' h hlt]; exact hp.ah, by rw [hk' hb hlb]; exact hp.ab, hp.ne⟩
  have hge : st.length ≤ st1.length := by rw [← hl1]; simp
  rw [Rw.ev] at hc ⊢
  rcases hf with ⟨q, ⟨o8, o9, rfl⟩, hown⟩ | ⟨v, q, rfl⟩
  · rw [q] at hc ⊢
    dsimp only at hc ⊢
    simp at hown
    simp [isPl hp1.a0]
    have hcc := hco g (evs s.bx es).1 s.told s.cnt og (by rw [e3 q]; exact om) e1
    have hcb : (cal g (evs s.bx es).1 s.told s.cnt).2.2 ≤ 900000 := by
      cases q2 : cal g (evs s.bx es).1 s.told s.cnt with
      | mk e y =>
        obtain ⟨t, c'⟩ := y
        rw [q2] at hc
        cases e <;> exact hc
    refine (hC m g (evs s.bx es).1 s.told s.cnt (.han st.length) st1 hm og (by rw [e3 q]; exact om) e1 (by unfold lsOf; dsimp only; rw [hown]) hp1.a0 hp1.ah ht hcb).mono ?_
    rintro x st2 ⟨rfl, k1, k2, k3⟩
    cases q2 : cal g (evs s.bx es).1 s.told s.cnt with
    | mk e y =>
      obtain ⟨t, c'⟩ := y
      rw [q2] at k1 hcc
      have ab2 : st2[hb]? = some (.lst (s.bx.map Da.int)) := by rw [k3 hb (by omega) (Ne.symm hp.ne)]; exact hp1.ab
      have ch : Ch h hb st st2 ⟨s.bx, t, c'⟩ := ⟨k1, ab2, Nat.le_trans hge k2, fun n z1 z2 z3 => by rw [k3 n (by omega) z2, hk' n z1]⟩
      have hp2 : PlSt P n0 h hb ⟨s.bx, t, c'⟩ st2 := hp.ch ch
      cases e with
      | on => exact absurd rfl hcc.2
      | brk => exact nomatch hcc.1
      | ret v =>
        simp
        rw [wq_setD ab2 (ixN_box (by rw [hs.len]; exact ob))]
        simp
        exact ch.trans hp2.set
      | thr k v =>
        simp
        exact ch
  · rw [q]
    simp
    exact ⟨hp1.ah, hp1.ab, hge, fun n z1 _ _ => hk' n z1⟩
/-! a statement -/
theorem row_ok {r : Rw} {m d : Nat} (hcl : ClLe cal) (hco : ClOk ix many cal) (hC : CSpec P n0 h ix many cal c) (hmany : ∀ k ∈ many, k ≤ 3) (hm : r.nd c ≤ m)
    (hif : ∀ e a b, r = .ifs e a b → PSpec P n0 h ix many cal a (m - 1) ∧ PSpec P n0 h ix many cal b (m - 1)) (hlo : ∀ n a, r = .loop n a → PSpec P n0 h ix many cal a (m - 2))
    (htr : ∀ a hs l, r = .tri a hs l → PSpec P n0 h ix many cal a (m - 2) ∧ (∀ x ∈ hs.list, PSpec P n0 h ix many cal x.2.2 (m - 2)) ∧ ∀ b, l = .som b → PSpec P n0 h ix many cal b (m - 2))
    {hb : Nat} {lp : Bool} {s : Sx} {st : Store} (hd : d ≤ 6) (ho : r.ok ix many d lp) (hs : s.ok) (hp : PlSt P n0 h hb s st) (ht : s.told.length + 1 ≤ s.cnt) (hc : (r.ev cal s).2.cnt ≤ 900000) :
    Wq (f_Plain_row m [.han n0, r.da, .han hb]) st (fun x st' => x = (r.ev cal s).1.da ∧ Ch h hb st st' (r.ev cal s).2) noEx := by
  have hm1 : 1 ≤ m := by
    refine Nat.le_trans ?_ hm
    cases r <;> simp only [Rw.nd] <;> omega
  obtain ⟨m, rfl⟩ := Nat.exists_eq_add_of_le' hm1
  rw [f_Plain_row_s]
  unfold m_Plain_row
  have hcr := Ch.refl hp
  cases r with
  | brk => simp [startS, Rw.da, Rw.ev]; exact hcr
  | loop n a =>
    obtain ⟨m, rfl⟩ : ∃ k, m = k + 1 := ⟨m - 1, by simp [Rw.nd] at hm; omega⟩
    have h0 : PSpec P n0 h ix many cal a m := by
      have := hlo n a rfl
      rw [show m + 1 + 1 - 2 = m by omega] at this
      exact this
    obtain ⟨⟨z1, z2⟩, z3, z4, z5⟩ := ho
    have ht' : s.told.length ≤ s.cnt := by omega
    have key : Wq (f_Plain_looped (m + 1) [.han n0, (Rw.loop n a).da, .han hb]) st (fun x st' => x = ((Rw.loop n a).ev cal s).1.da ∧ Ch h hb st st' ((Rw.loop n a).ev cal s).2) noEx := by
      exact @plLoop P n0 h ix many cal a m hcl hco h0 (d + 1) hb n s st z2 z5 hs hp ht' hc
    generalize (Rw.loop n a).ev cal s = R at *
    simp only [Rw.da] at key
    simp [startS, Rw.da, isPl hp.a0]
    refine key.mono fun x st' hx => ?_
    simpa using hx
  | tri a hh l =>
    obtain ⟨m, rfl⟩ : ∃ k, m = k + 1 := ⟨m - 1, by simp [Rw.nd] at hm; omega⟩
    obtain ⟨t1, t2, t3⟩ := htr a hh l rfl
    have t1' : PSpec P n0 h ix many cal a m := t1
    have t2' : ∀ x ∈ hh.list, PSpec P n0 h ix many cal x.2.2 m := t2
    have t3' : ∀ b, l = .som b → PSpec P n0 h ix many cal b m := t3
    have key := tried_ok hcl hco t1' t2' t3' ho hd hs hp (by omega) hc
    generalize (Rw.tri a hh l).ev cal s = R at *
    simp only [Rw.da] at key
    simp [startS, Rw.da, isPl hp.a0]
    refine key.mono fun x st' hx => ?_
    simpa using hx
  | call b g es =>
    obtain ⟨m, rfl⟩ : ∃ k, m = k + 1 := ⟨m - 1, by simp [Rw.nd] at hm; omega⟩
    have key := called_ok hC hco (m := m) (by simp [Rw.nd] at hm; omega) ho hmany hs hp (by omega) hc
    generalize (Rw.call b g es).ev cal s = R at *
    simp only [Rw.da] at key
    simp [startS, Rw.da, isPl hp.a0]
    refine key.mono fun x st' hx => ?_
    simpa using hx
  | set b e =>
    simp [startS, Rw.da, isPl hp.a0]
    refine worth_ok hp.a0 hp.ab hs.len hs.rg e 0 10 _ ho.2 (by decide) ?_
    rw [Rw.ev]
    cases q : e.ev s.bx with
    | flt v => simp; exact hcr
    | ok v =>
      simp
      rw [wq_setD hp.ab (ixN_box (by rw [hs.len]; exact ho.1))]
      simp
      exact hp.set
  | out e =>
    simp [startS, Rw.da, isPl hp.a0]
    refine worth_ok hp.a0 hp.ab hs.len hs.rg e 0 10 _ ho (by decide) ?_
    rw [Rw.ev] at hc ⊢
    cases q : e.ev s.bx with
    | flt v => simp; exact hcr
    | ok v =>
      rw [q] at hc
      simp at hc
      simp
      rw [wq_fldD hp.a0 (by simp) (x := .han h) (by simp [List.lookup])]
      simp [wq_isLs_h hp.ah]
      rw [wq_appD hp.ah (by simp; omega)]
      simp
      exact ⟨by rw [List.getElem?_set_self (slt hp.ah)]; simp, by rw [List.getElem?_set_ne hp.ne]; exact hp.ab, by simp, fun n _ z _ => List.getElem?_set_ne (Ne.symm z)⟩
  | thr k e =>
    simp [startS, Rw.da, isPl hp.a0]
    refine worth_ok hp.a0 hp.ab hs.len hs.rg e 0 10 _ ho.2 (by decide) ?_
    rw [Rw.ev]
    cases q : e.ev s.bx with
    | flt v => simp; exact hcr
    | ok v => simp; exact hcr
  | ret e =>
    simp [startS, Rw.da, isPl hp.a0]
    refine worth_ok hp.a0 hp.ab hs.len hs.rg e 0 10 _ ho (by decide) ?_
    rw [Rw.ev]
    cases q : e.ev s.bx with
    | flt v => simp; exact hcr
    | ok v => simp; exact hcr
  | ifs e a b =>
    obtain ⟨i1, i2⟩ := hif e a b rfl
    have i1' : PSpec P n0 h ix many cal a m := i1
    have i2' : PSpec P n0 h ix many cal b m := i2
    simp [startS, Rw.da, isPl hp.a0]
    refine worth_ok hp.a0 hp.ab hs.len hs.rg e 0 10 _ ho.1 (by decide) ?_
    rw [Rw.ev] at hc ⊢
    cases q : e.ev s.bx with
    | flt v => simp; exact hcr
    | ok v =>
      rw [q] at hc
      dsimp only at hc ⊢
      by_cases z : v = 0
      · simp [z] at hc
        simp [z, isPl hp.a0]
        refine (i2' (d + 1) lp hb s st ho.2.2.2 hs hp (by omega) hc).mono fun x st' hx => ?_
        simpa using hx
      · simp [z] at hc
        simp [z, isPl hp.a0]
        refine (i1' (d + 1) lp hb s st ho.2.1.2.2 hs hp (by omega) hc).mono fun x st' hx => ?_
        simpa using hx
end
end CL
namespace CL
open PySem L2
section
variable {P : Pg} {n0 h ix : Nat} {many : List Nat} {cal : Cl} {c : Nat}
theorem RSpec.of {r : Rw} {m : Nat} (hcl : ClLe cal) (hco : ClOk ix many cal) (hC : CSpec P n0 h ix many cal c) (hmany : ∀ k ∈ many, k ≤ 3) (hm : r.nd c ≤ m)
    (hif : ∀ e a b, r = .ifs e a b → PSpec P n0 h ix many cal a (m - 1) ∧ PSpec P n0 h ix many cal b (m - 1)) (hlo : ∀ n a, r = .loop n a → PSpec P n0 h ix many cal a (m - 2))
    (htr : ∀ a hs l, r = .tri a hs l → PSpec P n0 h ix many cal a (m - 2) ∧ (∀ x ∈ hs.list, PSpec P n0 h ix many cal x.2.2 (m - 2)) ∧ ∀ b, l = .som b → PSpec P n0 h ix many cal b (m - 2)) : RSpec P n0 h ix many cal r m := by
  intro d lp hb s st ho hs hp ht hc
  by_cases hd : d ≤ 6
  · exact row_ok hcl hco hC hmany hm hif hlo htr hd ho hs hp ht hc
  · -- beyond the depth nothing stands in a statement
    cases r with
    | tri a hh l => have := ho.1.1; omega
    | brk => exact row_ok (d := 0) (lp := lp) hcl hco hC hmany hm hif hlo htr (by decide) ho hs hp ht hc
    | set b e => exact row_ok (d := 0) (lp := lp) hcl hco hC hmany hm hif hlo htr (by decide) ho hs hp ht hc
    | out e => exact row_ok (d := 0) (lp := lp) hcl hco hC hmany hm hif hlo htr (by decide) ho hs hp ht hc
    | thr k e => exact row_ok (d := 0) (lp := lp) hcl hco hC hmany hm hif hlo htr (by decide) ho hs hp ht hc
    | ret e => exact row_ok (d := 0) (lp := lp) hcl hco hC hmany hm hif hlo htr (by decide) ho hs hp ht hc
    | call b g es => exact row_ok (d := 0) (lp := lp) hcl hco hC hmany hm hif hlo htr (by decide) ho hs hp ht hc
    | ifs e a b => have := ho.2.1.1; omega
    | loop n a => have := ho.2.1; omega
mutual
theorem Rw.plain (hcl : ClLe cal) (hco : ClOk ix many cal) (hC : CSpec P n0 h ix many cal c) (hmany : ∀ k ∈ many, k ≤ 3) : ∀ (r : Rw) (m : Nat), r.nd c ≤ m → RSpec P n0 h ix many cal r m
  | .set b e, m, hm => RSpec.of hcl hco hC hmany hm (fun _ _ _ z => nomatch z) (fun _ _ z => nomatch z) (fun _ _ _ z => nomatch z)
  | .out e, m, hm => RSpec.of hcl hco hC hmany hm (fun _ _ _ z => nomatch z) (fun _ _ z => nomatch z) (fun _ _ _ z => nomatch z)
  | .thr k e, m, hm => RSpec.of hcl hco hC hmany hm (fun _ _ _ z => nomatch z) (fun _ _ z => nomatch z) (fun _ _ _ z => nomatch z)
  | .call b g es, m, hm => RSpec.of hcl hco hC hmany hm (fun _ _ _ z => nomatch z) (fun _ _ z => nomatch z) (fun _ _ _ z => nomatch z)
  | .brk, m, hm => RSpec.of hcl hco hC hmany hm (fun _ _ _ z => nomatch z) (fun _ _ z => nomatch z) (fun _ _ _ z => nomatch z)
  | .ret e, m, hm => RSpec.of hcl hco hC hmany hm (fun _ _ _ z => nomatch z) (fun _ _ z => nomatch z) (fun _ _ _ z => nomatch z)
  | .ifs e a b, m, hm => by
    have hm' : max (a.nd c) (b.nd c) + 1 ≤ m := by simpa [Rw.nd] using hm
    have h1 := Bd.plain hcl hco hC hmany a (m - 1) (by omega)
    have h2 := Bd.plain hcl hco hC hmany b (m - 1) (by omega)
    exact RSpec.of hcl hco hC hmany hm (fun _ _ _ z => by cases z; exact ⟨h1, h2⟩) (fun _ _ z => nomatch z) (fun _ _ _ z => nomatch z)
  | .loop n a, m, hm => by
    have hm' : a.nd c + 2 ≤ m := by simpa [Rw.nd] using hm
    have h1 := Bd.plain hcl hco hC hmany a (m - 2) (by omega)
    exact RSpec.of hcl hco hC hmany hm (fun _ _ _ z => nomatch z) (fun _ _ z => by cases z; exact h1) (fun _ _ _ z => nomatch z)
  | .tri a hs l, m, hm => by
    have hm' : max (a.nd c) (max (hs.nd c) (l.nd c)) + 2 ≤ m := by simpa [Rw.nd] using hm
    have h1 := Bd.plain hcl hco hC hmany a (m - 2) (by omega)
    have h2 := Hs.plain hcl hco hC hmany hs (m - 2) (by omega)
    have h3 := Lo.plain hcl hco hC hmany l (m - 2) (by omega)
    exact RSpec.of hcl hco hC hmany hm (fun _ _ _ z => nomatch z) (fun _ _ z => nomatch z) (fun _ _ _ z => by cases z; exact ⟨h1, h2, h3⟩)
theorem Bd.plainF (hcl : ClLe cal) (hco : ClOk ix many cal) (hC : CSpec P n0 h ix many cal c) (hmany : ∀ k ∈ many, k ≤ 3) : ∀ (b : Bd) (m : Nat), b.nd c ≤ m + 1 → FSpec P n0 h ix many cal b m
  | .nil, m, hm => pl_nil
  | .cons r b, m, hm => by
    have hm' : max (r.nd c + 1) (b.nd c) ≤ m + 1 := by simpa [Bd.nd] using hm
    exact pl_cons hcl hco (Rw.plain hcl hco hC hmany r m (by omega)) (Bd.plainF hcl hco hC hmany b m (by omega))
theorem Bd.plain (hcl : ClLe cal) (hco : ClOk ix many cal) (hC : CSpec P n0 h ix many cal c) (hmany : ∀ k ∈ many, k ≤ 3) : ∀ (b : Bd) (m : Nat), b.nd c ≤ m → PSpec P n0 h ix many cal b m
  | .nil, m, hm => by
    have hm' : 1 ≤ m := by simpa [Bd.nd] using hm
    obtain ⟨m, rfl⟩ := Nat.exists_eq_add_of_le' hm'
    exact FSpec.rows pl_nil
  | .cons r b, m, hm => by
    have hm' : max (r.nd c + 1) (b.nd c) ≤ m := by simpa [Bd.nd] using hm
    obtain ⟨m, rfl⟩ : ∃ k, m = k + 1 := ⟨m - 1, by omega⟩
    exact FSpec.rows (pl_cons hcl hco (Rw.plain hcl hco hC hmany r m (by omega)) (Bd.plainF hcl hco hC hmany b m (by omega)))
theorem Hs.plain (hcl : ClLe cal) (hco : ClOk ix many cal) (hC : CSpec P n0 h ix many cal c) (hmany : ∀ k ∈ many, k ≤ 3) : ∀ (b : Hs) (m : Nat), b.nd c ≤ m → ∀ x ∈ b.list, PSpec P n0 h ix many cal x.2.2 m
  | .nil, m, hm, x, hx => nomatch hx
  | .cons k b a hh, m, hm, x, hx => by
    have hm' : max (a.nd c) (hh.nd c) ≤ m := by simpa [Hs.nd] using hm
    have h1 := Bd.plain hcl hco hC hmany a m (by omega)
    have h2 := Hs.plain hcl hco hC hmany hh m (by omega)
    rcases List.mem_cons.mp hx with rfl | hx
    · exact h1
    · exact h2 x hx
theorem Lo.plain (hcl : ClLe cal) (hco : ClOk ix many cal) (hC : CSpec P n0 h ix many cal c) (hmany : ∀ k ∈ many, k ≤ 3) : ∀ (b : Lo) (m : Nat), b.nd c ≤ m → ∀ a, b = .som a → PSpec P n0 h ix many cal a m
  | .non, m, hm, a, z => nomatch z
  | .som b, m, hm, a, z => by
    have hm' : b.nd c ≤ m := by simpa [Lo.nd] using hm
    have h1 := Bd.plain hcl hco hC hmany b m hm'
    cases z
    exact h1
end
end
/-! ### functions -/
theorem fn_one {P : Pg} {n0 h : Nat} (hP : P.ok) : ∀ (k g : Nat), P.length ≤ k + g → ∀ (m : Nat) (args told : List Int) (cnt : Nat) (own : Da) (st : Store), P.nd k ≤ m → (P.map (·.1))[g]? = some args.length → (∀ v ∈ args, Rg v) → lsOf st own = some (args.map Da.int) → st[n0]? = some (.ins "Plain" (plainF P h)) → st[h]? = some (.lst (told.map Da.int)) → told.length ≤ cnt → (fnEv P k g args told cnt).2.2 ≤ 900000 →
    Wq (f_Plain_function m [.han n0, .int g, own]) st (fun x st' => x = (fnEv P k g args told cnt).1.da ∧ st'[h]? = some (.lst ((fnEv P k g args told cnt).2.1.map Da.int)) ∧ st.length ≤ st'.length ∧ ∀ n, n < st.length → n ≠ h → st'[n]? = st[n]?) noEx
  | 0, g, hk => fun m args told cnt own st h1 h3 => by
    have : g < P.length := by
      obtain ⟨h, _⟩ := List.getElem?_eq_some_iff.mp h3
      simpa using h
    omega
  | k + 1, g, hk => fun m args told cnt own st hm hmg hra hown h0 hh ht hc => by
    rw [List.getElem?_map] at hmg
    obtain ⟨f, hf, hl⟩ := Option.map_eq_some_iff.mp hmg
    have hfm := List.mem_of_getElem? hf
    have hp3 := hP.par f hfm
    have hnd := Pg.nd_ge (k := k) hfm
    obtain ⟨m, rfl⟩ : ∃ j, m = j + 1 := ⟨m - 1, by omega⟩
    have hco := fnEv_ok hP k g (by omega)
    have hbo := hP.bod g f hf
    have hb := Bd.plain (fnEv_le P k) hco (fun m g' args told cnt own st hm hg => fn_one (n0 := n0) (h := h) hP k g' (by omega) m args told cnt own st hm) (by
      intro j hj
      obtain ⟨f', hf', rfl⟩ := List.mem_map.mp hj
      exact hP.par f' hf') f.2 m (by omega)
    have hlt := slt hh
    have hl0 := slt h0
    have hsx : Sx.ok ⟨box8 args, told, cnt⟩ := box8_ok (by omega) hra
    rw [f_Plain_function_s]
    unfold m_Plain_function
    have hlen : ∀ {post : Da → Store → Prop} {ex : Str → List Da → Store → Prop}, Wq (lenD own) st post ex ↔ post (.int args.length) st := by
      intro post ex
      cases own with
      | lst xs =>
        simp [lsOf] at hown
        subst hown
        simp
      | han n =>
        have h2 : st[n]? = some (.lst (args.map Da.int)) := by
          unfold lsOf at hown
          dsimp only at hown
          split at hown
          · rename_i ys q; cases hown; exact q
          · cases hown
        rw [wq_len_h h2]
        simp
      | fro xs => simp [lsOf] at hown
      | tup xs => simp [lsOf] at hown
      | int i => simp [lsOf] at hown
      | str i => simp [lsOf] at hown
      | bl i => simp [lsOf] at hown
      | non => simp [lsOf] at hown
    have hrep : ∀ {post : List Da → Store → Prop} {ex : Str → List Da → Store → Prop}, Wq (repL (.lst [.int 0]) (.int (8 - args.length))) st post ex ↔ post (List.replicate (8 - args.length) (.int 0)) st := by
      intro post ex
      rw [wq_iff]
      unfold Wp repL
      dsimp only [lsOf]
      have e1 : (8 - (args.length : Int)).toNat = 8 - args.length := by omega
      have e3 : args.length ≤ 8 := by omega
      rw [if_pos ⟨by omega, by omega, by rw [e1]; show 1 * (8 - args.length) ≤ 1000000; omega⟩, e1]
      have e2 : (List.replicate (8 - args.length) [Da.int 0]).flatten = List.replicate (8 - args.length) (Da.int 0) := by
        generalize 8 - args.length = j
        induction j with
        | zero => rfl
        | succ j ih => rw [List.replicate_succ, List.flatten_cons, ih]; rfl
      rw [e2]
    have hcat : ∀ {post : List Da → Store → Prop} {ex : Str → List Da → Store → Prop}, Wq (catL own (.lst (List.replicate (8 - args.length) (.int 0)))) st post ex ↔ post ((box8 args).map Da.int) st := by
      intro post ex
      rw [wq_iff]
      unfold Wp catL
      rw [hown]
      dsimp only [lsOf]
      rw [if_pos (by rw [List.length_map, List.length_replicate]; show _ ≤ 1000000; omega)]
      simp [box8]
    simp [startS, hlen, hrep, hcat]
    have hp1 : PlSt P n0 h st.length ⟨box8 args, told, cnt⟩ (st ++ [.lst ((box8 args).map Da.int)]) :=
      ⟨by rw [List.getElem?_append_left hl0]; exact h0, by rw [List.getElem?_append_left hlt]; exact hh, by simp, by omega⟩
    simp [isPl hp1.a0]
    rw [wq_fldD hp1.a0 (by simp) (x := P.da) (by simp [List.lookup])]
    simp [Pg.da]
    rw [wq_ix_l (x := f.da) (atI_nat (by rw [List.getElem?_map, hf]; rfl))]
    simp [Fn.da]
    have hcc : (f.2.ev (fnEv P k) ⟨box8 args, told, cnt⟩).2.cnt ≤ 900000 := by
      rw [fnEv, hf] at hc
      exact hc
    refine (hb 0 false st.length ⟨box8 args, told, cnt⟩ _ hbo.rows hsx hp1 ht hcc).mono ?_
    rintro x st1 ⟨rfl, ch⟩
    rw [fnEv, hf]
    dsimp only
    have hkp : ∀ n, n < st.length → n ≠ h → st1[n]? = st[n]? := fun n z1 z2 => by
      rw [ch.kp n (by simp; omega) z2 (by omega), List.getElem?_append_left z1]
    have hge : st.length ≤ st1.length := Nat.le_trans (by simp) ch.ge
    have hok := Bd.ev_ok hco f.2 0 false ⟨box8 args, told, cnt⟩ hbo.rows hsx
    cases q : (f.2.ev (fnEv P k) ⟨box8 args, told, cnt⟩).1 with
    | on => simp [fnE2]; exact ⟨ch.ah, hge, hkp⟩
    | brk => rw [q] at hok; exact nomatch hok.1
    | ret v => simp [fnE2]; exact ⟨ch.ah, hge, hkp⟩
    | thr j v => simp [fnE2]; exact ⟨ch.ah, hge, hkp⟩
theorem fn_plain {P : Pg} {n0 h : Nat} (hP : P.ok) (k ix : Nat) (hk : P.length ≤ k + ix + 1) : CSpec P n0 h ix (P.map (·.1)) (fnEv P k) (P.nd k) :=
  fun m g args told cnt own st hm hg => fn_one hP k g (by omega) m args told cnt own st hm
end CL
namespace CL
open PySem L2
section
variable {st : Store} {ex : Str → List Da → Store → Prop} {post : Da → Store → Prop}
theorem wq_compD {all : List Da} {t : Tg} {e : Sl → Mo Da} {ro : Sl} {xs : List Da} {g : Da → Da} {postL : List Da → Store → Prop} (hx : xs.length < 1000000)
    (h : ∀ x ∈ xs, ∃ ro1, t x ro = some ro1 ∧ Wq (e ro1) st (fun d s => d = g x ∧ s = st) noEx) (hp : postL (xs.map g) st) : Wq (compGo none all t tYes_ e ro xs []) st postL ex := by
  have := wq_compM (ex := ex) (all := all) (ro := ro) (e := e) (t := t) (rs := xs) (f := id) (g := g) hx h hp
  rwa [List.map_id] at this
theorem wq_allT {α : Type} {xs : List α} : Wq (allD (.lst (xs.map fun _ => Da.bl true))) st post ex ↔ post (.bl true) st := by
  have e : ((xs.map fun _ => true).all id) = true := by
    rw [List.all_eq_true]
    intro x hx
    obtain ⟨_, _, rfl⟩ := List.mem_map.mp hx
    rfl
  rw [wq_all (bs := xs.map fun _ => true) (by simp), e]
@[simp] theorem wq_whole {i lo hi : Int} : Wq (f_is_whole [.int i, .int lo, .int hi]) st post ex ↔ post (.bl (decide (lo ≤ i ∧ i ≤ hi))) st := by
  unfold f_is_whole m_is_whole
  simp [startS, isTn]
  by_cases h1 : lo ≤ i <;> simp [h1]
@[simp] theorem wq_whole_t {xs : List Da} {lo hi : Int} : Wq (f_is_whole [.tup xs, .int lo, .int hi]) st post ex ↔ post (.bl false) st := by
  unfold f_is_whole m_is_whole
  simp [startS, isTn]
theorem is_worth_ok : ∀ (e : Ex) (d m : Nat) (i : Int) (st : Store) (ex : Str → List Da → Store → Prop) (post : Da → Store → Prop), e.ok d → 8 ≤ m + d → i = d → post (.bl true) st → Wq (f_is_worth m [e.da, .int i]) st post ex
  | .num n, d, 0, i, st, ex, post, ho, hm, hi, hp => by have := ho.1; omega
  | .box n, d, 0, i, st, ex, post, ho, hm, hi, hp => by have := ho.1; omega
  | .op s a b, d, 0, i, st, ex, post, ho, hm, hi, hp => by have := ho.1; omega
  | .num n, d, m + 1, i, st, ex, post, ho, hm, hi, hp => by
    rw [f_is_worth_s]
    unfold m_is_worth
    have h1 : ¬ (6 : Int) < i := by have := ho.1; omega
    have h2 := ho.2
    simpa [startS, Ex.da, h1, h2] using hp
  | .box k, d, m + 1, i, st, ex, post, ho, hm, hi, hp => by
    rw [f_is_worth_s]
    unfold m_is_worth
    have h1 : ¬ (6 : Int) < i := by have := ho.1; omega
    have h2 : (k : Int) ≤ 7 := by have := ho.2; omega
    simpa [startS, Ex.da, h1, isTn, h2] using hp
  | .op s a b, d, m + 1, i, st, ex, post, ho, hm, hi, hp => by
    rw [f_is_worth_s]
    unfold m_is_worth
    have h1 : ¬ (6 : Int) < i := by have := ho.1; omega
    have key : Wq (mRet (vAnd (eCall (fun ds => ar 2 (f_is_worth m) ds) (aCons (e2 ixD (eVar 0) (eC (.int 1))) (aCons (e2 addD (eVar 1) (eC (.int 1))) aNil))) (eCall (fun ds => ar 2 (f_is_worth m) ds) (aCons (e2 ixD (eVar 0) (eC (.int 2))) (aCons (e2 addD (eVar 1) (eC (.int 1))) aNil)))) [some (Ex.op s a b).da, some (.int i)]) st (kb fnE post ex) ex := by
      simp [Ex.da]
      refine is_worth_ok a (d + 1) m _ st _ _ ho.2.1 (by omega) (by omega) ?_
      simp
      exact is_worth_ok b (d + 1) m _ st _ _ ho.2.2 (by omega) (by omega) (by simpa using hp)
    cases s <;> simpa [startS, Ex.da, Sg.str, h1, isTn] using key
/-! statements -/
def placeD (ix : Nat) (many : List Nat) : Da := .tup [.int ix, .lst (many.map fun k => Da.int (k : Nat))]
theorem is_call_ok {b g ix : Nat} {es : List Ex} {many : List Nat} {d : Nat} {lp : Bool} (ho : (Rw.call b g es).ok ix many d lp) (hes : es.length ≤ 1000) (hp : post (.bl true) st) : Wq (f_is_call [(Rw.call b g es).da, placeD ix many]) st post ex := by
  obtain ⟨h1, h2, h3, h4⟩ := ho
  have hg : g < many.length := by
    obtain ⟨h, _⟩ := List.getElem?_eq_some_iff.mp h3
    exact h
  unfold f_is_call m_is_call
  have q0 : ¬ (7 : Int) < b := by omega
  have q1 : (ix : Int) + 1 ≤ g := by omega
  have q2 : (g : Int) ≤ many.length - 1 := by omega
  simp [startS, Rw.da, placeD, q0, q1, q2, isTn]
  rw [wq_ix_l (x := .int es.length) (atI_nat (by rw [List.getElem?_map, h3]; rfl))]
  simp
  refine wq_compM (g := fun _ => .bl true) (by omega) ?_ ?_
  · intro e he
    refine ⟨_, rfl, ?_⟩
    simp
    exact is_worth_ok e 0 10 0 _ _ _ (h4 e he) (by decide) rfl ⟨rfl, rfl⟩
  · simp [wq_allT]
    exact hp
section
variable {ix : Nat} {many : List Nat}
def BSpec (ix : Nat) (many : List Nat) (b : Bd) (d : Nat) (lp : Bool) (m : Nat) : Prop := ∀ (i : Int) (st : Store) (ex : Str → List Da → Store → Prop) (post : Da → Store → Prop), i = d → post (.bl true) st → Wq (f_is_body m [.lst b.da, placeD ix many, .int i, .bl lp]) st post ex
def RwSpec (ix : Nat) (many : List Nat) (r : Rw) (d : Nat) (lp : Bool) (m : Nat) : Prop := ∀ (i : Int) (st : Store) (ex : Str → List Da → Store → Prop) (post : Da → Store → Prop), i = d → post (.bl true) st → Wq (f_is_row m [r.da, placeD ix many, .int i, .bl lp]) st post ex
theorem is_body_of {b : Bd} {d m : Nat} {lp : Bool} (ho : b.ok ix many d lp) (h : ∀ x ∈ b.da, ∀ (i : Int) (st : Store) (ex : Str → List Da → Store → Prop) (post : Da → Store → Prop), i = d → post (.bl true) st → Wq (f_is_row m [x, placeD ix many, .int i, .bl lp]) st post ex) : BSpec ix many b d lp (m + 1) := by
  intro i st ex post hi hp
  rw [f_is_body_s]
  unfold m_is_body
  have hd : ¬ (6 : Int) < i := by have := ho.dp; omega
  have hl : ¬ (8 : Int) < b.da.length := by rw [Bd.da_len]; have := ho.len; omega
  simp [startS, isTn, hd, hl]
  refine wq_compD (g := fun _ => .bl true) (by omega) ?_ ?_
  · intro x hx
    refine ⟨_, rfl, ?_⟩
    simp
    exact h x hx i _ _ _ hi ⟨rfl, rfl⟩
  · simp [wq_allT]
    exact hp
theorem is_try_ok {a : Bd} {hs : Hs} {l : Lo} {d m : Nat} {lp : Bool} (hl4 : hs.len ≤ 4) (ha : BSpec ix many a (d + 1) lp m) (hh : ∀ x ∈ hs.da, ∃ k b a, x = .tup [onD k, .int (b : Nat), .lst a] ∧ (∀ j, k = some j → j < 5) ∧ b < 8 ∧ ∀ (i : Int) (st : Store) (ex : Str → List Da → Store → Prop) (post : Da → Store → Prop), i = (d + 1 : Nat) → post (.bl true) st → Wq (f_is_body m [.lst a, placeD ix many, .int i, .bl lp]) st post ex)
    (hl : ∀ b, l = .som b → BSpec ix many b (d + 1) lp m) {i : Int} (hi : i = d) (hp : post (.bl true) st) : Wq (f_is_try (m + 1) [(Rw.tri a hs l).da, placeD ix many, .int i, .bl lp]) st post ex := by
  rw [f_is_try_s]
  unfold m_is_try
  have hlen : ¬ (4 : Int) < hs.da.length := by rw [Hs.da_len]; omega
  simp [startS, Rw.da]
  refine ha _ _ _ _ (by omega) ?_
  simp [isTn, hlen]
  refine wq_forI (fun j ro s => s = st ∧ ∃ o8, ro = [some (.tup [.str "try", .lst a.da, .lst hs.da, l.da]), some (placeD ix many), some (.int i), some (.bl lp), some (.str "try"), some (.lst a.da), some (.lst hs.da), some l.da, o8]) ⟨rfl, _, rfl⟩ ?_ ?_
  · rintro j x ro s hx ⟨rfl, o8, rfl⟩
    obtain ⟨k, b, a', rfl, hk, hb, hbd⟩ := hh x (List.mem_of_getElem? hx)
    refine ⟨_, rfl, ?_⟩
    have hb7 : (b : Int) ≤ 7 := by omega
    cases k with
    | none =>
      simp [isTn, onD, hb7]
      refine hbd _ _ _ _ (by omega) ?_
      simp
    | some q =>
      have hq : (q : Int) ≤ 4 := by have := hk q rfl; omega
      simp [isTn, onD, hb7, hq]
      refine hbd _ _ _ _ (by omega) ?_
      simp
  · rintro ro s ⟨rfl, o8, rfl⟩
    cases l with
    | non => simp [Lo.da]; exact hp
    | som b =>
      simp [Lo.da]
      refine hl b rfl _ _ _ _ (by omega) ?_
      simpa using hp
theorem is_row_of {r : Rw} {d m : Nat} {lp : Bool} (ho : r.ok ix many d lp) (hmany : ∀ k ∈ many, k ≤ 3)
    (hif : ∀ e a b, r = .ifs e a b → BSpec ix many a (d + 1) lp m ∧ BSpec ix many b (d + 1) lp m) (hlo : ∀ n a, r = .loop n a → BSpec ix many a (d + 1) true m)
    (htr : ∀ a hs l, r = .tri a hs l → ∀ (i : Int) (st : Store) (ex : Str → List Da → Store → Prop) (post : Da → Store → Prop), i = d → post (.bl true) st → Wq (f_is_try m [(Rw.tri a hs l).da, placeD ix many, .int i, .bl lp]) st post ex) (hpl : pl 58 r.da = true) : RwSpec ix many r d lp (m + 1) := by
  intro i st ex post hi hp
  rw [f_is_row_s]
  unfold m_is_row
  have hpl2 := pl_le _ 60 _ (by decide) hpl
  have hw := fun (e : Ex) (he : e.ok 0) (post : Da → Store → Prop) (hp : post (.bl true) st) => is_worth_ok e 0 10 0 st ex post he (by decide) rfl hp
  cases r with
  | set b e =>
    have h1 : (b : Int) ≤ 7 := by have := ho.1; omega
    simp only [Rw.da] at hpl2
    simp [startS, Rw.da, isTn]
    rw [wq_eq hpl2 (by simp)]
    simp [isTn, h1]
    exact hw e ho.2 _ (by simpa using hp)
  | out e =>
    simp only [Rw.da] at hpl2
    simp [startS, Rw.da, isTn]
    rw [wq_eq hpl2 (by simp)]
    simp [isTn]
    exact hw e ho _ (by simpa using hp)
  | thr k e =>
    have h1 : (1 : Int) ≤ k := by have := ho.1; omega
    have h2 : (k : Int) ≤ 4 := by have := ho.1; omega
    simp only [Rw.da] at hpl2
    simp [startS, Rw.da, isTn]
    rw [wq_eq hpl2 (by simp)]
    simp [isTn, h1, h2]
    exact hw e ho.2 _ (by simpa using hp)
  | ret e =>
    simp only [Rw.da] at hpl2
    simp [startS, Rw.da, isTn]
    rw [wq_eq hpl2 (by simp)]
    simp [isTn]
    exact hw e ho _ (by simpa using hp)
  | brk =>
    have h1 : lp = true := ho
    subst h1
    simp [startS, Rw.da, isTn]
    exact hp
  | call b g es =>
    have hel : es.length ≤ 3 := hmany _ (List.mem_of_getElem? ho.2.2.1)
    have hk := is_call_ok (ex := ex) (st := st) (post := kb fnE post ex |> fun k => fun d s => kb (fun d => ret (Fl.rt d)) k ex d s) ho (by omega) (by simpa using hp)
    simp only [Rw.da] at hpl2 hk
    simp [startS, Rw.da, isTn]
    rw [wq_eq hpl2 (by simp)]
    simp [isTn]
    exact hk.mono fun d s h => by simpa using h
  | ifs e a b =>
    obtain ⟨i1, i2⟩ := hif e a b rfl
    simp only [Rw.da] at hpl2
    simp [startS, Rw.da, isTn]
    rw [wq_eq hpl2 (by simp)]
    simp [isTn]
    refine hw e ho.1 _ ?_
    simp
    have hcut : cutD [Da.str "if", e.da, .lst a.da, .lst b.da] (some 2) none = [.lst a.da, .lst b.da] := rfl
    rw [hcut]
    refine wq_compD (g := fun _ => .bl true) (by simp) ?_ ?_
    · intro x hx
      refine ⟨_, rfl, ?_⟩
      simp at hx
      rcases hx with rfl | rfl
      · simp
        exact i1 _ _ _ _ (by omega) ⟨rfl, rfl⟩
      · simp
        exact i2 _ _ _ _ (by omega) ⟨rfl, rfl⟩
    · simp
      exact hp
  | loop n a =>
    have i1 := hlo n a rfl
    have h1 : (1 : Int) ≤ n := by have := ho.1; omega
    have h2 : (n : Int) ≤ 4 := by have := ho.1; omega
    simp only [Rw.da] at hpl2
    simp [startS, Rw.da, isTn]
    rw [wq_eq hpl2 (by simp)]
    simp [isTn, h1, h2]
    refine i1 _ _ _ _ (by omega) (by simpa using hp)
  | tri a hs l =>
    have i1 := htr a hs l rfl
    simp only [Rw.da] at hpl2 i1
    simp [startS, Rw.da, isTn]
    rw [wq_eq hpl2 (by simp)]
    simp [isTn]
    refine i1 _ _ _ _ hi (by simpa using hp)
/-! all of them -/
mutual
theorem Rw.isP (hmany : ∀ k ∈ many, k ≤ 3) : ∀ (r : Rw) (d m : Nat) (lp : Bool), d ≤ 6 → r.ok ix many d lp → 3 * (6 - d) + 3 ≤ m → pl 58 r.da = true → RwSpec ix many r d lp m
  | .set b e, d, 0, lp, hd, ho, hm, hpl => by omega
  | .out e, d, 0, lp, hd, ho, hm, hpl => by omega
  | .thr k e, d, 0, lp, hd, ho, hm, hpl => by omega
  | .call b g es, d, 0, lp, hd, ho, hm, hpl => by omega
  | .brk, d, 0, lp, hd, ho, hm, hpl => by omega
  | .ret e, d, 0, lp, hd, ho, hm, hpl => by omega
  | .ifs e a b, d, 0, lp, hd, ho, hm, hpl => by omega
  | .loop n a, d, 0, lp, hd, ho, hm, hpl => by omega
  | .tri a hs l, d, 0, lp, hd, ho, hm, hpl => by omega
  | .set b e, d, m + 1, lp, hd, ho, hm, hpl => is_row_of ho hmany (fun _ _ _ z => nomatch z) (fun _ _ z => nomatch z) (fun _ _ _ z => nomatch z) hpl
  | .out e, d, m + 1, lp, hd, ho, hm, hpl => is_row_of ho hmany (fun _ _ _ z => nomatch z) (fun _ _ z => nomatch z) (fun _ _ _ z => nomatch z) hpl
  | .thr k e, d, m + 1, lp, hd, ho, hm, hpl => is_row_of ho hmany (fun _ _ _ z => nomatch z) (fun _ _ z => nomatch z) (fun _ _ _ z => nomatch z) hpl
  | .call b g es, d, m + 1, lp, hd, ho, hm, hpl => is_row_of ho hmany (fun _ _ _ z => nomatch z) (fun _ _ z => nomatch z) (fun _ _ _ z => nomatch z) hpl
  | .brk, d, m + 1, lp, hd, ho, hm, hpl => is_row_of ho hmany (fun _ _ _ z => nomatch z) (fun _ _ z => nomatch z) (fun _ _ _ z => nomatch z) hpl
  | .ret e, d, m + 1, lp, hd, ho, hm, hpl => is_row_of ho hmany (fun _ _ _ z => nomatch z) (fun _ _ z => nomatch z) (fun _ _ _ z => nomatch z) hpl
  | .ifs e a b, d, m + 1, lp, hd, ho, hm, hpl => by
    obtain ⟨o1, ⟨o2, o3, o4⟩, o5, o6⟩ := id ho
    have hp' : pl 57 e.da = true ∧ plL 56 a.da = true ∧ plL 56 b.da = true := by simpa [Rw.da] using hpl
    have h1 := Bd.isP hmany a (d + 1) m lp ⟨o2, o3, o4⟩ (by omega) (plL_le _ _ _ (by decide) hp'.2.1)
    have h2 := Bd.isP hmany b (d + 1) m lp ⟨o2, o5, o6⟩ (by omega) (plL_le _ _ _ (by decide) hp'.2.2)
    exact is_row_of ho hmany (fun _ _ _ z => by cases z; exact ⟨h1, h2⟩) (fun _ _ z => nomatch z) (fun _ _ _ z => nomatch z) hpl
  | .loop n a, d, m + 1, lp, hd, ho, hm, hpl => by
    obtain ⟨o1, o2, o3, o4⟩ := id ho
    have hp' : plL 56 a.da = true := by simpa [Rw.da] using hpl
    have h1 := Bd.isP hmany a (d + 1) m true ⟨o2, o3, o4⟩ (by omega) (plL_le _ _ _ (by decide) hp')
    exact is_row_of ho hmany (fun _ _ _ z => nomatch z) (fun _ _ z => by cases z; exact h1) (fun _ _ _ z => nomatch z) hpl
  | .tri a hs l, d, m + 1, lp, hd, ho, hm, hpl => by
    obtain ⟨⟨o1, o2, o3⟩, ⟨o4, o5⟩, o6⟩ := id ho
    have hp' : plL 56 a.da = true ∧ plL 56 hs.da = true ∧ pl 57 l.da = true := by simpa [Rw.da] using hpl
    obtain ⟨m, rfl⟩ : ∃ k, m = k + 1 := ⟨m - 1, by omega⟩
    have h1 := Bd.isP hmany a (d + 1) m lp ⟨o1, o2, o3⟩ (by omega) (plL_le _ _ _ (by decide) hp'.1)
    have h2 := Hs.isP hmany hs (d + 1) m lp o1 o5 (by omega) hp'.2.1
    have h3 := Lo.isP hmany l (d + 1) m lp o1 o6 (by omega) hp'.2.2
    exact is_row_of ho hmany (fun _ _ _ z => nomatch z) (fun _ _ z => nomatch z) (fun _ _ _ z i st ex post hi hp => by cases z; exact is_try_ok o4 h1 h2 h3 hi hp) hpl
theorem Bd.isPr (hmany : ∀ k ∈ many, k ≤ 3) : ∀ (b : Bd) (d m : Nat) (lp : Bool), d ≤ 6 → b.rows ix many d lp → 3 * (6 - d) + 3 ≤ m → plL 58 b.da = true → ∀ x ∈ b.da, ∀ (i : Int) (st : Store) (ex : Str → List Da → Store → Prop) (post : Da → Store → Prop), i = d → post (.bl true) st → Wq (f_is_row m [x, placeD ix many, .int i, .bl lp]) st post ex
  | .nil, d, m, lp, hd, ho, hm, hpl, x, hx => by simp [Bd.da] at hx
  | .cons r b, d, m, lp, hd, ho, hm, hpl, x, hx => by
    have hp' : pl 58 r.da = true ∧ plL 58 b.da = true := by simpa [Bd.da] using hpl
    have h1 := Rw.isP hmany r d m lp hd ho.1 hm hp'.1
    have h2 := Bd.isPr hmany b d m lp hd ho.2 hm hp'.2
    simp only [Bd.da] at hx
    rcases List.mem_cons.mp hx with rfl | hx
    · exact h1
    · exact h2 x hx
theorem Bd.isP (hmany : ∀ k ∈ many, k ≤ 3) : ∀ (b : Bd) (d m : Nat) (lp : Bool), b.ok ix many d lp → 3 * (6 - d) + 4 ≤ m → plL 58 b.da = true → BSpec ix many b d lp m
  | .nil, d, m, lp, ho, hm, hpl => by
    obtain ⟨m, rfl⟩ : ∃ k, m = k + 1 := ⟨m - 1, by omega⟩
    exact is_body_of ho (fun x hx => by simp [Bd.da] at hx)
  | .cons r b, d, m, lp, ho, hm, hpl => by
    obtain ⟨m, rfl⟩ : ∃ k, m = k + 1 := ⟨m - 1, by omega⟩
    have hp' : pl 58 r.da = true ∧ plL 58 b.da = true := by simpa [Bd.da] using hpl
    have h1 := Rw.isP hmany r d m lp ho.dp ho.rows.1 (by omega) hp'.1
    have h2 := Bd.isPr hmany b d m lp ho.dp ho.rows.2 (by omega) hp'.2
    refine is_body_of ho fun x hx => ?_
    simp only [Bd.da] at hx
    rcases List.mem_cons.mp hx with rfl | hx
    · exact h1
    · exact h2 x hx
theorem Hs.isP (hmany : ∀ k ∈ many, k ≤ 3) : ∀ (b : Hs) (d m : Nat) (lp : Bool), d ≤ 6 → b.ok ix many d lp → 3 * (6 - d) + 4 ≤ m → plL 56 b.da = true → ∀ x ∈ b.da, ∃ k b a, x = .tup [onD k, .int (b : Nat), .lst a] ∧ (∀ j, k = some j → j < 5) ∧ b < 8 ∧ ∀ (i : Int) (st : Store) (ex : Str → List Da → Store → Prop) (post : Da → Store → Prop), i = d → post (.bl true) st → Wq (f_is_body m [.lst a, placeD ix many, .int i, .bl lp]) st post ex
  | .nil, d, m, lp, hd, ho, hm, hpl, x, hx => by simp [Hs.da] at hx
  | .cons k b a h, d, m, lp, hd, ho, hm, hpl, x, hx => by
    have hp' : (pl 55 (onD k) = true ∧ plL 54 a.da = true) ∧ plL 56 h.da = true := by simpa [Hs.da] using hpl
    have h1 := Bd.isP hmany a d m lp ⟨hd, ho.2.2.1.1, ho.2.2.1.2⟩ hm (plL_le _ _ _ (by decide) hp'.1.2)
    have h2 := Hs.isP hmany h d m lp hd ho.2.2.2 hm hp'.2
    simp only [Hs.da] at hx
    rcases List.mem_cons.mp hx with rfl | hx
    · exact ⟨k, b, a.da, rfl, ho.1, ho.2.1, h1⟩
    · exact h2 x hx
theorem Lo.isP (hmany : ∀ k ∈ many, k ≤ 3) : ∀ (b : Lo) (d m : Nat) (lp : Bool), d ≤ 6 → b.ok ix many d lp → 3 * (6 - d) + 4 ≤ m → pl 57 b.da = true → ∀ a, b = .som a → BSpec ix many a d lp m
  | .non, d, m, lp, hd, ho, hm, hpl, a, z => nomatch z
  | .som b, d, m, lp, hd, ho, hm, hpl, a, z => by
    have hp' : plL 56 b.da = true := by simpa [Lo.da] using hpl
    have h1 := Bd.isP hmany b d m lp ⟨hd, ho.1, ho.2⟩ hm (plL_le _ _ _ (by decide) hp')
    cases z
    exact h1
end
end
end
section
variable {st : Store} {ex : Str → List Da → Store → Prop} {post : Da → Store → Prop}
theorem Pg.pl {P : Pg} (h : P.ok) : plL 40 (P.map Fn.da) = true := by
  rw [plL_all, List.all_eq_true]
  intro x hx
  obtain ⟨f, hf, rfl⟩ := List.mem_map.mp hx
  obtain ⟨k, hk⟩ := List.getElem?_of_mem hf
  have h1 := Bd.pl f.2 0 false (by decide) (h.bod k f hk).rows
  have h2 := plL_le _ 38 _ (by decide) h1
  simp [Fn.da, h2]
theorem is_program_ok {P : Pg} (h : P.ok) (hp : post (.bl true) st) : Wq (f_is_program [P.da]) st post ex := by
  unfold f_is_program m_is_program
  have h1 := h.l1
  have h5 := h.l5
  have q1 : (1 : Int) ≤ P.length := by omega
  have q2 : (P.length : Int) ≤ 5 := by omega
  have hmany : ∀ k ∈ P.map (·.1), k ≤ 3 := by
    intro k hk
    obtain ⟨f, hf, rfl⟩ := List.mem_map.mp hk
    exact h.par f hf
  simp [startS, Pg.da, isTn, q1, q2]
  refine wq_compM (g := fun _ => .bl true) (by omega) ?_ ?_
  · intro f hf
    refine ⟨_, rfl, ?_⟩
    have := h.par f hf
    have q3 : (f.1 : Int) ≤ 3 := by omega
    simp [Fn.da, isTn, q3]
  · simp [wq_allT]
    refine wq_compM (g := fun f => .int (f.1 : Nat)) (by omega) ?_ ?_
    · intro f hf
      refine ⟨_, rfl, ?_⟩
      simp [Fn.da]
    · obtain ⟨f0, hf0⟩ : ∃ f, P[0]? = some f := ⟨_, List.getElem?_eq_getElem (by omega)⟩
      simp
      have hat : atI (P.map fun f => Da.int (f.1 : Nat)) 0 = some (.int 0) := atI_nat (j := 0) (by rw [List.getElem?_map, hf0]; simp [h.fst f0 hf0])
      rw [wq_ix_l hat]
      have hbig : big (P.length : Int) := ⟨by omega, by omega⟩
      simp [hbig]
      refine wq_compD (g := fun _ => .bl true) (by simp [rngL]; omega) ?_ ?_
      · intro x hx
        obtain ⟨k, hk⟩ := List.getElem?_of_mem hx
        obtain ⟨hk2, rfl⟩ := rng_get hk
        obtain ⟨f, hf⟩ : ∃ f, P[k]? = some f := ⟨_, List.getElem?_eq_getElem (by omega)⟩
        refine ⟨_, rfl, ?_⟩
        simp
        rw [wq_ix_l (x := f.da) (atI_nat (by rw [List.getElem?_map, hf]; rfl))]
        simp [Fn.da]
        have hpl := Pg.pl h
        rw [plL_all, List.all_eq_true] at hpl
        have hpf := hpl f.da (List.mem_map.mpr ⟨f, List.mem_of_getElem? hf, rfl⟩)
        have hpb : plL 38 f.2.da = true := by simpa [Fn.da] using hpf
        have := Bd.isP hmany f.2 0 30 false (h.bod k f hf) (by decide) (plL_le _ _ _ (by decide) hpb) 0 st noEx (fun d s => d = .bl true ∧ s = st) rfl ⟨rfl, rfl⟩
        simpa [placeD, Function.comp_def] using this
      · simp [wq_allT]
        exact hp
theorem look_program_ok {P : Pg} (h : P.ok) (hp : post .non st) : Wq (f_look_program [P.da]) st post ex := by
  unfold f_look_program m_look_program
  simp [startS]
  exact is_program_ok h (by simpa using hp)
end
end CL
namespace CL
open PySem L2
section
variable {st : Store} {post : Da → Store → Prop}
/-- what meaning tells: goal g, numbers args (a list or a tuple) -/
theorem meaning_ok {P : Pg} {g : Nat} {args : List Int} {ws : Da} (hP : P.ok) (hg : ∃ f, P[g]? = some f ∧ f.1 = args.length) (hra : ∀ v ∈ args, Rg v) (hws : ws = .tup (args.map Da.int) ∨ ws = .lst (args.map Da.int))
    (hnd : P.nd P.length ≤ 90) (hc : (fnEv P P.length g args [] 0).2.2 ≤ 900000)
    (hp : ∀ st', st.length ≤ st'.length → (∀ n, n < st.length → st'[n]? = st[n]?) → post (.tup [(fnEv P P.length g args [] 0).1.da, .lst ((fnEv P P.length g args [] 0).2.1.map Da.int)]) st') :
    Wq (f_meaning [P.da, .int g, ws]) st post noEx := by
  obtain ⟨f, hf, hfl⟩ := hg
  have hgl : g < P.length := by
    obtain ⟨h, _⟩ := List.getElem?_eq_some_iff.mp hf
    exact h
  have h3 := hP.par f (List.mem_of_getElem? hf)
  unfold f_meaning m_meaning
  simp [startS]
  unfold f_Plain___init__ m_Plain___init__
  simp [startS]
  refine look_program_ok hP ?_
  simp
  have hset : ∀ (c d : Cell) (r : List Cell), (st ++ c :: r).set st.length d = st ++ d :: r := fun c d r => by simp [List.set_append]
  have hget : ∀ (c : Cell) (r : List Cell), (st ++ c :: r)[st.length]? = some c := fun c r => by simp
  rw [wq_setFD (hget _ _) (by simp) (by simp)]
  simp [hset, putD]
  rw [wq_setFD (hget _ _) (by simp) (by simp)]
  simp [hset, putD]
  obtain ⟨S, hS⟩ : ∃ S, S = st ++ [Cell.ins "Plain" (plainF P (st.length + 1)), .lst []] := ⟨_, rfl⟩
  rw [← hS]
  have a0 : S[st.length]? = some (.ins "Plain" (plainF P (st.length + 1))) := by rw [hS]; simp
  have ah : S[st.length + 1]? = some (.lst (([] : List Int).map Da.int)) := by rw [hS]; simp
  have hSl : S.length = st.length + 2 := by rw [hS]; simp
  have hSk : ∀ n, n < st.length → S[n]? = st[n]? := fun n hn => by rw [hS, List.getElem?_append_left hn]
  unfold f_look_number m_look_number
  have q1 : (g : Int) ≤ P.length - 1 := by omega
  simp [startS, Pg.da, q1]
  have hix : ∀ {post : Da → Store → Prop} {ex : Str → List Da → Store → Prop}, Wq (ixD (.lst (P.map Fn.da)) (.int g)) S post ex ↔ post f.da S := wq_ix_l (atI_nat (by rw [List.getElem?_map, hf]; rfl))
  have key : Wq (mSeq (mIf (tOr_ (tNot_ (tst (eVar 4))) (tNot_ (tst (eCall (one allD) (aCons (eL (lComp (iV (eVar 2)) (gN 6) tYes_ (eCall (fun ds => ar 3 f_is_whole ds) (aCons (eVar 6) (aCons (eC (.int 0)) (aCons (eC (.int 999)) aNil)))) [6])) aNil))))) mNever mNil) (mSeq (mSet 5 (eMeth "Plain" "function" (fun ds => ar 3 (f_Plain_function 90) ds) (eVar 3) (aCons (eVar 1) (aCons (eL (lCall (one listD) (aCons (eVar 2) aNil))) aNil)))) (mRet (eTup (aCons (eVar 5) (aCons (eL (lCall (one listD) (aCons (eFld ["Plain"] "told" (eVar 3)) aNil))) aNil))))) [some (.lst (P.map Fn.da)), some (.int g), some ws, some (.han st.length), some (.bl true), none, none]) S (kb fnE post noEx) noEx := by
    have hcomp : ∀ (postL : List Da → Store → Prop), postL (args.map fun _ => .bl true) S → Wq (compGo none (args.map Da.int) (gN 6) tYes_ (eCall (fun ds => ar 3 f_is_whole ds) (aCons (eVar 6) (aCons (eC (.int 0)) (aCons (eC (.int 999)) aNil)))) [some (.lst (P.map Fn.da)), some (.int g), some ws, some (.han st.length), some (.bl true), none, none] (args.map Da.int) []) S postL noEx := by
      intro postL h
      refine wq_compM (g := fun _ => .bl true) (by omega) ?_ h
      intro v hv
      refine ⟨_, rfl, ?_⟩
      have := hra v hv
      simp [this]
    have hfun : ∀ (post' : Da → Store → Prop), (∀ x st', x = (fnEv P P.length g args [] 0).1.da ∧ st'[st.length + 1]? = some (.lst ((fnEv P P.length g args [] 0).2.1.map Da.int)) ∧ S.length ≤ st'.length ∧ (∀ n, n < S.length → n ≠ st.length + 1 → st'[n]? = S[n]?) → post' x st') → Wq (f_Plain_function 90 [.han st.length, .int g, .lst (args.map Da.int)]) S post' noEx := by
      intro post' h
      refine (fn_one (n0 := st.length) (h := st.length + 1) hP P.length g (by omega) 90 args [] 0 (.lst (args.map Da.int)) S hnd (by rw [List.getElem?_map, hf]; simp [hfl]) hra rfl a0 ah (by simp) hc).mono h
    have htail : ∀ x st', x = (fnEv P P.length g args [] 0).1.da ∧ st'[st.length + 1]? = some (.lst ((fnEv P P.length g args [] 0).2.1.map Da.int)) ∧ S.length ≤ st'.length ∧ (∀ n, n < S.length → n ≠ st.length + 1 → st'[n]? = S[n]?) → post (.tup [(fnEv P P.length g args [] 0).1.da, .lst ((fnEv P P.length g args [] 0).2.1.map Da.int)]) st' ∧ st'[st.length]? = some (.ins "Plain" (plainF P (st.length + 1))) := by
      rintro x st' ⟨rfl, k1, k2, k3⟩
      refine ⟨hp st' (by omega) fun n hn => ?_, by rw [k3 _ (by omega) (by omega)]; exact a0⟩
      rw [k3 n (by omega) (by omega), hSk n hn]
    rcases hws with rfl | rfl
    · simp
      refine hcomp _ ?_
      simp [wq_allT, isPl a0]
      refine hfun _ fun x st' hh => ?_
      obtain ⟨t1, t2⟩ := htail x st' hh
      obtain ⟨rfl, k1, _⟩ := hh
      simp
      rw [wq_fldD t2 (by simp) (x := .han (st.length + 1)) (by simp [List.lookup])]
      simp [wq_list_h k1]
      exact t1
    · simp
      refine hcomp _ ?_
      simp [wq_allT, isPl a0]
      refine hfun _ fun x st' hh => ?_
      obtain ⟨t1, t2⟩ := htail x st' hh
      obtain ⟨rfl, k1, _⟩ := hh
      simp
      rw [wq_fldD t2 (by simp) (x := .han (st.length + 1)) (by simp [List.lookup])]
      simp [wq_list_h k1]
      exact t1
  rcases hws with rfl | rfl
  · simp [isTn, hix, Fn.da, hfl]
    simpa using key
  · simp [isTn, hix, Fn.da, hfl]
    simpa using key
end
end CL
namespace CL
open PySem L2
/-! ### the law's own reading -/
theorem slt' {st : Store} {n : Nat} {c : Cell} (h : st[n]? = some c) : n < st.length := by
  by_cases z : n < st.length
  · exact z
  · rw [List.getElem?_eq_none (by omega)] at h; cases h
theorem fmod1000' (a : Int) : a.fmod 1000 = a % 1000 := Int.fmod_eq_emod_of_nonneg _ (by decide)
theorem atI_box' {bx : List Int} {k : Nat} (hk : k < bx.length) : atI (bx.map Da.int) (k : Int) = some (.int (bx.getD k 0)) := atI_nat (by
  rw [List.getElem?_map, List.getElem?_eq_getElem hk, List.getD_eq_getElem?_getD, List.getElem?_eq_getElem hk]; rfl)
theorem ixN_box' {bx : List Int} {k : Nat} (hk : k < bx.length) : ixN (bx.map Da.int).length (k : Int) = some k := by
  unfold ixN
  rw [if_pos (by omega), if_pos (by simpa using hk)]
  simp
section
variable {st : Store} {ex : Str → List Da → Store → Prop} {post : Da → Store → Prop}
/-- boxes, as data or as a thing -/
def BxAt (st : Store) (b : Da) (bx : List Int) : Prop := (∃ n, b = .han n ∧ st[n]? = some (.lst (bx.map Da.int))) ∨ ∃ r, b = .lst ((bx ++ r).map Da.int)
theorem BxAt.get {b : Da} {bx : List Int} {k : Nat} (h : BxAt st b bx) (hk : k < bx.length) {post : Da → Store → Prop} {ex : Str → List Da → Store → Prop} : Wq (ixD b (.int k)) st post ex ↔ post (.int (bx.getD k 0)) st := by
  rcases h with ⟨n, rfl, h⟩ | ⟨r, rfl⟩
  · exact wq_ix_h h (atI_box' hk)
  · refine wq_ix_l ?_
    rw [atI_box' (by simp; omega)]
    simp [List.getElem?_append_left hk]
theorem reckon_ok {own b : Da} {bx : List Int} (hb : BxAt st b bx) (hr : ∀ v ∈ bx, Rg v) : ∀ (e : Ex) (d m : Nat) (post : Da → Store → Prop), e.ok d → bx.length = 8 → 8 ≤ m + d → post (e.ev bx).da st → Wq (f__law_reckon m [own, e.da, b]) st post ex
  | .num n, d, 0, post, ho, hl, hm, hp => by have := ho.1; omega
  | .box n, d, 0, post, ho, hl, hm, hp => by have := ho.1; omega
  | .op s a c, d, 0, post, ho, hl, hm, hp => by have := ho.1; omega
  | .num n, d, m + 1, post, ho, hl, hm, hp => by
    rw [f__law_reckon_s]
    unfold m__law_reckon
    simpa [startS, Ex.da, isTn, Ex.ev] using hp
  | .box k, d, m + 1, post, ho, hl, hm, hp => by
    rw [f__law_reckon_s]
    unfold m__law_reckon
    have hk : k < bx.length := by have := ho.2; omega
    simpa [startS, Ex.da, isTn, Ex.ev, hb.get hk] using hp
  | .op s a c, d, m + 1, post, ho, hl, hm, hp => by
    rw [f__law_reckon_s]
    unfold m__law_reckon
    have hs : ¬ s.str = "box" := by cases s <;> decide
    simp [startS, Ex.da, isTn, hs]
    refine reckon_ok hb hr a (d + 1) m _ ho.2.1 hl (by omega) ?_
    have hra := Ex.ev_ok hl hr a (d + 1) ho.2.1
    have hrb := Ex.ev_ok hl hr c (d + 1) ho.2.2
    unfold Ex.ev at hp
    cases q : a.ev bx with
    | flt v =>
      rw [q] at hp
      simpa using hp
    | ok x =>
      rw [q] at hp hra
      simp
      refine reckon_ok hb hr c (d + 1) m _ ho.2.2 hl (by omega) ?_
      cases q2 : c.ev bx with
      | flt v =>
        rw [q2] at hp
        simpa using hp
      | ok y =>
        rw [q2] at hp hrb
        dsimp only at hp
        have hx : Rg x := hra
        have hy : Rg y := hrb
        cases s with
        | add => simpa [Sg.str, rk, fmod1000'] using hp
        | sub => simpa [Sg.str, rk, fmod1000'] using hp
        | mul =>
          have hm : CMul x y := .inl ⟨by omega, by omega⟩
          simpa [Sg.str, rk, fmod1000', hm] using hp
        | div =>
          by_cases z : y = 0
          · simp [Sg.str, z]
            simpa [rk, z] using hp
          · have hd : CDivN x y := ⟨z, by omega⟩
            simp [Sg.str, z, hd]
            simpa [rk, z, Int.fdiv_eq_ediv_of_nonneg _ hy.1] using hp
end
/-! ### statements -/
abbrev ownD (P : Pg) (s : Sx) (rest : List Da) : List Da := P.da :: .lst (s.told.map Da.int) :: .int (s.cnt : Nat) :: rest
structure OwSt (P : Pg) (o hb : Nat) (rest : List Da) (s : Sx) (st : Store) : Prop where
  ao : st[o]? = some (.lst (ownD P s rest))
  ab : st[hb]? = some (.lst (s.bx.map Da.int))
  ne : o ≠ hb
structure Lk (o hb : Nat) (st st' : Store) : Prop where
  ge : st.length ≤ st'.length
  kp : ∀ n, n < st.length → n ≠ o → n ≠ hb → st'[n]? = st[n]?
theorem Lk.refl {o hb : Nat} {st : Store} : Lk o hb st st := ⟨Nat.le_refl _, fun _ _ _ _ => rfl⟩
theorem Lk.trans {o hb : Nat} {a b c : Store} (x : Lk o hb a b) (y : Lk o hb b c) : Lk o hb a c :=
  ⟨Nat.le_trans x.ge y.ge, fun n h1 h2 h3 => (y.kp n (Nat.lt_of_lt_of_le h1 x.ge) h2 h3).trans (x.kp n h1 h2 h3)⟩
/-- how a reading ends that may count no more than lim statements -/
def LEnd (P : Pg) (o hb lim : Nat) (rest : List Da) (R : Ed × Sx) (x : Da) (st st' : Store) : Prop := Lk o hb st st' ∧ ((R.2.cnt ≤ lim ∧ x = R.1.da ∧ OwSt P o hb rest R.2 st') ∨ (lim < R.2.cnt ∧ x = .tup [.str "late"]))
section
variable (P : Pg) (o ix lim : Nat) (rest : List Da) (many : List Nat) (cal : Cl)
def LB (b : Bd) (m : Nat) : Prop := ∀ (d : Nat) (lp : Bool) (hb : Nat) (s : Sx) (st : Store), b.rows ix many d lp → s.ok → OwSt P o hb rest s st → s.told.length ≤ s.cnt → s.cnt ≤ lim →
  Wq (f__law_rows m [.han o, .lst b.da, .han hb]) st (fun x st' => LEnd P o hb lim rest (b.ev cal s) x st st') noEx
def LR (r : Rw) (m : Nat) : Prop := ∀ (d : Nat) (lp : Bool) (hb : Nat) (s : Sx) (st : Store), r.ok ix many d lp → s.ok → OwSt P o hb rest s st → s.told.length + 1 ≤ s.cnt → s.cnt ≤ lim →
  Wq (f__law_do m [.han o, r.da, .han hb]) st (fun x st' => LEnd P o hb lim rest (r.ev cal s) x st st') noEx
end
theorem OwSt.cnt {P : Pg} {o hb : Nat} {rest : List Da} {s : Sx} {st : Store} (p : OwSt P o hb rest s st) : OwSt P o hb rest ⟨s.bx, s.told, s.cnt + 1⟩ (st.set o (.lst (P.da :: .lst (s.told.map Da.int) :: .int ((s.cnt : Int) + 1) :: rest))) :=
  ⟨by rw [List.getElem?_set_self (slt' p.ao)]; rfl, by rw [List.getElem?_set_ne p.ne]; exact p.ab, p.ne⟩
theorem Lk.own {o hb : Nat} {st : Store} {c : Cell} : Lk o hb st (st.set o c) := ⟨by simp, fun n _ h _ => List.getElem?_set_ne (Ne.symm h)⟩
theorem Lk.box {o hb : Nat} {st : Store} {c : Cell} : Lk o hb st (st.set hb c) := ⟨by simp, fun n _ _ h => List.getElem?_set_ne (Ne.symm h)⟩
section
variable {P : Pg} {o ix lim : Nat} {rest : List Da} {many : List Nat} {cal : Cl}
def bodyLR (lim : Int) (g : List Da → Mo Da) : Sl → Mo Fl := mSeq (mSetI (e2 addD (e2 ixD (eVar 0) (eC (.int 2))) (eC (.int 1))) (eVar 0) (eC (.int 2))) (mSeq (mIf (tst (e2 gtD (e2 ixD (eVar 0) (eC (.int 2))) (eC (.int lim)))) (mRet (eTup (aCons (eC (.str "late")) aNil))) mNil) (mSeq (mSet 4 (eCall (fun ds => ar 3 g (ds ++ [])) (aCons (eVar 0) (aCons (eVar 3) (aCons (eVar 2) aNil))))) (mIf (tst (e2 neD (e2 ixD (eVar 4) (eC (.int 0))) (eC (.str "on")))) (mRet (eVar 4)) mNil)))
theorem law_rows_eq (g : List Da → Mo Da) : m__law_rows g = mSeq (mFor (iV (eVar 1)) (gN 3) (bodyLR 400 g)) (mRet (eTup (aCons (eC (.str "on")) aNil))) := rfl
/-- how the loop over statements ends -/
def LFEnd (P : Pg) (o hb lim : Nat) (rest : List Da) (R : Ed × Sx) (L : Da) (f : Fl) (st st' : Store) : Prop := Lk o hb st st' ∧ ((R.2.cnt ≤ lim ∧ OwSt P o hb rest R.2 st' ∧ ((R.1 = .on ∧ ∃ o3 o4, f = .nx [some (.han o), some L, some (.han hb), o3, o4]) ∨ (R.1 ≠ .on ∧ f = .rt R.1.da))) ∨ (lim < R.2.cnt ∧ f = .rt (.tup [.str "late"])))
variable (P o ix lim rest many cal) in
def LF (b : Bd) (m : Nat) : Prop := ∀ (d : Nat) (lp : Bool) (hb : Nat) (s : Sx) (st : Store) (all : List Da) (L : Da) (o3 o4 : Option Da), b.rows ix many d lp → s.ok → OwSt P o hb rest s st → s.told.length ≤ s.cnt → s.cnt ≤ lim →
  Wq (forGo none all (gN 3) (bodyLR lim (f__law_do m)) b.da [some (.han o), some L, some (.han hb), o3, o4]) st (fun f st' => LFEnd P o hb lim rest (b.ev cal s) L f st st') noEx
theorem lf_nil {m : Nat} : LF P o ix lim rest many cal .nil m := by
  intro d lp hb s st all L o3 o4 ho hs hp ht hl
  simp [Bd.da]
  exact ⟨Lk.refl, .inl ⟨by simpa [Bd.ev] using hl, by simpa [Bd.ev] using hp, .inl ⟨by simp [Bd.ev], _, _, rfl⟩⟩⟩
theorem Bd.con_on {r : Rw} {b : Bd} {s s' : Sx} (q : r.ev cal ⟨s.bx, s.told, s.cnt + 1⟩ = (.on, s')) : (Bd.cons r b).ev cal s = b.ev cal s' := by rw [Bd.ev, q]
theorem Bd.con_not {r : Rw} {b : Bd} {s s' : Sx} {e : Ed} (q : r.ev cal ⟨s.bx, s.told, s.cnt + 1⟩ = (e, s')) (he : e ≠ .on) : (Bd.cons r b).ev cal s = (e, s') := by
  rw [Bd.ev, q]
  cases e with
  | on => exact absurd rfl he
  | brk => rfl
  | ret v => rfl
  | thr k v => rfl
theorem Le.tl' {i : Nat} {s s' : Sx} (le : Le i s s') (h : s.told.length + i ≤ s.cnt) : s'.told.length ≤ s'.cnt := by
  obtain ⟨x, e1, e2⟩ := le.told
  have := le.cnt
  rw [e1, List.length_append]
  omega
theorem lf_cons {r : Rw} {b : Bd} {m : Nat} (hcl : ClLe cal) (hco : ClOk ix many cal) (hr : LR P o ix lim rest many cal r m) (hb : LF P o ix lim rest many cal b m) : LF P o ix lim rest many cal (.cons r b) m := by
  intro d lp hbx s st all L o3 o4 ho hs hp ht hl
  have le1 := Rw.le hcl r ⟨s.bx, s.told, s.cnt + 1⟩
  have ok1 := Rw.ev_ok hco r d lp ⟨s.bx, s.told, s.cnt + 1⟩ ho.1 hs.same
  have hcnt : (r.ev cal ⟨s.bx, s.told, s.cnt + 1⟩).2.cnt ≤ ((Bd.cons r b).ev cal s).2.cnt := by
    cases q : r.ev cal ⟨s.bx, s.told, s.cnt + 1⟩ with
    | mk e s' =>
      by_cases he : e = .on
      · subst he; rw [Bd.con_on q]; exact (Bd.le hcl b s').cnt
      · rw [Bd.con_not q he]; exact Nat.le_refl _
  simp only [Bd.da]
  rw [wq_for_cons gN_eq]
  conv => arg 1; unfold bodyLR
  have hi2 : ∀ {st : Store} {s : Sx} (h : st[o]? = some (.lst (ownD P s rest))) {post : Da → Store → Prop} {ex : Str → List Da → Store → Prop}, Wq (ixD (.han o) (.int 2)) st post ex ↔ post (.int (s.cnt : Nat)) st := fun h => wq_ix_h h (atI_nat (j := 2) rfl)
  have hp1 := hp.cnt
  have hk1 : Lk o hbx st (st.set o (.lst (P.da :: .lst (s.told.map Da.int) :: .int ((s.cnt : Int) + 1) :: rest))) := Lk.own
  simp [hi2 hp.ao]
  rw [wq_setD (j := 2) hp.ao (by unfold ixN; rw [if_pos (by decide), if_pos (by simp; omega)]; rfl)]
  simp
  generalize st.set o (.lst (P.da :: .lst (s.told.map Da.int) :: .int ((s.cnt : Int) + 1) :: rest)) = st1 at hp1 hk1 ⊢
  simp [hi2 hp1.ao]
  by_cases hlate : lim < s.cnt + 1
  · have z : (lim : Int) < (s.cnt : Int) + 1 := by omega
    have z2 : lim < ((Bd.cons r b).ev cal s).2.cnt := by
      have := le1.cnt
      dsimp only at this
      omega
    simp [z]
    exact ⟨hk1, .inr ⟨z2, rfl⟩⟩
  · have z : ¬ (lim : Int) < (s.cnt : Int) + 1 := by omega
    simp [z]
    refine (hr d lp hbx ⟨s.bx, s.told, s.cnt + 1⟩ st1 ho.1 hs.same hp1 (by simpa using ht) (by dsimp only; omega)).mono ?_
    rintro x st2 ⟨lk2, hx⟩
    have lk := hk1.trans lk2
    rcases hx with ⟨hc2, rfl, ow2⟩ | ⟨hc2, rfl⟩
    · cases q : r.ev cal ⟨s.bx, s.told, s.cnt + 1⟩ with
      | mk e s' =>
        rw [q] at ow2 le1 ok1 hc2 hcnt
        by_cases he : e = .on
        · subst he
          rw [Bd.con_on q]
          simp
          refine (hb d lp hbx s' st2 all L _ _ ho.2 ok1.2 ow2 (le1.tl' (by simpa using ht)) hc2).mono ?_
          rintro f st3 ⟨lk3, hf⟩
          exact ⟨lk.trans lk3, hf⟩
        · rw [Bd.con_not q he]
          have : Wq (if ¬ e = .on then mRet (eVar 4) [some (Da.han o), some L, some (.han hbx), some r.da, some e.da] else mNil [some (Da.han o), some L, some (.han hbx), some r.da, some e.da]) st2 (kb (loopK (forGo none all (gN 3) (bodyLR lim (f__law_do m)) b.da)) (fun f st' => LFEnd P o hbx lim rest (e, s') L f st st') noEx) noEx := by
            simp [he]
            exact ⟨lk, .inl ⟨hc2, ow2, .inr ⟨he, rfl⟩⟩⟩
          cases e with
          | on => exact absurd rfl he
          | brk => simpa using this
          | ret v => simpa using this
          | thr k v => simpa using this
    · simp
      exact ⟨lk, .inr ⟨by omega, rfl⟩⟩
theorem LF.rows {b : Bd} {m : Nat} (hf : LF P o ix 400 rest many cal b m) : LB P o ix 400 rest many cal b (m + 1) := by
  intro d lp hb s st ho hs hp ht hl
  rw [f__law_rows_s, law_rows_eq]
  simp [startS]
  refine (hf d lp hb s st b.da (.lst b.da) none none ho hs hp ht hl).mono ?_
  rintro f st1 ⟨lk, hf⟩
  rcases hf with ⟨hc, ow, ⟨he, o3, o4, rfl⟩ | ⟨he, rfl⟩⟩ | ⟨hc, rfl⟩
  · simp
    exact ⟨lk, .inl ⟨hc, by rw [he]; rfl, ow⟩⟩
  · simp
    exact ⟨lk, .inl ⟨hc, rfl, ow⟩⟩
  · simp
    exact ⟨lk, .inr ⟨hc, rfl⟩⟩
end
end CL
namespace CL
open PySem L2
section
variable {P : Pg} {o ix lim : Nat} {rest : List Da} {many : List Nat} {cal : Cl}
/-! a loop -/
def bodyLL (g : List Da → Mo Da) : Sl → Mo Fl := mSeq (mSet 4 (eCall (fun ds => ar 3 g ds) (aCons (eVar 0) (aCons (e2 ixD (eVar 1) (eC (.int 2))) (aCons (eVar 2) aNil))))) (mIf (tst (e2 neD (e2 ixD (eVar 4) (eC (.int 0))) (eC (.str "on")))) (mRet (eIf (tst (e2 eqD (e2 ixD (eVar 4) (eC (.int 0))) (eC (.str "break")))) (eTup (aCons (eC (.str "on")) aNil)) (eVar 4))) mNil)
theorem lloop_ok {a : Bd} {m : Nat} (hcl : ClLe cal) (hco : ClOk ix many cal) (ha : LB P o ix lim rest many cal a m) {d hb : Nat} {n : Nat} (hr : a.rows ix many d true) : ∀ (xs all : List Da) (o4 o5 : Option Da) (s : Sx) (st : Store), s.ok → OwSt P o hb rest s st → s.told.length ≤ s.cnt → s.cnt ≤ lim →
    Wq (forGo none all (gN 5) (bodyLL (f__law_rows m)) xs [some (.han o), some (Rw.loop n a).da, some (.han hb), some (.str "loop"), o4, o5]) st (fun f st' => Lk o hb st st' ∧ (((loopN (fun s => a.ev cal s) xs.length s).2.cnt ≤ lim ∧ OwSt P o hb rest (loopN (fun s => a.ev cal s) xs.length s).2 st' ∧ (((loopN (fun s => a.ev cal s) xs.length s).1 = .on ∧ ∃ o4 o5, f = .nx [some (.han o), some (Rw.loop n a).da, some (.han hb), some (.str "loop"), o4, o5]) ∨ f = .rt (loopN (fun s => a.ev cal s) xs.length s).1.da)) ∨ (lim < (loopN (fun s => a.ev cal s) xs.length s).2.cnt ∧ f = .rt (.tup [.str "late"])))) noEx
  | [], all, o4, o5, s, st, hs, hp, ht, hl => by
    simp [loopN]
    exact ⟨Lk.refl, hl, hp⟩
  | x :: xs, all, o4, o5, s, st, hs, hp, ht, hl => by
    rw [wq_for_cons gN_eq]
    conv => arg 1; unfold bodyLL
    have hle := Bd.le hcl a s
    have hok := Bd.ev_ok hco a d true s hr hs
    have hcnt : (a.ev cal s).2.cnt ≤ (loopN (fun s => a.ev cal s) (x :: xs).length s).2.cnt := by
      rw [List.length_cons, loopN]
      cases q : a.ev cal s with
      | mk e s' =>
        cases e with
        | on => exact (loopN_le (fun s => Bd.le hcl a s) _ s').cnt
        | brk => exact Nat.le_refl _
        | ret v => exact Nat.le_refl _
        | thr k v => exact Nat.le_refl _
    simp [Rw.da]
    refine (ha d true hb s st hr hs hp ht hl).mono ?_
    rintro y st1 ⟨lk, hy⟩
    rcases hy with ⟨hc, rfl, ow⟩ | ⟨hc, rfl⟩
    · simp only [List.length_cons, loopN] at hcnt ⊢
      cases q : a.ev cal s with
      | mk e s' =>
        rw [q] at hle hok hc ow
        cases e with
        | on =>
          simp
          refine (lloop_ok hcl hco ha (n := n) hr xs all _ _ s' st1 hok.2 ow (hle.tl' ht) hc).mono ?_
          rintro f st2 ⟨h1, h2⟩
          refine ⟨lk.trans h1, ?_⟩
          simpa [Rw.da] using h2
        | brk => simp; exact ⟨lk, hc, ow⟩
        | ret v => simp; exact ⟨lk, hc, ow⟩
        | thr k v => simp; exact ⟨lk, hc, ow⟩
    · simp
      exact ⟨lk, .inr (by rw [List.length_cons] at hcnt; omega)⟩
/-! a try -/
theorem law_try_ok {a : Bd} {hs : Hs} {l : Lo} {m : Nat} (hcl : ClLe cal) (hco : ClOk ix many cal) (ha : LB P o ix lim rest many cal a m) (hh : ∀ x ∈ hs.list, LB P o ix lim rest many cal x.2.2 m) (hl : ∀ b, l = .som b → LB P o ix lim rest many cal b m)
    {d hb : Nat} {lp : Bool} {s : Sx} {st : Store} (ho : (Rw.tri a hs l).ok ix many d lp) (hs' : s.ok) (hp : OwSt P o hb rest s st) (ht : s.told.length ≤ s.cnt) (hlim : s.cnt ≤ lim) :
    Wq (f__law_try (m + 1) [.han o, (Rw.tri a hs l).da, .han hb]) st (fun x st' => LEnd P o hb lim rest ((Rw.tri a hs l).ev cal s) x st st') noEx := by
  rw [f__law_try_s]
  unfold m__law_try
  rw [Rw.ev]
  have le1 := Bd.le hcl a s
  have le2 := Hs.le hcl hs (a.ev cal s)
  have le3 := Lo.le hcl l (hs.ev cal (a.ev cal s))
  have ok1 := Bd.ev_ok hco a (d + 1) lp s ho.1.2.2 hs'
  have ok2 := Hs.ev_ok hco hs (d + 1) lp (a.ev cal s) ho.2.1.2 ok1.1 ok1.2
  simp [startS, Rw.da]
  refine (ha (d + 1) lp hb s st ho.1.2.2 hs' hp ht hlim).mono ?_
  rintro x st1 ⟨lk1, hx⟩
  simp only [kb_app, wq_ret, List.set_cons_succ, List.set_cons_zero]
  refine Wq.seq (fun f st2 => (∃ y, LEnd P o hb lim rest (hs.ev cal (a.ev cal s)) y st1 st2 ∧ ∃ o8, f = Fl.nx [some (.han o), some (Rw.tri a hs l).da, some (.han hb), some (.str "try"), some (.lst a.da), some (.lst hs.da), some l.da, some y, o8, none, none])) ?_ ?_
  · rcases hx with ⟨hc1, rfl, ow1⟩ | ⟨hc1, rfl⟩
    · cases q : a.ev cal s with
      | mk e s1 =>
        rw [q] at ow1 ok1 le1 hc1
        have ht1 := le1.tl' ht
        cases e with
        | on => simp [Hs.ev_not, Rw.da]; exact ⟨Lk.refl, .inl ⟨hc1, rfl, ow1⟩⟩
        | brk => simp [Hs.ev_not, Rw.da]; exact ⟨Lk.refl, .inl ⟨hc1, rfl, ow1⟩⟩
        | ret v => simp [Hs.ev_not, Rw.da]; exact ⟨Lk.refl, .inl ⟨hc1, rfl, ow1⟩⟩
        | thr j v =>
          rw [q] at ok2
          rw [Hs.ev_thr] at ok2 ⊢
          simp
          rw [Hs.da_list]
          have hlen : hs.list.length ≤ 4 := by rw [Hs.list_len]; exact ho.2.1.1
          refine wq_compF (P := hdFit j) (g := hdD) (by omega) ?_ ?_
          · intro x hx
            refine ⟨_, rfl, ?_, fun _ => by simp⟩
            obtain ⟨k, b, a'⟩ := x
            cases k with
            | none => simp [hdD, onD, hdFit]
            | some i =>
              by_cases z : i = j
              · subst z; simp [hdD, onD, hdFit]
              · have z2 : ¬ (j : Int) = (i : Int) := by omega
                simp [hdD, onD, hdFit, z, z2]
          · have hpl : ∀ x ∈ hs.list, CL.pl 58 (hdD x) = true := by
              intro x hx
              have h1 := Hs.pl hs (d + 1) lp ho.1.1 ho.2.1.2
              rw [Hs.da_list, plL_all, List.all_eq_true] at h1
              exact pl_le _ _ _ (by unfold NN; omega) (h1 _ (List.mem_map.mpr ⟨x, hx, rfl⟩))
            have hpl2 : plL 59 ((hs.list.filter (hdFit j)).map hdD) = true := by
              rw [plL_all, List.all_eq_true]
              intro y hy
              obtain ⟨x, hx, rfl⟩ := List.mem_map.mp hy
              exact pl_le _ _ _ (by decide) (hpl x (List.mem_filter.mp hx).1)
            cases q2 : hs.list.filter (hdFit j) with
            | nil =>
              rw [q2] at hpl2
              simp [Rw.da, Hs.da_list]
              exact ⟨Lk.refl, .inl ⟨hc1, rfl, ow1⟩⟩
            | cons x r =>
              rw [q2] at hpl2 ok2
              have hx : x ∈ hs.list := (List.mem_filter.mp (by rw [q2]; simp : x ∈ hs.list.filter (hdFit j))).1
              obtain ⟨hx1, hx2⟩ := Hs.ok_mem hs ho.2.1.2 x hx
              have hl8 := ok1.2.len
              simp only [List.map_cons] at hpl2
              simp
              rw [wq_ne (by simpa using hpl2) (by simp)]
              simp [hdD]
              rw [wq_setD ow1.ab (ixN_box' (by omega))]
              have ows : OwSt P o hb rest ⟨s1.bx.set x.2.1 v, s1.told, s1.cnt⟩ (st1.set hb (.lst ((s1.bx.map Da.int).set x.2.1 (.int v)))) :=
                ⟨by rw [List.getElem?_set_ne (Ne.symm ow1.ne)]; exact ow1.ao, by rw [List.getElem?_set_self (slt' ow1.ab), List.map_set], ow1.ne⟩
              have lks : Lk o hb st1 (st1.set hb (.lst ((s1.bx.map Da.int).set x.2.1 (.int v)))) := Lk.box
              generalize st1.set hb (.lst ((s1.bx.map Da.int).set x.2.1 (.int v))) = stS at ows lks ⊢
              simp
              refine (hh x hx (d + 1) lp hb ⟨s1.bx.set x.2.1 v, s1.told, s1.cnt⟩ _ hx2 (ok1.2.set ok1.1.2) ows ht1 hc1).mono ?_
              rintro y st2 ⟨lk2, hy⟩
              simp [Rw.da, Hs.da_list]
              exact ⟨lks.trans lk2, hy⟩
    · simp [Rw.da]
      exact ⟨Lk.refl, .inr ⟨Nat.lt_of_lt_of_le hc1 le2.cnt, rfl⟩⟩
  · rintro f st2 ⟨y, ⟨lk2, hy⟩, o8, rfl⟩
    generalize hs.ev cal (a.ev cal s) = R at *
    have lk := lk1.trans lk2
    rcases hy with ⟨hc2, rfl, ow2⟩ | ⟨hc2, rfl⟩
    · cases l with
      | non =>
        rw [Lo.ev]
        simp [Lo.da]
        exact ⟨lk, .inl ⟨hc2, rfl, ow2⟩⟩
      | som b =>
        have hnl : ∀ {post : Da → Store → Prop} {ex : Str → List Da → Store → Prop} {st : Store}, Wq (ixD R.1.da (.int 0)) st (kb (fun x => bnd (eC (.str "late") [some (.han o), some (Rw.tri a hs (.som b)).da, some (.han hb), some (.str "try"), some (.lst a.da), some (.lst hs.da), some (Lo.som b).da, some R.1.da, o8, none, none]) fun y => neD x y) post ex) ex ↔ post (.bl true) st := by
          intro post ex st
          cases R.1 <;> simp
        have ht2 : R.2.told.length ≤ R.2.cnt := le2.tl' (i := 0) (le1.tl' ht)
        simp [Lo.da] at hnl
        simp [Lo.da, hnl]
        refine (hl b rfl (d + 1) lp hb R.2 st2 ho.2.2.2 ok2.2 ow2 ht2 hc2).mono ?_
        rintro y st3 ⟨lk3, hy⟩
        have lk' := lk.trans lk3
        rw [Lo.ev]
        rcases hy with ⟨hc3, rfl, ow3⟩ | ⟨hc3, rfl⟩
        · cases q : b.ev cal R.2 with
          | mk e s' =>
            rw [q] at hc3 ow3
            cases e with
            | on => simp; exact ⟨lk', .inl ⟨hc3, rfl, ow3⟩⟩
            | brk => simp; exact ⟨lk', .inl ⟨hc3, rfl, ow3⟩⟩
            | ret v => simp; exact ⟨lk', .inl ⟨hc3, rfl, ow3⟩⟩
            | thr k v => simp; exact ⟨lk', .inl ⟨hc3, rfl, ow3⟩⟩
        · simp
          refine ⟨lk', .inr ⟨?_, rfl⟩⟩
          cases q : b.ev cal R.2 with
          | mk e s' =>
            rw [q] at hc3
            cases e <;> exact hc3
    · have hc3 := Nat.lt_of_lt_of_le hc2 le3.cnt
      cases l with
      | non => simp [Lo.da]; exact ⟨lk, .inr ⟨hc3, rfl⟩⟩
      | som b => simp [Lo.da]; exact ⟨lk, .inr ⟨hc3, rfl⟩⟩
end
end CL
namespace CL
open PySem L2
section
variable {P : Pg} {o ix lim : Nat} {rest : List Da} {many : List Nat} {cal : Cl} {c : Nat}
/-! a call -/
def bodyLC (g : List Da → Mo Da) : Sl → Mo Fl := (mSeq (mSet 9 (eCall (fun ds => ar 3 g (ds ++ [])) (aCons (eVar 0) (aCons (eVar 8) (aCons (eVar 2) aNil))))) (mSeq (mIf (tst (e2 neD (e2 ixD (eVar 9) (eC (.int 0))) (eC (.str "on")))) (mRet (eVar 9)) mNil) (mExpr (eApp (eVar 7) (e2 ixD (eVar 9) (eC (.int 1)))))))
theorem law_call_eq (g f : List Da → Mo Da) : m__law_call g f = (mSeq (mTgt (gT 4 (gsC (gN 3) (gsC (gN 4) (gsC (gN 5) (gsC (gN 6) gsN))))) (eVar 1)) (mSeq (mSet 7 (eH (lDisp aNil))) (mSeq (mFor (iV (eVar 6)) (gN 8) (bodyLC g)) (mSeq (mSet 9 (eCall (fun ds => ar 3 f (ds ++ [])) (aCons (eVar 0) (aCons (e2 ixD (e2 ixD (e2 ixD (eVar 0) (eC (.int 0))) (eVar 5)) (eC (.int 1))) (aCons (eH (l2 catL (eVar 7) (eL (l2 repL (eL (lDisp (aCons (eC (.int 0)) aNil))) (e2 subD (eC (.int 8)) (eCall (one lenD) (aCons (eVar 7) aNil))))))) aNil))))) (mSeq (mIf (tst (e2 (inU false) (e2 ixD (eVar 9) (eC (.int 0))) (eTup (aCons (eC (.str "on")) (aCons (eC (.str "return")) aNil))))) (mSeq (mSetI (eIf (tst (e2 eqD (e2 ixD (eVar 9) (eC (.int 0))) (eC (.str "return")))) (e2 ixD (eVar 9) (eC (.int 1))) (eC (.int 0))) (eVar 2) (eVar 4)) (mRet (eTup (aCons (eC (.str "on")) aNil)))) mNil) (mRet (eVar 9))))))) := rfl
theorem OwSt.other {hb n : Nat} {s : Sx} {st : Store} {cc : Cell} (h : OwSt P o hb rest s st) (h1 : n ≠ o) (h2 : n ≠ hb) : OwSt P o hb rest s (st.set n cc) :=
  ⟨by rw [List.getElem?_set_ne h1]; exact h.ao, by rw [List.getElem?_set_ne h2]; exact h.ab, h.ne⟩
theorem OwSt.bx {hb : Nat} {s : Sx} {st : Store} (h : OwSt P o hb rest s st) : BxAt st (.han hb) s.bx := .inl ⟨hb, rfl, h.ab⟩
/-- the arguments, one behind another, into a new list at q -/
theorem largs_ok {hb q : Nat} {s : Sx} {ro1 ro3 ro4 ro5 ro6 : Option Da} (hs : s.ok) : ∀ (es : List Ex) (all : List Da) (o8 o9 : Option Da) (acc : List Int) (st : Store), (∀ e ∈ es, e.ok 0) → acc.length + es.length ≤ 8 → OwSt P o hb rest s st → st[q]? = some (.lst (acc.map Da.int)) → q ≠ o → q ≠ hb →
    Wq (forGo none all (gN 8) (bodyLC (f__law_reckon 10)) (es.map Ex.da) [some (.han o), ro1, some (.han hb), ro3, ro4, ro5, ro6, some (.han q), o8, o9]) st (fun f st' => (((evs s.bx es).2 = none ∧ (∃ o8 o9, f = .nx [some (.han o), ro1, some (.han hb), ro3, ro4, ro5, ro6, some (.han q), o8, o9]) ∧ st'[q]? = some (.lst ((acc ++ (evs s.bx es).1).map Da.int))) ∨ ∃ v, (evs s.bx es).2 = some v ∧ f = .rt (Ed.thr 0 v).da) ∧ st.length = st'.length ∧ ∀ n, n ≠ q → st'[n]? = st[n]?) noEx
  | [], all, o8, o9, acc, st, he, hl, hp, ho, h1, h2 => by
    simp [evs]
    exact ho
  | e :: es, all, o8, o9, acc, st, he, hl, hp, ho, h1, h2 => by
    simp only [List.map_cons]
    rw [wq_for_cons gN_eq]
    conv => arg 1; unfold bodyLC
    simp
    refine reckon_ok hp.bx hs.rg e 0 10 _ (he e (by simp)) hs.len (by decide) ?_
    cases z : e.ev s.bx with
    | flt v => simp [evs, z]
    | ok x =>
      simp [wq_isLs_h ho]
      rw [wq_appD ho (by simp at hl ⊢; omega)]
      simp
      have hol := slt' ho
      have hp' : OwSt P o hb rest s (st.set q (.lst (acc.map Da.int ++ [.int x]))) := hp.other h1 h2
      refine (largs_ok hs es all _ _ (acc ++ [x]) _ (fun z hz => he z (List.mem_cons_of_mem _ hz)) (by simp at hl ⊢; omega) hp' (by rw [List.getElem?_set_self hol]; simp) h1 h2).mono ?_
      rintro f st' ⟨hf, hl1, hk⟩
      refine ⟨?_, by simpa using hl1, fun n hn => by rw [hk n hn, List.getElem?_set_ne (Ne.symm hn)]⟩
      simp only [evs, z]
      simpa using hf
variable (P o ix lim rest many cal c) in
def LC : Prop := ∀ (m g : Nat) (f : Fn), c ≤ m → ix < g → P[g]? = some f → ∃ cal', LB P o g lim rest many cal' f.2 m ∧ f.2.rows g many 0 false ∧ ∀ args told cnt, cal g args told cnt = (fnE2 (f.2.ev cal' ⟨box8 args, told, cnt⟩).1, (f.2.ev cal' ⟨box8 args, told, cnt⟩).2.told, (f.2.ev cal' ⟨box8 args, told, cnt⟩).2.cnt)
theorem rep8 {n : Nat} {st : Store} (h : n ≤ 8) {post : List Da → Store → Prop} {ex : Str → List Da → Store → Prop} : Wq (repL (.lst [.int 0]) (.int (8 - n))) st post ex ↔ post (List.replicate (8 - n) (.int 0)) st := by
  rw [wq_iff]
  unfold Wp repL
  dsimp only [lsOf]
  have e1 : (8 - (n : Int)).toNat = 8 - n := by omega
  rw [if_pos ⟨by omega, by omega, by rw [e1]; show 1 * (8 - n) ≤ 1000000; omega⟩, e1]
  have e2 : (List.replicate (8 - n) [Da.int 0]).flatten = List.replicate (8 - n) (Da.int 0) := by
    generalize 8 - n = j
    induction j with
    | zero => rfl
    | succ j ih => rw [List.replicate_succ, List.flatten_cons, ih]; rfl
  rw [e2]
theorem cat8 {args : List Int} {q : Nat} {st : Store} (h : args.length ≤ 8) (hq : st[q]? = some (.lst (args.map Da.int))) {post : List Da → Store → Prop} {ex : Str → List Da → Store → Prop} : Wq (catL (.han q) (.lst (List.replicate (8 - args.length) (.int 0)))) st post ex ↔ post ((box8 args).map Da.int) st := by
  rw [wq_iff]
  unfold Wp catL
  have : lsOf st (.han q) = some (args.map Da.int) := by unfold lsOf; dsimp only; rw [hq]
  rw [this]
  dsimp only [lsOf]
  rw [if_pos (by rw [List.length_map, List.length_replicate]; show _ ≤ 1000000; omega)]
  simp [box8]
theorem law_call_ok {b g : Nat} {es : List Ex} {m : Nat} (hC : LC P o ix lim rest many cal c) (hco : ClOk ix many cal) (hcl : ClLe cal) (hm : c ≤ m) (hPm : many = P.map (·.1))
    {d hb : Nat} {lp : Bool} {s : Sx} {st : Store} (ho : (Rw.call b g es).ok ix many d lp) (hmany : ∀ k ∈ many, k ≤ 3) (hs : s.ok) (hp : OwSt P o hb rest s st) (ht : s.told.length ≤ s.cnt) (hlim : s.cnt ≤ lim) :
    Wq (f__law_call (m + 1) [.han o, (Rw.call b g es).da, .han hb]) st (fun x st' => LEnd P o hb lim rest ((Rw.call b g es).ev cal s) x st st') noEx := by
  rw [f__law_call_s, law_call_eq]
  obtain ⟨ob, og, om, oe⟩ := ho
  have hel : es.length ≤ 3 := hmany _ (List.mem_of_getElem? om)
  have hlt := slt' hp.ao
  have hlb := slt' hp.ab
  have hpn : OwSt P o hb rest s (st ++ [.lst []]) := ⟨by rw [List.getElem?_append_left hlt]; exact hp.ao, by rw [List.getElem?_append_left hlb]; exact hp.ab, hp.ne⟩
  obtain ⟨e1, e2, e3⟩ := evs_ok hs.len hs.rg es oe
  simp [startS]
  conv => arg 1; unfold Rw.da
  simp
  refine (largs_ok (q := st.length) hs es _ none none [] (st ++ [.lst []]) oe (by simp; omega) hpn (by simp) (by omega) (by omega)).mono ?_
  rintro f st1 ⟨hf, hl1, hk⟩
  have hk' : ∀ n, n < st.length → st1[n]? = st[n]? := fun n hn => by
    rw [hk n (by omega), List.getElem?_append_left hn]
  have hp1 : OwSt P o hb rest s st1 := ⟨by rw [hk' o hlt]; exact hp.ao, by rw [hk' hb hlb]; exact hp.ab, hp.ne⟩
  have hge : st.length + 1 = st1.length := by rw [← hl1]; simp
  rw [Rw.ev]
  rcases hf with ⟨q, ⟨o8, o9, rfl⟩, hown⟩ | ⟨v, q, rfl⟩
  · rw [q]
    dsimp only
    simp at hown
    have hargs : (evs s.bx es).1.length ≤ 8 := by rw [e3 q]; omega
    have hcc := hco g (evs s.bx es).1 s.told s.cnt og (by rw [e3 q]; exact om) e1
    have hge2 := (hcl g (evs s.bx es).1 s.told s.cnt).1
    generalize (evs s.bx es).1 = args at *
    subst hPm
    rw [List.getElem?_map] at om
    obtain ⟨f, hf, hfl⟩ := Option.map_eq_some_iff.mp om
    obtain ⟨cal', hB, hrows, hcal⟩ := hC m g f hm og hf
    have hown' : st1[st.length]? = some (.lst (args.map Da.int)) := by simpa using hown
    simp
    have hix0 : ∀ {post : Da → Store → Prop} {ex : Str → List Da → Store → Prop}, Wq (ixD (.han o) (.int 0)) st1 post ex ↔ post P.da st1 := wq_ix_h hp1.ao (atI_nat (j := 0) rfl)
    rw [hix0]
    simp [Pg.da]
    rw [wq_ix_l (x := f.da) (atI_nat (by rw [List.getElem?_map, hf]; rfl))]
    simp [Fn.da]
    rw [wq_len_h hown']
    simp [rep8 hargs, cat8 hargs hown']
    have hlt1 := slt' hp1.ao
    have hlb1 := slt' hp1.ab
    have hp2 : OwSt P o st1.length rest ⟨box8 args, s.told, s.cnt⟩ (st1 ++ [.lst ((box8 args).map Da.int)]) :=
      ⟨by rw [List.getElem?_append_left hlt1]; exact hp1.ao, by simp, by omega⟩
    refine (hB 0 false st1.length ⟨box8 args, s.told, s.cnt⟩ _ hrows (box8_ok hargs e1) hp2 ht hlim).mono ?_
    rintro x st2 ⟨lk, hx⟩
    rw [hcal] at hcc ⊢
    have hk2 : ∀ n, n < st.length → n ≠ o → st2[n]? = st[n]? := fun n z1 z2 => by
      rw [lk.kp n (by simp; omega) z2 (by omega), List.getElem?_append_left (by omega), hk' n z1]
    have hge3 : st.length ≤ st2.length := by have := lk.ge; simp at this; omega
    have lk2 : Lk o hb st st2 := ⟨hge3, fun n z1 z2 _ => hk2 n z1 z2⟩
    generalize f.2.ev cal' ⟨box8 args, s.told, s.cnt⟩ = R at *
    obtain ⟨e, bx', t, c'⟩ := R
    rcases hx with ⟨hc1, rfl, ow⟩ | ⟨hc1, rfl⟩
    · have ow2 : OwSt P o hb rest ⟨s.bx, t, c'⟩ st2 := ⟨ow.ao, by rw [hk2 hb hlb (Ne.symm hp.ne)]; exact hp.ab, hp.ne⟩
      have hset : ∀ v : Int, OwSt P o hb rest ⟨s.bx.set b v, t, c'⟩ (st2.set hb (.lst ((s.bx.map Da.int).set b (.int v)))) := fun v =>
        ⟨by rw [List.getElem?_set_ne (Ne.symm hp.ne)]; exact ow2.ao, by rw [List.getElem?_set_self (slt' ow2.ab), List.map_set], hp.ne⟩
      cases e with
      | on =>
        simp [fnE2]
        rw [wq_setD ow2.ab (ixN_box' (by rw [hs.len]; exact ob))]
        have h9 := hset 0
        have lk9 := lk2.trans (Lk.box (o := o) (hb := hb) (st := st2) (c := .lst ((s.bx.map Da.int).set b (.int 0))))
        generalize st2.set hb (.lst ((s.bx.map Da.int).set b (.int 0))) = stS at h9 lk9 ⊢
        simp
        exact ⟨lk9, .inl ⟨hc1, rfl, h9⟩⟩
      | brk => exact nomatch hcc.1
      | ret v =>
        simp [fnE2]
        rw [wq_setD ow2.ab (ixN_box' (by rw [hs.len]; exact ob))]
        have h9 := hset v
        have lk9 := lk2.trans (Lk.box (o := o) (hb := hb) (st := st2) (c := .lst ((s.bx.map Da.int).set b (.int v))))
        generalize st2.set hb (.lst ((s.bx.map Da.int).set b (.int v))) = stS at h9 lk9 ⊢
        simp
        exact ⟨lk9, .inl ⟨hc1, rfl, h9⟩⟩
      | thr k v =>
        simp [fnE2]
        exact ⟨lk2, .inl ⟨hc1, rfl, ow2⟩⟩
    · simp
      refine ⟨lk2, .inr ⟨?_, rfl⟩⟩
      cases e <;> exact hc1
  · rw [q]
    simp
    exact ⟨⟨by omega, fun n z1 _ _ => hk' n z1⟩, .inl ⟨hlim, rfl, hp1⟩⟩
end
end CL
namespace CL
open PySem L2
section
variable {P : Pg} {o ix lim : Nat} {rest : List Da} {many : List Nat} {cal : Cl} {c : Nat}
theorem law_do_ok {r : Rw} {m : Nat} (hcl : ClLe cal) (hco : ClOk ix many cal) (hC : LC P o ix lim rest many cal c) (hPm : many = P.map (·.1)) (hmany : ∀ k ∈ many, k ≤ 3) (hl4 : lim ≤ 900000) (hm : r.nd c ≤ m)
    (hif : ∀ e a b, r = .ifs e a b → LB P o ix lim rest many cal a (m - 1) ∧ LB P o ix lim rest many cal b (m - 1)) (hlo : ∀ n a, r = .loop n a → LB P o ix lim rest many cal a (m - 1))
    (htr : ∀ a hs l, r = .tri a hs l → LB P o ix lim rest many cal a (m - 2) ∧ (∀ x ∈ hs.list, LB P o ix lim rest many cal x.2.2 (m - 2)) ∧ ∀ b, l = .som b → LB P o ix lim rest many cal b (m - 2)) : LR P o ix lim rest many cal r m := by
  intro d lp hb s st ho hs hp ht hlim
  have hm1 : 1 ≤ m := by
    refine Nat.le_trans ?_ hm
    cases r <;> simp only [Rw.nd] <;> omega
  obtain ⟨m, rfl⟩ := Nat.exists_eq_add_of_le' hm1
  rw [f__law_do_s]
  unfold m__law_do
  have same : ∀ e, LEnd P o hb lim rest (e, s) e.da st st := fun e => ⟨Lk.refl, .inl ⟨hlim, rfl, hp⟩⟩
  cases r with
  | brk => simp [startS, Rw.da, Rw.ev]; exact same .brk
  | loop n a =>
    have h0 : LB P o ix lim rest many cal a m := hlo n a rfl
    obtain ⟨⟨z1, z2⟩, z3, z4, z5⟩ := ho
    have ht' : s.told.length ≤ s.cnt := by omega
    have hb' : big (n : Int) := ⟨by omega, by omega⟩
    have e : (Rw.loop n a).ev cal s = loopN (fun s => a.ev cal s) (rngL 0 ((n : Int)).toNat).length s := by rw [Rw.ev]; simp [rngL]
    have key := fun all => lloop_ok hcl hco h0 (n := n) z5 (rngL 0 ((n : Int)).toNat) all none none s st hs hp ht' hlim
    rw [← e] at key
    generalize (Rw.loop n a).ev cal s = R at *
    simp only [Rw.da] at key
    simp only [bodyLL] at key
    simp [startS, Rw.da, hb']
    simp at key
    refine (key _).mono ?_
    rintro f st1 ⟨lk, ⟨hc, ow, ⟨he, o4, o5, rfl⟩ | rfl⟩ | ⟨hc, rfl⟩⟩
    · simp; exact ⟨lk, .inl ⟨hc, by rw [he]; rfl, ow⟩⟩
    · simp; exact ⟨lk, .inl ⟨hc, rfl, ow⟩⟩
    · simp; exact ⟨lk, .inr ⟨hc, rfl⟩⟩
  | tri a hh l =>
    obtain ⟨m, rfl⟩ : ∃ k, m = k + 1 := ⟨m - 1, by simp [Rw.nd] at hm; omega⟩
    obtain ⟨t1, t2, t3⟩ := htr a hh l rfl
    have t1' : LB P o ix lim rest many cal a m := t1
    have t2' : ∀ x ∈ hh.list, LB P o ix lim rest many cal x.2.2 m := t2
    have t3' : ∀ b, l = .som b → LB P o ix lim rest many cal b m := t3
    have key := law_try_ok hcl hco t1' t2' t3' ho hs hp (by omega) hlim
    generalize (Rw.tri a hh l).ev cal s = R at *
    simp only [Rw.da] at key
    simp [startS, Rw.da]
    refine key.mono fun x st' hx => ?_
    simpa using hx
  | call b g es =>
    obtain ⟨m, rfl⟩ : ∃ k, m = k + 1 := ⟨m - 1, by simp [Rw.nd] at hm; omega⟩
    have key := law_call_ok hC hco hcl (m := m) (by simp [Rw.nd] at hm; omega) hPm ho hmany hs hp (by omega) hlim
    generalize (Rw.call b g es).ev cal s = R at *
    simp only [Rw.da] at key
    simp [startS, Rw.da]
    refine key.mono fun x st' hx => ?_
    simpa using hx
  | set b e =>
    simp [startS, Rw.da]
    refine reckon_ok hp.bx hs.rg e 0 10 _ ho.2 hs.len (by decide) ?_
    rw [Rw.ev]
    cases q : e.ev s.bx with
    | flt v => simp; exact same (.thr 0 v)
    | ok v =>
      simp
      rw [wq_setD hp.ab (ixN_box' (by rw [hs.len]; exact ho.1))]
      have h9 : OwSt P o hb rest ⟨s.bx.set b v, s.told, s.cnt⟩ (st.set hb (.lst ((s.bx.map Da.int).set b (.int v)))) :=
        ⟨by rw [List.getElem?_set_ne (Ne.symm hp.ne)]; exact hp.ao, by rw [List.getElem?_set_self (slt' hp.ab), List.map_set], hp.ne⟩
      have lk9 := Lk.box (o := o) (hb := hb) (st := st) (c := .lst ((s.bx.map Da.int).set b (.int v)))
      generalize st.set hb (.lst ((s.bx.map Da.int).set b (.int v))) = stS at h9 lk9 ⊢
      simp
      exact ⟨lk9, .inl ⟨hlim, rfl, h9⟩⟩
  | out e =>
    simp [startS, Rw.da]
    refine reckon_ok hp.bx hs.rg e 0 10 _ ho hs.len (by decide) ?_
    rw [Rw.ev]
    cases q : e.ev s.bx with
    | flt v => simp; exact same (.thr 0 v)
    | ok v =>
      have hi1 : ∀ {post : Da → Store → Prop} {ex : Str → List Da → Store → Prop}, Wq (ixD (.han o) (.int 1)) st post ex ↔ post (.lst (s.told.map Da.int)) st := wq_ix_h hp.ao (atI_nat (j := 1) rfl)
      have hcat : ∀ {post : List Da → Store → Prop} {ex : Str → List Da → Store → Prop}, Wq (catL (.lst (s.told.map Da.int)) (.lst [.int v])) st post ex ↔ post ((s.told ++ [v]).map Da.int) st := by
        intro post ex
        rw [wq_iff]
        unfold Wp catL
        dsimp only [lsOf]
        rw [if_pos (by rw [List.length_map]; show _ + 1 ≤ 1000000; omega)]
        simp
      have hset : ∀ {post : Unit → Store → Prop} {ex : Str → List Da → Store → Prop}, Wq (setD (.han o) (.int 1) (.lst ((s.told ++ [v]).map Da.int))) st post ex ↔ post () (st.set o (.lst (ownD P ⟨s.bx, s.told ++ [v], s.cnt⟩ rest))) := by
        intro post ex
        rw [wq_setD (j := 1) hp.ao (by unfold ixN; rw [if_pos (by decide), if_pos (by simp; omega)]; rfl)]
        rfl
      simp only [List.map_append, List.map_cons, List.map_nil] at hcat hset
      simp [hi1, hcat, hset]
      have h9 : OwSt P o hb rest ⟨s.bx, s.told ++ [v], s.cnt⟩ (st.set o (.lst (ownD P ⟨s.bx, s.told ++ [v], s.cnt⟩ rest))) :=
        ⟨by rw [List.getElem?_set_self (slt' hp.ao)], by rw [List.getElem?_set_ne hp.ne]; exact hp.ab, hp.ne⟩
      exact ⟨Lk.own, .inl ⟨hlim, rfl, h9⟩⟩
  | thr k e =>
    simp [startS, Rw.da]
    refine reckon_ok hp.bx hs.rg e 0 10 _ ho.2 hs.len (by decide) ?_
    rw [Rw.ev]
    cases q : e.ev s.bx with
    | flt v => simp; exact same (.thr 0 v)
    | ok v => simp; exact same (.thr k v)
  | ret e =>
    simp [startS, Rw.da]
    refine reckon_ok hp.bx hs.rg e 0 10 _ ho hs.len (by decide) ?_
    rw [Rw.ev]
    cases q : e.ev s.bx with
    | flt v => simp; exact same (.thr 0 v)
    | ok v => simp; exact same (.ret v)
  | ifs e a b =>
    obtain ⟨i1, i2⟩ := hif e a b rfl
    have i1' : LB P o ix lim rest many cal a m := i1
    have i2' : LB P o ix lim rest many cal b m := i2
    simp [startS, Rw.da]
    refine reckon_ok hp.bx hs.rg e 0 10 _ ho.1 hs.len (by decide) ?_
    rw [Rw.ev]
    cases q : e.ev s.bx with
    | flt v => simp; exact same (.thr 0 v)
    | ok v =>
      by_cases z : v = 0
      · simp [z]
        refine (i2' (d + 1) lp hb s st ho.2.2.2 hs hp (by omega) hlim).mono fun x st' hx => ?_
        simpa using hx
      · simp [z]
        refine (i1' (d + 1) lp hb s st ho.2.1.2.2 hs hp (by omega) hlim).mono fun x st' hx => ?_
        simpa using hx
mutual
theorem Rw.law (hcl : ClLe cal) (hco : ClOk ix many cal) (hC : LC P o ix 400 rest many cal c) (hPm : many = P.map (·.1)) (hmany : ∀ k ∈ many, k ≤ 3) : ∀ (r : Rw) (m : Nat), r.nd c ≤ m → LR P o ix 400 rest many cal r m
  | .set b e, m, hm => law_do_ok hcl hco hC hPm hmany (by decide) hm (fun _ _ _ z => nomatch z) (fun _ _ z => nomatch z) (fun _ _ _ z => nomatch z)
  | .out e, m, hm => law_do_ok hcl hco hC hPm hmany (by decide) hm (fun _ _ _ z => nomatch z) (fun _ _ z => nomatch z) (fun _ _ _ z => nomatch z)
  | .thr k e, m, hm => law_do_ok hcl hco hC hPm hmany (by decide) hm (fun _ _ _ z => nomatch z) (fun _ _ z => nomatch z) (fun _ _ _ z => nomatch z)
  | .call b g es, m, hm => law_do_ok hcl hco hC hPm hmany (by decide) hm (fun _ _ _ z => nomatch z) (fun _ _ z => nomatch z) (fun _ _ _ z => nomatch z)
  | .brk, m, hm => law_do_ok hcl hco hC hPm hmany (by decide) hm (fun _ _ _ z => nomatch z) (fun _ _ z => nomatch z) (fun _ _ _ z => nomatch z)
  | .ret e, m, hm => law_do_ok hcl hco hC hPm hmany (by decide) hm (fun _ _ _ z => nomatch z) (fun _ _ z => nomatch z) (fun _ _ _ z => nomatch z)
  | .ifs e a b, m, hm => by
    have hm' : max (a.nd c) (b.nd c) + 1 ≤ m := by simpa [Rw.nd] using hm
    have h1 := Bd.law hcl hco hC hPm hmany a (m - 1) (by omega)
    have h2 := Bd.law hcl hco hC hPm hmany b (m - 1) (by omega)
    exact law_do_ok hcl hco hC hPm hmany (by decide) hm (fun _ _ _ z => by cases z; exact ⟨h1, h2⟩) (fun _ _ z => nomatch z) (fun _ _ _ z => nomatch z)
  | .loop n a, m, hm => by
    have hm' : a.nd c + 2 ≤ m := by simpa [Rw.nd] using hm
    have h1 := Bd.law hcl hco hC hPm hmany a (m - 1) (by omega)
    exact law_do_ok hcl hco hC hPm hmany (by decide) hm (fun _ _ _ z => nomatch z) (fun _ _ z => by cases z; exact h1) (fun _ _ _ z => nomatch z)
  | .tri a hs l, m, hm => by
    have hm' : max (a.nd c) (max (hs.nd c) (l.nd c)) + 2 ≤ m := by simpa [Rw.nd] using hm
    have h1 := Bd.law hcl hco hC hPm hmany a (m - 2) (by omega)
    have h2 := Hs.law hcl hco hC hPm hmany hs (m - 2) (by omega)
    have h3 := Lo.law hcl hco hC hPm hmany l (m - 2) (by omega)
    exact law_do_ok hcl hco hC hPm hmany (by decide) hm (fun _ _ _ z => nomatch z) (fun _ _ z => nomatch z) (fun _ _ _ z => by cases z; exact ⟨h1, h2, h3⟩)
theorem Bd.lawF (hcl : ClLe cal) (hco : ClOk ix many cal) (hC : LC P o ix 400 rest many cal c) (hPm : many = P.map (·.1)) (hmany : ∀ k ∈ many, k ≤ 3) : ∀ (b : Bd) (m : Nat), b.nd c ≤ m + 1 → LF P o ix 400 rest many cal b m
  | .nil, m, hm => lf_nil
  | .cons r b, m, hm => by
    have hm' : max (r.nd c + 1) (b.nd c) ≤ m + 1 := by simpa [Bd.nd] using hm
    exact lf_cons hcl hco (Rw.law hcl hco hC hPm hmany r m (by omega)) (Bd.lawF hcl hco hC hPm hmany b m (by omega))
theorem Bd.law (hcl : ClLe cal) (hco : ClOk ix many cal) (hC : LC P o ix 400 rest many cal c) (hPm : many = P.map (·.1)) (hmany : ∀ k ∈ many, k ≤ 3) : ∀ (b : Bd) (m : Nat), b.nd c ≤ m → LB P o ix 400 rest many cal b m
  | .nil, m, hm => by
    have hm' : 1 ≤ m := by simpa [Bd.nd] using hm
    obtain ⟨m, rfl⟩ := Nat.exists_eq_add_of_le' hm'
    exact LF.rows lf_nil
  | .cons r b, m, hm => by
    have hm' : max (r.nd c + 1) (b.nd c) ≤ m := by simpa [Bd.nd] using hm
    obtain ⟨m, rfl⟩ : ∃ k, m = k + 1 := ⟨m - 1, by omega⟩
    exact LF.rows (lf_cons hcl hco (Rw.law hcl hco hC hPm hmany r m (by omega)) (Bd.lawF hcl hco hC hPm hmany b m (by omega)))
theorem Hs.law (hcl : ClLe cal) (hco : ClOk ix many cal) (hC : LC P o ix 400 rest many cal c) (hPm : many = P.map (·.1)) (hmany : ∀ k ∈ many, k ≤ 3) : ∀ (b : Hs) (m : Nat), b.nd c ≤ m → ∀ x ∈ b.list, LB P o ix 400 rest many cal x.2.2 m
  | .nil, m, hm, x, hx => nomatch hx
  | .cons k b a hh, m, hm, x, hx => by
    have hm' : max (a.nd c) (hh.nd c) ≤ m := by simpa [Hs.nd] using hm
    have h1 := Bd.law hcl hco hC hPm hmany a m (by omega)
    have h2 := Hs.law hcl hco hC hPm hmany hh m (by omega)
    rcases List.mem_cons.mp hx with rfl | hx
    · exact h1
    · exact h2 x hx
theorem Lo.law (hcl : ClLe cal) (hco : ClOk ix many cal) (hC : LC P o ix 400 rest many cal c) (hPm : many = P.map (·.1)) (hmany : ∀ k ∈ many, k ≤ 3) : ∀ (b : Lo) (m : Nat), b.nd c ≤ m → ∀ a, b = .som a → LB P o ix 400 rest many cal a m
  | .non, m, hm, a, z => nomatch z
  | .som b, m, hm, a, z => by
    have hm' : b.nd c ≤ m := by simpa [Lo.nd] using hm
    have h1 := Bd.law hcl hco hC hPm hmany b m hm'
    cases z
    exact h1
end
end
/-- the functions from k behind the last -/
theorem fn_law {P : Pg} {o : Nat} {rest : List Da} (hP : P.ok) : ∀ (k g : Nat) (f : Fn), P.length ≤ k + g + 1 → P[g]? = some f → ∀ m, f.2.nd (P.nd k) ≤ m → LB P o g 400 rest (P.map (·.1)) (fnEv P k) f.2 m
  | k, g, f, hk, hf, m, hm => by
    have hmany : ∀ j ∈ P.map (·.1), j ≤ 3 := by
      intro j hj
      obtain ⟨f', hf', rfl⟩ := List.mem_map.mp hj
      exact hP.par f' hf'
    refine Bd.law (fnEv_le P k) (fnEv_ok hP k g hk) ?_ rfl hmany f.2 m hm
    intro m' g' f' hm' hg' hf'
    cases k with
    | zero =>
      obtain ⟨h, _⟩ := List.getElem?_eq_some_iff.mp hf'
      omega
    | succ k =>
      have hnd := Pg.nd_ge (k := k) (List.mem_of_getElem? hf')
      refine ⟨fnEv P k, fn_law hP k g' f' (by omega) hf' m' (by omega), (hP.bod g' f' hf').rows, fun args told cnt => ?_⟩
      rw [fnEv, hf']
theorem law_meaning_ok {P : Pg} {st : Store} {post : Da → Store → Prop} (hP : P.ok) (hnd : P.nd P.length ≤ 90)
    (hp : ∀ st', st.length ≤ st'.length → (∀ n, n < st.length → st'[n]? = st[n]?) → ((400 < (fnEv P P.length 0 [] [] 0).2.2 → post .non st') ∧ ((fnEv P P.length 0 [] [] 0).2.2 ≤ 400 → post (.tup [(fnEv P P.length 0 [] [] 0).1.da, .lst ((fnEv P P.length 0 [] [] 0).2.1.map Da.int)]) st'))) :
    Wq (f__law_meaning [P.da]) st post noEx := by
  obtain ⟨f, hf⟩ : ∃ f, P[0]? = some f := ⟨_, List.getElem?_eq_getElem (by have := hP.l1; omega)⟩
  obtain ⟨k, hk⟩ : ∃ k, P.length = k + 1 := ⟨P.length - 1, by have := hP.l1; omega⟩
  have hn1 := Pg.nd_ge (k := k) (List.mem_of_getElem? hf)
  rw [hk] at hnd hp
  have hb := fn_law (o := st.length) (rest := []) hP k 0 f (by omega) hf 90 (by omega)
  have hok := Bd.ev_ok (fnEv_ok hP k 0 (by omega)) f.2 0 false ⟨box8 [], [], 0⟩ (hP.bod 0 f hf).rows (box8_ok (by simp) (by simp))
  rw [fnEv, hf] at hp
  dsimp only at hp
  have hr8 : (8 - (0 : Nat) : Int) = 8 := rfl
  have rep : ∀ {st : Store} {post : List Da → Store → Prop} {ex : Str → List Da → Store → Prop}, Wq (repL (.lst [.int 0]) (.int 8)) st post ex ↔ post ((box8 []).map Da.int) st := fun {st post ex} => rep8 (n := 0) (st := st) (by decide)
  unfold f__law_meaning m__law_meaning
  simp [startS, Pg.da]
  have hix0 : ∀ {st : Store} {post : Da → Store → Prop} {ex : Str → List Da → Store → Prop}, Wq (ixD (.lst (P.map Fn.da)) (.int 0)) st post ex ↔ post f.da st := fun {st post ex} => wq_ix_l (atI_nat (j := 0) (by rw [List.getElem?_map, hf]; rfl))
  rw [hix0]
  simp [Fn.da, rep]
  have hp0 : OwSt P st.length (st.length + 1) [] ⟨box8 [], [], 0⟩ (st ++ [.lst [.lst (P.map Fn.da), .lst [], .int 0], .lst ((box8 []).map Da.int)]) :=
    ⟨by simp [Pg.da], by simp, by omega⟩
  refine (hb 0 false (st.length + 1) ⟨box8 [], [], 0⟩ _ (hP.bod 0 f hf).rows (box8_ok (by simp) (by simp)) hp0 (by simp) (by simp)).mono ?_
  rintro x st1 ⟨lk, hx⟩
  have hge := lk.ge
  simp at hge
  obtain ⟨p1, p2⟩ := hp st1 (by omega) (fun n hn => by rw [lk.kp n (by simp; omega) (by omega) (by omega), List.getElem?_append_left hn])
  generalize f.2.ev (fnEv P k) ⟨box8 [], [], 0⟩ = R at *
  rcases hx with ⟨hc, rfl, ow⟩ | ⟨hc, rfl⟩
  · have hi1 : ∀ {post : Da → Store → Prop} {ex : Str → List Da → Store → Prop}, Wq (ixD (.han st.length) (.int 1)) st1 post ex ↔ post (.lst (R.2.told.map Da.int)) st1 := wq_ix_h ow.ao (atI_nat (j := 1) rfl)
    have := p2 hc
    obtain ⟨e, s⟩ := R
    cases e with
    | on => simpa [hi1, fnE2] using this
    | brk => exact nomatch hok.1
    | ret v => simpa [hi1, fnE2] using this
    | thr j v => simpa [hi1, fnE2] using this
  · simp
    exact p1 hc
end CL
namespace CL
open PySem L2
/-! ### drawn programs -/
def Bd.of : List Rw → Bd
  | [] => .nil
  | r :: rs => .cons r (Bd.of rs)
theorem Bd.of_da : ∀ rs, (Bd.of rs).da = rs.map Rw.da
  | [] => rfl
  | r :: rs => by simp [Bd.of, Bd.da, Bd.of_da rs]
theorem Bd.of_len : ∀ rs, (Bd.of rs).len = rs.length
  | [] => rfl
  | r :: rs => by simp [Bd.of, Bd.len, Bd.of_len rs]
theorem Bd.of_rows {ix : Nat} {many : List Nat} {d : Nat} {lp : Bool} : ∀ rs : List Rw, (∀ r ∈ rs, r.ok ix many d lp) → (Bd.of rs).rows ix many d lp
  | [], _ => trivial
  | r :: rs, h => ⟨h r (by simp), Bd.of_rows rs fun r hr => h r (by simp [hr])⟩
theorem Bd.of_nd {c n : Nat} : ∀ rs : List Rw, 1 ≤ n → (∀ r ∈ rs, r.nd c + 1 ≤ n) → (Bd.of rs).nd c ≤ n
  | [], h1, _ => h1
  | r :: rs, h1, h => by
    have := h r (by simp)
    have := Bd.of_nd rs h1 fun r hr => h r (by simp [hr])
    simp only [Bd.of, Bd.nd]
    omega
def Hs.of : List Hd → Hs
  | [] => .nil
  | x :: xs => .cons x.1 x.2.1 x.2.2 (Hs.of xs)
theorem Hs.of_da : ∀ rs, (Hs.of rs).da = rs.map hdD
  | [] => rfl
  | r :: rs => by simp [Hs.of, Hs.da, Hs.of_da rs, hdD]
theorem Hs.of_len : ∀ rs, (Hs.of rs).len = rs.length
  | [] => rfl
  | r :: rs => by simp [Hs.of, Hs.len, Hs.of_len rs]
/-- a statement, a body, so deep -/
structure RDn (ix : Nat) (many : List Nat) (lp : Bool) (k : Nat) (r : Rw) : Prop where
  ok : ∀ d, d + k ≤ 6 → r.ok ix many d lp
  nd : ∀ c, r.nd c ≤ 3 * k + c + 2
structure BDn (ix : Nat) (many : List Nat) (lp : Bool) (k : Nat) (b : Bd) : Prop where
  l3 : b.len ≤ 3
  ok : ∀ d, d + k ≤ 6 → b.rows ix many d lp
  nd : ∀ c, b.nd c ≤ 3 * k + c + 3
theorem BDn.len {ix : Nat} {many : List Nat} {lp : Bool} {k : Nat} {b : Bd} (h : BDn ix many lp k b) : b.len ≤ 8 := Nat.le_trans h.l3 (by decide)
structure HDn (ix : Nat) (many : List Nat) (lp : Bool) (k : Nat) (x : Hd) : Prop where
  kd : ∀ j, x.1 = some j → j < 5
  bx : x.2.1 < 8
  bd : BDn ix many lp k x.2.2
theorem RDn.mono {ix : Nat} {many : List Nat} {lp : Bool} {k k' : Nat} {r : Rw} (h : RDn ix many lp k r) (hk : k ≤ k') : RDn ix many lp k' r :=
  ⟨fun d hd => h.ok d (by omega), fun c => by have := h.nd c; omega⟩
theorem BDn.mono {ix : Nat} {many : List Nat} {lp : Bool} {k k' : Nat} {r : Bd} (h : BDn ix many lp k r) (hk : k ≤ k') : BDn ix many lp k' r :=
  ⟨h.l3, fun d hd => h.ok d (by omega), fun c => by have := h.nd c; omega⟩
theorem BDn.of {ix : Nat} {many : List Nat} {lp : Bool} {k : Nat} {rs : List Rw} (hl : rs.length ≤ 3) (h : ∀ r ∈ rs, RDn ix many lp k r) : BDn ix many lp k (Bd.of rs) :=
  ⟨by rw [Bd.of_len]; exact hl, fun d hd => Bd.of_rows rs fun r hr => (h r hr).ok d hd, fun c => Bd.of_nd rs (by omega) fun r hr => by have := (h r hr).nd c; omega⟩
theorem Hs.of_ok {ix : Nat} {many : List Nat} {lp : Bool} {k d : Nat} (hd : d + k ≤ 6) : ∀ hs : List Hd, (∀ x ∈ hs, HDn ix many lp k x) → (Hs.of hs).ok ix many d lp
  | [], _ => trivial
  | x :: xs, h => ⟨(h x (by simp)).kd, (h x (by simp)).bx, ⟨(h x (by simp)).bd.len, (h x (by simp)).bd.ok d hd⟩, Hs.of_ok hd xs fun y hy => h y (by simp [hy])⟩
theorem Hs.of_nd {ix : Nat} {many : List Nat} {lp : Bool} {k c : Nat} : ∀ hs : List Hd, (∀ x ∈ hs, HDn ix many lp k x) → (Hs.of hs).nd c ≤ 3 * k + c + 3
  | [], _ => by show 1 ≤ _; omega
  | x :: xs, h => by
    have h1 := (h x (by simp)).bd.nd c
    have h2 := Hs.of_nd xs (c := c) fun y hy => h y (by simp [hy])
    simp only [Hs.of, Hs.nd]
    omega
/-- an expression so deep -/
def EDn (k : Nat) (e : Ex) : Prop := ∀ j, j + k ≤ 6 → e.ok j
section
variable {ix : Nat} {many : List Nat} {lp : Bool} {k : Nat}
theorem RDn.set {b j : Nat} {e : Ex} (hb : b < 8) (he : EDn j e) (hj : j ≤ 6) : RDn ix many lp k (.set b e) := ⟨fun d hd => ⟨hb, he 0 (by omega)⟩, fun c => by simp only [Rw.nd]; omega⟩
theorem RDn.out {j : Nat} {e : Ex} (he : EDn j e) (hj : j ≤ 6) : RDn ix many lp k (.out e) := ⟨fun d hd => he 0 (by omega), fun c => by simp only [Rw.nd]; omega⟩
theorem RDn.ret {j : Nat} {e : Ex} (he : EDn j e) (hj : j ≤ 6) : RDn ix many lp k (.ret e) := ⟨fun d hd => he 0 (by omega), fun c => by simp only [Rw.nd]; omega⟩
theorem RDn.thr {b j : Nat} {e : Ex} (hb : 1 ≤ b ∧ b ≤ 4) (he : EDn j e) (hj : j ≤ 6) : RDn ix many lp k (.thr b e) := ⟨fun d hd => ⟨hb, he 0 (by omega)⟩, fun c => by simp only [Rw.nd]; omega⟩
theorem RDn.brk (h : lp = true) : RDn ix many lp k .brk := ⟨fun d hd => h, fun c => by simp only [Rw.nd]; omega⟩
theorem RDn.call {b g j : Nat} {es : List Ex} (hb : b < 8) (hg : ix < g) (hm : many[g]? = some es.length) (he : ∀ e ∈ es, EDn j e) (hj : j ≤ 6) : RDn ix many lp k (.call b g es) := ⟨fun d hd => ⟨hb, hg, hm, fun e h => he e h 0 (by omega)⟩, fun c => by simp only [Rw.nd]; omega⟩
theorem RDn.ifs {j : Nat} {e : Ex} {a b : Bd} (he : EDn j e) (hj : j ≤ 6) (ha : BDn ix many lp k a) (hb : BDn ix many lp k b) : RDn ix many lp (k + 1) (.ifs e a b) :=
  ⟨fun d hd => ⟨he 0 (by omega), ⟨by omega, ha.len, ha.ok (d + 1) (by omega)⟩, hb.len, hb.ok (d + 1) (by omega)⟩, fun c => by have := ha.nd c; have := hb.nd c; simp only [Rw.nd]; omega⟩
theorem RDn.loop {n : Nat} {a : Bd} (hn : 1 ≤ n ∧ n ≤ 4) (ha : BDn ix many true k a) : RDn ix many lp (k + 1) (.loop n a) :=
  ⟨fun d hd => ⟨hn, by omega, ha.len, ha.ok (d + 1) (by omega)⟩, fun c => by have := ha.nd c; simp only [Rw.nd]; omega⟩
theorem RDn.tri {a : Bd} {hs : List Hd} {l : Lo} (ha : BDn ix many lp k a) (hl : hs.length ≤ 4) (hh : ∀ x ∈ hs, HDn ix many lp k x) (h3 : ∀ b, l = .som b → BDn ix many lp k b) : RDn ix many lp (k + 1) (.tri a (Hs.of hs) l) :=
  ⟨fun d hd => ⟨⟨by omega, ha.len, ha.ok (d + 1) (by omega)⟩, ⟨by rw [Hs.of_len]; exact hl, Hs.of_ok (k := k) (by omega) hs hh⟩, by
    cases l with
    | non => trivial
    | som b => exact ⟨(h3 b rfl).len, (h3 b rfl).ok (d + 1) (by omega)⟩⟩, fun c => by
    have h1 := ha.nd c
    have h2 := Hs.of_nd (c := c) hs hh
    have h4 : l.nd c ≤ 3 * k + c + 3 := by
      cases l with
      | non => show 1 ≤ _; omega
      | som b => exact (h3 b rfl).nd c
    simp only [Rw.nd]
    omega⟩
end
/-! ### drawing -/
section
variable {t r : Nat}
theorem law_worth_ok : ∀ (d m : Nat) (i : Int) (st : Store), i = d → d + 1 ≤ m → Tw t r st → Wq (f__law_worth m [.han t, .int i]) st (fun x st' => (∃ e : Ex, x = e.da ∧ EDn d e) ∧ Dr t r st st') noEx
  | d, 0, i, st, hi, hm, ht => by omega
  | d, m + 1, i, st, hi, hm, ht => by
    rw [f__law_worth_s]
    unfold m__law_worth
    simp [startS]
    refine (draw_ok ht (by decide) (by decide)).go fun _ s1 ⟨v, e, v0, v1, h1⟩ => ?_
    subst e
    simp
    by_cases z : i = 0
    · simp [z]
      refine (draw_ok h1.tw (by decide) (by decide)).go fun _ s2 ⟨v2, e, v20, v21, h2⟩ => ?_
      subst e
      simp
      refine (draw_ok h2.tw (by decide) (by decide)).go fun _ s3 ⟨v3, e, v30, v31, h3⟩ => ?_
      subst e
      simp
      refine (draw_ok h3.tw (by decide) (by decide)).go fun _ s4 ⟨v4, e, v40, v41, h4⟩ => ?_
      subst e
      simp
      refine (pick_ok h4.tw (by simp) (by simp)).go fun x s5 ⟨hx, h5⟩ => ?_
      simp
      refine ⟨?_, (((h1.trans h2).trans h3).trans h4).trans h5⟩
      simp at hx
      rcases hx with rfl | rfl | rfl
      · exact ⟨.num v2, rfl, fun j hj => ⟨by omega, by omega, by omega⟩⟩
      · refine ⟨.box v3.toNat, ?_, fun j hj => ⟨by omega, by omega⟩⟩
        rw [Ex.da, Int.toNat_of_nonneg v30]
      · exact ⟨.num v4, rfl, fun j hj => ⟨by omega, by omega, by omega⟩⟩
    by_cases z2 : v < 3
    · simp [z, z2]
      refine (draw_ok h1.tw (by decide) (by decide)).go fun _ s2 ⟨v2, e, v20, v21, h2⟩ => ?_
      subst e
      simp
      refine (draw_ok h2.tw (by decide) (by decide)).go fun _ s3 ⟨v3, e, v30, v31, h3⟩ => ?_
      subst e
      simp
      refine (draw_ok h3.tw (by decide) (by decide)).go fun _ s4 ⟨v4, e, v40, v41, h4⟩ => ?_
      subst e
      simp
      refine (pick_ok h4.tw (by simp) (by simp)).go fun x s5 ⟨hx, h5⟩ => ?_
      simp
      refine ⟨?_, (((h1.trans h2).trans h3).trans h4).trans h5⟩
      simp at hx
      rcases hx with rfl | rfl | rfl
      · exact ⟨.num v2, rfl, fun j hj => ⟨by omega, by omega, by omega⟩⟩
      · refine ⟨.box v3.toNat, ?_, fun j hj => ⟨by omega, by omega⟩⟩
        rw [Ex.da, Int.toNat_of_nonneg v30]
      · exact ⟨.num v4, rfl, fun j hj => ⟨by omega, by omega, by omega⟩⟩
    · simp [z, z2]
      refine (pick_ok h1.tw (by simp) (by simp)).go fun x s2 ⟨hx, h2⟩ => ?_
      obtain ⟨sg, rfl⟩ : ∃ sg : Sg, x = .str (Str.ofString sg.str) := by
        simp at hx
        rcases hx with rfl | rfl | rfl | rfl
        · exact ⟨.add, rfl⟩
        · exact ⟨.sub, rfl⟩
        · exact ⟨.mul, rfl⟩
        · exact ⟨.div, rfl⟩
      simp
      obtain ⟨d', rfl⟩ : ∃ d', d = d' + 1 := ⟨d - 1, by omega⟩
      refine (law_worth_ok d' m (i - 1) s2 (by omega) (by omega) h2.tw).go fun _ s3 ⟨⟨a, e, ha⟩, h3⟩ => ?_
      subst e
      simp
      refine (law_worth_ok d' m (i - 1) s3 (by omega) (by omega) h3.tw).go fun _ s4 ⟨⟨b, e, hb⟩, h4⟩ => ?_
      subst e
      simp
      exact ⟨⟨.op sg a b, rfl, fun j hj => ⟨by omega, ha (j + 1) (by omega), hb (j + 1) (by omega)⟩⟩, ((h1.trans h2).trans h3).trans h4⟩
abbrev plcD (ix : Nat) (many : List Nat) : Da := .tup [.int ix, .lst (many.map fun (n : Nat) => .int n)]
variable {ix : Nat} {many : List Nat}
def BodyS (t r ix : Nat) (many : List Nat) (k m : Nat) : Prop := ∀ (lp : Bool) (i : Int) (st : Store), i = k → Tw t r st → Wq (f__law_body m [.han t, .int i, .bl lp, plcD ix many]) st (fun x st' => (∃ b : Bd, x = .lst b.da ∧ BDn ix many lp k b) ∧ Dr t r st st') noEx
def RowS (t r ix : Nat) (many : List Nat) (k m : Nat) : Prop := ∀ (lp : Bool) (i : Int) (st : Store), i = k → Tw t r st → Wq (f__law_row m [.han t, .int i, .bl lp, plcD ix many]) st (fun x st' => (∃ b : Rw, x = b.da ∧ RDn ix many lp k b) ∧ Dr t r st st') noEx
theorem RowS.body {k m : Nat} (h : RowS t r ix many k m) : BodyS t r ix many k (m + 1) := by
  intro lp i st hi ht
  rw [f__law_body_s]
  unfold m__law_body
  have key : ∀ (n : Int) (s1 : Store), 0 ≤ n → n ≤ 3 → Dr t r st s1 → ∀ all, Wq (compGo none all (gN 4) tYes_ (eCall (fun ds => ar 4 (f__law_row m) ds) (aCons (eVar 0) (aCons (eVar 1) (aCons (eVar 2) (aCons (eVar 3) aNil))))) [some (.han t), some (.int i), some (.bl lp), some (plcD ix many), none] (rngL 0 n.toNat) []) s1 (fun L st' => (∃ b : Bd, L = b.da ∧ BDn ix many lp k b) ∧ Dr t r st st') noEx := by
    intro n s1 n0 n3 h1 all
    have hl : (rngL 0 n.toNat).length = n.toNat := by simp [rngL]
    refine wq_compI (I := fun j acc s => ∃ rs : List Rw, acc = rs.map Rw.da ∧ rs.length = j ∧ (∀ x ∈ rs, RDn ix many lp k x) ∧ Dr t r st s) ⟨[], rfl, rfl, by simp, h1⟩ ?_ (by rw [hl]; omega) ?_ ?_
    · rintro j acc s ⟨rs, rfl, rfl, _⟩
      simp
    · rintro j x acc s hx ⟨rs, rfl, rfl, hr, hd⟩
      refine ⟨_, rfl, ?_⟩
      simp
      refine (h lp i s hi hd.tw).go ?_
      rintro _ s2 ⟨⟨b, rfl, hb⟩, h2⟩
      refine ⟨rs ++ [b], by simp, by simp, ?_, hd.trans h2⟩
      intro x hx
      rcases List.mem_append.mp hx with hx | hx
      · exact hr x hx
      · rw [List.mem_singleton.mp hx]; exact hb
    · rintro acc s ⟨rs, rfl, hj, hr, hd⟩
      exact ⟨⟨Bd.of rs, (Bd.of_da rs).symm, BDn.of (by omega) hr⟩, hd⟩
  simp [startS]
  by_cases z : 0 < i
  · simp [z]
    refine (pick_ok ht (by simp) (by simp)).go fun x s1 ⟨hx, h1⟩ => ?_
    obtain ⟨n, rfl, n0, n3⟩ : ∃ n : Int, x = .int n ∧ 0 ≤ n ∧ n ≤ 3 := by
      simp at hx
      rcases hx with rfl | rfl | rfl | rfl <;> exact ⟨_, rfl, by decide, by decide⟩
    have hb' : big n := ⟨by omega, by omega⟩
    simp [hb']
    refine (key n s1 n0 n3 h1 _).go ?_
    rintro _ s2 ⟨⟨b, rfl, hb⟩, h2⟩
    simp
    exact ⟨⟨b, rfl, hb⟩, h2⟩
  · simp [z]
    refine (pick_ok ht (by simp) (by simp)).go fun x s1 ⟨hx, h1⟩ => ?_
    obtain ⟨n, rfl, n0, n3⟩ : ∃ n : Int, x = .int n ∧ 0 ≤ n ∧ n ≤ 3 := by
      simp at hx
      rcases hx with rfl | rfl <;> exact ⟨_, rfl, by decide, by decide⟩
    have hb' : big n := ⟨by omega, by omega⟩
    simp [hb']
    refine (key n s1 n0 n3 h1 _).go ?_
    rintro _ s2 ⟨⟨b, rfl, hb⟩, h2⟩
    simp
    exact ⟨⟨b, rfl, hb⟩, h2⟩
end
end CL
namespace CL
open PySem L2
def triTail (g__law_draw g__law_worth g__law_pick g__law_body : List Da → Mo Da) : Sl → Mo Fl := (mSeq (mSet 5 (eH (lDisp aNil))) (mSeq (mFor (iR1 (aCons (eCall (fun ds => ar 2 g__law_draw (ds ++ [])) (aCons (eVar 0) (aCons (eC (.int 3)) aNil))) aNil)) (gN 6) (mExpr (eApp (eVar 5) (eTup (aCons (eCall (fun ds => ar 2 g__law_pick (ds ++ [])) (aCons (eVar 0) (aCons (eL (lDisp (aCons (eC (.non)) (aCons (eC (.int 0)) (aCons (eC (.int 0)) (aCons (eC (.int 1)) (aCons (eC (.int 2)) (aCons (eC (.int 3)) (aCons (eC (.int 4)) aNil))))))))) aNil))) (aCons (eCall (fun ds => ar 2 g__law_draw (ds ++ [])) (aCons (eVar 0) (aCons (eC (.int 3)) aNil))) (aCons (eCall (fun ds => ar 4 g__law_body (ds ++ [])) (aCons (eVar 0) (aCons (e2 subD (eVar 1) (eC (.int 1))) (aCons (eVar 2) (aCons (eVar 3) aNil))))) aNil))))))) (mSeq (mSet 7 (eCall (fun ds => ar 2 g__law_pick (ds ++ [])) (aCons (eVar 0) (aCons (eL (lDisp (aCons (eC (.non)) (aCons (eCall (fun ds => ar 4 g__law_body (ds ++ [])) (aCons (eVar 0) (aCons (eCall (two minD) (aCons (e2 subD (eVar 1) (eC (.int 1))) (aCons (eC (.int 1)) aNil))) (aCons (eVar 2) (aCons (eVar 3) aNil))))) aNil)))) aNil)))) (mRet (eTup (aCons (eC (.str "try")) (aCons (eCall (fun ds => ar 4 g__law_body (ds ++ [])) (aCons (eVar 0) (aCons (e2 subD (eVar 1) (eC (.int 1))) (aCons (eVar 2) (aCons (eVar 3) aNil))))) (aCons (eF (eVar 5)) (aCons (eVar 7) aNil)))))))))
def rowTail (g__law_draw g__law_worth g__law_pick g__law_body : List Da → Mo Da) : Sl → Mo Fl := (mSeq (mIf (tst (e2 ltD (eVar 4) (eC (.int 2)))) (mRet (eTup (aCons (eC (.str "set")) (aCons (eCall (fun ds => ar 2 g__law_draw (ds ++ [])) (aCons (eVar 0) (aCons (eC (.int 3)) aNil))) (aCons (eCall (fun ds => ar 2 g__law_worth (ds ++ [])) (aCons (eVar 0) (aCons (eC (.int 2)) aNil))) aNil))))) mNil) (mSeq (mIf (tst (e2 ltD (eVar 4) (eC (.int 4)))) (mRet (eTup (aCons (eC (.str "out")) (aCons (eCall (fun ds => ar 2 g__law_worth (ds ++ [])) (aCons (eVar 0) (aCons (eC (.int 2)) aNil))) aNil)))) mNil) (mSeq (mIf (tst (e2 eqD (eVar 4) (eC (.int 4)))) (mRet (eTup (aCons (eC (.str "throw")) (aCons (e2 addD (eC (.int 1)) (eCall (fun ds => ar 2 g__law_draw (ds ++ [])) (aCons (eVar 0) (aCons (eC (.int 4)) aNil)))) (aCons (eCall (fun ds => ar 2 g__law_worth (ds ++ [])) (aCons (eVar 0) (aCons (eC (.int 1)) aNil))) aNil))))) mNil) (mSeq (mIf (tst (e2 eqD (eVar 4) (eC (.int 5)))) (mRet (eIf (tst (eVar 2)) (eTup (aCons (eC (.str "break")) aNil)) (eTup (aCons (eC (.str "return")) (aCons (eCall (fun ds => ar 2 g__law_worth (ds ++ [])) (aCons (eVar 0) (aCons (eC (.int 1)) aNil))) aNil))))) mNil) (mSeq (mIf (tst (e2 eqD (eVar 4) (eC (.int 6)))) (mSeq (mSet 8 (e2 addD (e2 ixD (eVar 3) (eC (.int 0))) (eC (.int 1)))) (mSeq (mIf (tst (e2 eqD (eVar 8) (eCall (one lenD) (aCons (e2 ixD (eVar 3) (eC (.int 1))) aNil)))) (mRet (eCall (fun ds => ar 2 g__law_pick (ds ++ [])) (aCons (eVar 0) (aCons (eL (lDisp (aCons (eTup (aCons (eC (.str "return")) (aCons (eCall (fun ds => ar 2 g__law_worth (ds ++ [])) (aCons (eVar 0) (aCons (eC (.int 1)) aNil))) aNil))) (aCons (eTup (aCons (eC (.str "out")) (aCons (eC (.int 7)) aNil))) aNil)))) aNil)))) mNil) (mSeq (mSet 8 (e2 addD (eVar 8) (eCall (fun ds => ar 2 g__law_draw (ds ++ [])) (aCons (eVar 0) (aCons (e2 subD (eCall (one lenD) (aCons (e2 ixD (eVar 3) (eC (.int 1))) aNil)) (eVar 8)) aNil))))) (mRet (eTup (aCons (eC (.str "call")) (aCons (eCall (fun ds => ar 2 g__law_draw (ds ++ [])) (aCons (eVar 0) (aCons (eC (.int 3)) aNil))) (aCons (eVar 8) (aCons (eL (lComp (iR1 (aCons (e2 ixD (e2 ixD (eVar 3) (eC (.int 1))) (eVar 8)) aNil)) (gN 6) tYes_ (eCall (fun ds => ar 2 g__law_worth (ds ++ [])) (aCons (eVar 0) (aCons (eC (.int 1)) aNil))) [6])) aNil))))))))) mNil) (mSeq (mIf (tst (e2 ltD (eVar 4) (eC (.int 9)))) (mRet (eTup (aCons (eC (.str "if")) (aCons (eCall (fun ds => ar 2 g__law_worth (ds ++ [])) (aCons (eVar 0) (aCons (eC (.int 1)) aNil))) (aCons (eCall (fun ds => ar 4 g__law_body (ds ++ [])) (aCons (eVar 0) (aCons (e2 subD (eVar 1) (eC (.int 1))) (aCons (eVar 2) (aCons (eVar 3) aNil))))) (aCons (eCall (fun ds => ar 4 g__law_body (ds ++ [])) (aCons (eVar 0) (aCons (e2 subD (eVar 1) (eC (.int 1))) (aCons (eVar 2) (aCons (eVar 3) aNil))))) aNil)))))) mNil) (mSeq (mIf (tst (e2 eqD (eVar 4) (eC (.int 9)))) (mRet (eTup (aCons (eC (.str "loop")) (aCons (e2 addD (eC (.int 1)) (eCall (fun ds => ar 2 g__law_draw (ds ++ [])) (aCons (eVar 0) (aCons (eC (.int 2)) aNil)))) (aCons (eCall (fun ds => ar 4 g__law_body (ds ++ [])) (aCons (eVar 0) (aCons (e2 subD (eVar 1) (eC (.int 1))) (aCons (eC (.bl true)) (aCons (eVar 3) aNil))))) aNil))))) mNil) (triTail g__law_draw g__law_worth g__law_pick g__law_body))))))))
theorem law_row_eq (g__law_draw g__law_worth g__law_pick g__law_body : List Da → Mo Da) : m__law_row g__law_draw g__law_worth g__law_pick g__law_body = mSeq (mIf (tst (e2 ltD (eCall (one lenD) (aCons (eVar 0) aNil)) (eC (.int 3)))) (mExpr (eApp (eVar 0) (eC (.int 0)))) mNil) (mSeq (mSetI (e2 addD (e2 ixD (eVar 0) (eC (.int 2))) (eC (.int 1))) (eVar 0) (eC (.int 2))) (mSeq (mIf (tst (e2 gtD (e2 ixD (eVar 0) (eC (.int 2))) (eC (.int 60)))) (mRet (eTup (aCons (eC (.str "out")) (aCons (eC (.int 1)) aNil)))) mNil) (mSeq (mSet 1 (eIf (tst (e2 ltD (e2 ixD (eVar 0) (eC (.int 2))) (eC (.int 30)))) (eVar 1) (eC (.int 0)))) (mSeq (mSet 4 (eCall (fun ds => ar 2 g__law_draw (ds ++ [])) (aCons (eVar 0) (aCons (eIf (tst (e2 gtD (eVar 1) (eC (.int 0)))) (eC (.int 14)) (eC (.int 7))) aNil)))) (rowTail g__law_draw g__law_worth g__law_pick g__law_body))))) := rfl
section
variable {t r ix : Nat} {many : List Nat}
def Third (t r : Nat) (st : Store) : Prop := ∃ k c : Int, st[t]? = some (.lst [.han r, .int k, .int c])
theorem third_ok {st : Store} {ro : Sl} (ht : Tw t r st) (h0 : ro[0]? = some (some (.han t))) :
    Wq (mIf (tst (e2 ltD (eCall (one lenD) (aCons (eVar 0) aNil)) (eC (.int 3)))) (mExpr (eApp (eVar 0) (eC (.int 0)))) mNil ro) st (fun f s => f = .nx ro ∧ Dr t r st s ∧ Third t r s) noEx := by
  obtain ⟨hne, ⟨k, rest, hrest, hk⟩, xs, hx, hr⟩ := ht
  rcases hrest with rfl | ⟨c, rfl⟩
  · simp [wq_var h0, wq_len_h hk, wq_isLs_h hk]
    rw [wq_appD hk (by simp)]
    simp
    have e : (st.set t (.lst [.han r, .int k, .int 0]))[t]? = some (.lst [.han r, .int k, .int 0]) := List.getElem?_set_self (some_lt hk)
    exact ⟨⟨⟨hne, ⟨k, _, .inr ⟨0, rfl⟩, e⟩, xs, hx, by rw [List.getElem?_set_ne hne]; exact hr⟩, by simp, fun n h1 h2 h3 => by rw [List.getElem?_set_ne (Ne.symm h1)]⟩, k, 0, e⟩
  · simp [wq_var h0, wq_len_h hk]
    exact ⟨Dr.refl ⟨hne, ⟨k, _, .inr ⟨c, rfl⟩, hk⟩, xs, hx, hr⟩, k, c, hk⟩
theorem Third.get {st : Store} (h : Third t r st) : ∃ c : Int, ∀ {post : Da → Store → Prop} {ex : Str → List Da → Store → Prop}, Wq (ixD (.han t) (.int 2)) st post ex ↔ post (.int c) st := by
  obtain ⟨k, c, hk⟩ := h
  exact ⟨c, fun {post ex} => wq_ix_h hk (atI_nat (j := 2) rfl)⟩
theorem Third.put {st : Store} (h : Third t r st) (ht : Tw t r st) (v : Int) {post : Unit → Store → Prop} {ex : Str → List Da → Store → Prop} (hp : ∀ s, Dr t r st s → Third t r s → post () s) : Wq (setD (.han t) (.int 2) (.int v)) st post ex := by
  obtain ⟨k, c, hk⟩ := h
  rw [wq_setD (j := 2) hk (by unfold ixN; rw [if_pos (by decide), if_pos (by simp)]; rfl)]
  obtain ⟨hne, _, xs, hx, hr⟩ := ht
  have e : (st.set t (.lst [.han r, .int k, .int v]))[t]? = some (.lst [.han r, .int k, .int v]) := List.getElem?_set_self (some_lt hk)
  exact hp _ ⟨⟨hne, ⟨k, _, .inr ⟨v, rfl⟩, e⟩, xs, hx, by rw [List.getElem?_set_ne hne]; exact hr⟩, by simp, fun n h1 h2 h3 => by simp only [List.set_cons_succ, List.set_cons_zero]; rw [List.getElem?_set_ne (Ne.symm h1)]⟩ ⟨k, v, e⟩
def HInv (t r ix : Nat) (many : List Nat) (lp : Bool) (k : Nat) (st0 : Store) (q : Nat) (i : Int) (o4 o7 o8 : Option Da) (j : Nat) (ro : Sl) (s : Store) : Prop := ∃ hs : List Hd, (∃ o6, ro = [some (.han t), some (.int i), some (.bl lp), some (plcD ix many), o4, some (.han q), o6, o7, o8]) ∧ hs.length = j ∧ (∀ x ∈ hs, HDn ix many lp k x) ∧ Dr t r st0 s ∧ s[q]? = some (.lst (hs.map hdD))
/-- a try -/
theorem tri_tail_ok {k m : Nat} {st0 st : Store} {i : Int} {lp : Bool} {o4 o5 o6 o7 o8 : Option Da} (hb : ∀ j, j < k + 1 → BodyS t r ix many j m) (hi : i = k + 1) (ht : Tw t r st0) (h0 : Dr t r st0 st) :
    Wq (triTail f__law_draw (f__law_worth 8) f__law_pick (f__law_body m) [some (.han t), some (.int i), some (.bl lp), some (plcD ix many), o4, o5, o6, o7, o8]) st (fun f s => ∃ x, f = .rt x ∧ (∃ b : Rw, x = b.da ∧ RDn ix many lp (k + 1) b) ∧ Dr t r st0 s) noEx := by
  unfold triTail
  have hbk := hb k (by omega)
  have hn := h0.tw.lt
  have hst := h0.kp.1
  simp
  have h1 : Dr t r st0 (st ++ [.lst []]) := h0.push
  have a1 : (st ++ [Cell.lst []])[st.length]? = some (.lst (([] : List Hd).map hdD)) := by simp
  generalize st ++ [Cell.lst []] = s1 at h1 a1 ⊢
  generalize hq : st.length = q at *
  refine (draw_ok h1.tw (by decide) (by decide)).go fun _ s2 ⟨v, e, v0, v1, h2⟩ => ?_
  subst e
  have hbig : big v := ⟨by omega, by omega⟩
  have a2 := h2.at a1 (by omega) (by omega)
  simp [hbig]
  have hlr : (rngL 0 v.toNat).length = v.toNat := by simp [rngL]
  refine wq_forI (I := HInv t r ix many lp k st0 q i o4 o7 o8) ⟨[], ⟨_, rfl⟩, rfl, by simp, h1.trans h2, a2⟩ ?_ ?_
  · rintro j x ro s hx ⟨hs, ⟨o6, rfl⟩, rfl, hh, h3, a3⟩
    have hj : hs.length < v.toNat := by
      obtain ⟨z, _⟩ := List.getElem?_eq_some_iff.mp hx
      omega
    refine ⟨_, rfl, ?_⟩
    simp [wq_isLs_h a3]
    refine (pick_ok h3.tw (by simp) (by simp)).go fun x s4 ⟨hx, h4⟩ => ?_
    obtain ⟨kk, rfl, hk5⟩ : ∃ kk : Option Nat, x = onD kk ∧ ∀ j, kk = some j → j < 5 := by
      simp at hx
      rcases hx with rfl | rfl | rfl | rfl | rfl | rfl
      · exact ⟨none, rfl, fun j z => nomatch z⟩
      · exact ⟨some 0, rfl, fun j z => by cases z; decide⟩
      · exact ⟨some 1, rfl, fun j z => by cases z; decide⟩
      · exact ⟨some 2, rfl, fun j z => by cases z; decide⟩
      · exact ⟨some 3, rfl, fun j z => by cases z; decide⟩
      · exact ⟨some 4, rfl, fun j z => by cases z; decide⟩
    simp
    refine (draw_ok h4.tw (by decide) (by decide)).go fun _ s5 ⟨w, e, w0, w1, h5⟩ => ?_
    subst e
    simp
    refine (hbk lp (i - 1) s5 (by omega) h5.tw).go ?_
    rintro _ s6 ⟨⟨b, rfl, hbd⟩, h6⟩
    have h36 := (h4.trans h5).trans h6
    have a6 := h36.at a3 (by omega) (by omega)
    simp
    rw [wq_appD a6 (by simp; omega)]
    simp [loopP]
    refine ⟨hs ++ [(kk, w.toNat, b)], ?_, by simp, ?_, (h3.trans h36).set (by omega) ht, ?_⟩
    · exact ⟨_, rfl⟩
    · intro x hx
      rcases List.mem_append.mp hx with hx | hx
      · exact hh x hx
      · rw [List.mem_singleton.mp hx]
        exact ⟨hk5, by dsimp only; omega, hbd⟩
    · rw [List.getElem?_set_self (some_lt a6)]
      have : ((w.toNat : Nat) : Int) = w := Int.toNat_of_nonneg w0
      simp [hdD, this]
  · rintro ro s ⟨hs, ⟨o6, rfl⟩, hl, hh, h3, a3⟩
    simp
    have hmin : ∀ {post : Da → Store → Prop} {ex : Str → List Da → Store → Prop} {s : Store}, True := fun {_ _ _} => trivial
    obtain ⟨k2, hk2, ek2⟩ : ∃ k2 : Nat, k2 ≤ k ∧ (if 1 < i - 1 then (1 : Int) else i - 1) = k2 := by
      by_cases z : 1 < i - 1
      · exact ⟨1, by omega, by rw [if_pos z]; rfl⟩
      · exact ⟨k, by omega, by rw [if_neg z]; omega⟩
    refine ((hb k2 (by omega)) lp _ s ek2 h3.tw).go ?_
    rintro _ s4 ⟨⟨b4, rfl, hb4⟩, h4⟩
    simp
    refine (pick_ok h4.tw (by simp) (by simp)).go fun x s5 ⟨hx, h5⟩ => ?_
    obtain ⟨l, rfl, hl3⟩ : ∃ l : Lo, x = l.da ∧ ∀ b, l = .som b → BDn ix many lp k b := by
      simp at hx
      rcases hx with rfl | rfl
      · exact ⟨.non, rfl, fun b z => nomatch z⟩
      · exact ⟨.som b4, rfl, fun b z => by cases z; exact hb4.mono hk2⟩
    simp
    refine (hbk lp (i - 1) s5 (by omega) h5.tw).go ?_
    rintro _ s6 ⟨⟨b, rfl, hbd⟩, h6⟩
    have h36 := (h4.trans h5).trans h6
    have a6 := h36.at a3 (by omega) (by omega)
    simp
    rw [wq_fz a6]
    simp
    refine ⟨⟨.tri b (Hs.of hs) l, by rw [Rw.da, Hs.of_da], RDn.tri hbd (by omega) hh hl3⟩, (h3.trans h36).set (by omega) ht⟩
end
end CL
namespace CL
open PySem L2
section
variable {t r ix : Nat} {many : List Nat}
theorem toN {v : Int} (h : 0 ≤ v) : ∃ n : Nat, v = n := ⟨v.toNat, (Int.toNat_of_nonneg h).symm⟩
theorem worth_list_ok {n : Int} {st0 st : Store} {ro : Sl} {all : List Da} (n0 : 0 ≤ n) (n3 : n ≤ 3) (h0 : Dr t r st0 st) (hr : ∀ x ro1, gN 6 x ro = some ro1 → ro1[0]? = some (some (.han t))) (hg : ∀ x, ∃ ro1, gN 6 x ro = some ro1) {postL : List Da → Store → Prop} {ex : Str → List Da → Store → Prop}
    (hp : ∀ (es : List Ex) s, es.length = n.toNat → (∀ e ∈ es, EDn 1 e) → Dr t r st0 s → postL (es.map Ex.da) s) :
    Wq (compGo none all (gN 6) tYes_ (eCall (fun ds => ar 2 (f__law_worth 8) ds) (aCons (eVar 0) (aCons (eC (.int 1)) aNil))) ro (rngL 0 n.toNat) []) st postL ex := by
  have hl : (rngL 0 n.toNat).length = n.toNat := by simp [rngL]
  refine wq_compI (I := fun j acc s => ∃ rs : List Ex, acc = rs.map Ex.da ∧ rs.length = j ∧ (∀ x ∈ rs, EDn 1 x) ∧ Dr t r st0 s) ⟨[], rfl, rfl, by simp, h0⟩ ?_ (by rw [hl]; omega) ?_ ?_
  · rintro j acc s ⟨rs, rfl, rfl, _⟩
    simp
  · rintro j x acc s hx ⟨rs, rfl, rfl, hrs, hd⟩
    obtain ⟨ro1, h1⟩ := hg x
    refine ⟨ro1, h1, ?_⟩
    simp [wq_var (hr x ro1 h1)]
    refine (law_worth_ok 1 8 1 s rfl (by decide) hd.tw).go ?_
    rintro _ s2 ⟨⟨e, rfl, he⟩, h2⟩
    refine ⟨rs ++ [e], by simp, by simp, ?_, hd.trans h2⟩
    intro x hx
    rcases List.mem_append.mp hx with hx | hx
    · exact hrs x hx
    · rw [List.mem_singleton.mp hx]; exact he
  · rintro acc s ⟨rs, rfl, hj, hrs, hd⟩
    exact hp rs s (by omega) hrs hd
theorem row_tail_ok {k m : Nat} {st0 st : Store} {i v : Int} {lp : Bool} (hb : ∀ j, j < k → BodyS t r ix many j m) (hix : ix < many.length) (hml : many.length ≤ 5) (hmany : ∀ j ∈ many, j ≤ 3) (hi : i = k) (hv : 0 ≤ v) (hv2 : v < 14) (hv3 : k = 0 → v < 7) (ht : Tw t r st0) (h0 : Dr t r st0 st) :
    Wq (rowTail f__law_draw (f__law_worth 8) f__law_pick (f__law_body m) [some (.han t), some (.int i), some (.bl lp), some (plcD ix many), some (.int v), none, none, none, none]) st (fun f s => ∃ x, f = .rt x ∧ (∃ b : Rw, x = b.da ∧ RDn ix many lp k b) ∧ Dr t r st0 s) noEx := by
  unfold rowTail
  simp
  by_cases z1 : v < 2
  · simp [z1]
    refine (draw_ok h0.tw (by decide) (by decide)).go fun _ s1 ⟨w, e, w0, w1, h1⟩ => ?_
    subst e
    simp
    refine (law_worth_ok 2 8 2 s1 rfl (by decide) h1.tw).go ?_
    rintro _ s2 ⟨⟨e, rfl, he⟩, h2⟩
    obtain ⟨n, rfl⟩ := toN w0
    simp
    exact ⟨⟨.set n e, by rw [Rw.da], RDn.set (by omega) he (by decide)⟩, (h0.trans h1).trans h2⟩
  simp [z1]
  by_cases z2 : v < 4
  · simp [z2]
    refine (law_worth_ok 2 8 2 st rfl (by decide) h0.tw).go ?_
    rintro _ s2 ⟨⟨e, rfl, he⟩, h2⟩
    simp
    exact ⟨⟨.out e, by rw [Rw.da], RDn.out he (by decide)⟩, h0.trans h2⟩
  simp [z2]
  by_cases z3 : v = 4
  · subst z3
    simp
    refine (draw_ok h0.tw (by decide) (by decide)).go fun _ s1 ⟨w, e, w0, w1, h1⟩ => ?_
    subst e
    simp
    refine (law_worth_ok 1 8 1 s1 rfl (by decide) h1.tw).go ?_
    rintro _ s2 ⟨⟨e, rfl, he⟩, h2⟩
    obtain ⟨n, rfl⟩ := toN w0
    simp
    refine ⟨⟨.thr (1 + n) e, by rw [Rw.da]; simp, RDn.thr (by omega) he (by decide)⟩, (h0.trans h1).trans h2⟩
  simp [z3]
  by_cases z4 : v = 5
  · subst z4
    cases lp with
    | true => simp; exact ⟨⟨.brk, by rw [Rw.da], RDn.brk rfl⟩, h0⟩
    | false =>
      simp
      refine (law_worth_ok 1 8 1 st rfl (by decide) h0.tw).go ?_
      rintro _ s2 ⟨⟨e, rfl, he⟩, h2⟩
      simp
      exact ⟨⟨.ret e, by rw [Rw.da], RDn.ret he (by decide)⟩, h0.trans h2⟩
  simp [z4]
  by_cases z5 : v = 6
  · subst z5
    simp
    by_cases zl : ((ix : Int) + 1) = many.length
    · simp [zl]
      refine (law_worth_ok 1 8 1 st rfl (by decide) h0.tw).go ?_
      rintro _ s2 ⟨⟨e, rfl, he⟩, h2⟩
      simp
      refine (pick_ok h2.tw (by simp) (by simp)).go fun x s3 ⟨hx, h3⟩ => ?_
      simp at hx
      simp
      refine ⟨?_, (h0.trans h2).trans h3⟩
      rcases hx with rfl | rfl
      · exact ⟨.ret e, by rw [Rw.da], RDn.ret he (by decide)⟩
      · exact ⟨.out (.num 7), by rw [Rw.da]; rfl, RDn.out (j := 0) (fun j hj => ⟨by omega, by decide⟩) (by decide)⟩
    · simp [zl]
      refine (draw_ok h0.tw (by omega) (by omega)).go fun _ s1 ⟨w, e, w0, w1, h1⟩ => ?_
      subst e
      simp
      refine (draw_ok h1.tw (by decide) (by decide)).go fun _ s2 ⟨u, e, u0, u1, h2⟩ => ?_
      subst e
      obtain ⟨n, rfl⟩ := toN w0
      obtain ⟨b, rfl⟩ := toN u0
      have hg : ix + 1 + n < many.length := by omega
      obtain ⟨p, hp⟩ : ∃ p, many[ix + 1 + n]? = some p := ⟨_, List.getElem?_eq_getElem hg⟩
      have hp3 := hmany p (List.mem_of_getElem? hp)
      have hix2 : ∀ {post : Da → Store → Prop} {ex : Str → List Da → Store → Prop}, Wq (ixD (.lst (many.map fun (n : Nat) => Da.int n)) (.int ((ix : Int) + 1 + n))) s2 post ex ↔ post (.int p) s2 := wq_ix_l (atI_nat (j := ix + 1 + n) (by rw [List.getElem?_map, hp]; rfl))
      have hbig : big (p : Int) := ⟨by omega, by omega⟩
      simp [hix2, hbig]
      have := worth_list_ok (n := p) (t := t) (r := r) (all := rngL 0 ((p : Int)).toNat) (ro := [some (.han t), some (.int i), some (.bl lp), some (plcD ix many), some (.int 6), none, none, none, some (.int ((ix : Int) + 1 + n))]) (st := s2) (by omega) (by omega) ((h0.trans h1).trans h2) (by intro x ro1 z; cases z; rfl) (fun x => ⟨_, rfl⟩) (postL := fun L s => ∃ es : List Ex, L = es.map Ex.da ∧ es.length = p ∧ (∀ e ∈ es, EDn 1 e) ∧ Dr t r st0 s) (ex := noEx) (fun es s q1 q2 q3 => ⟨es, rfl, by simpa using q1, q2, q3⟩)
      simp at this
      refine this.go ?_
      rintro _ s3 ⟨es, rfl, el, he, h3⟩
      simp
      exact ⟨⟨.call b (ix + 1 + n) es, by rw [Rw.da]; simp, RDn.call (by omega) (by omega) (by rw [el]; exact hp) he (by decide)⟩, h3⟩
  simp [z5]
  obtain ⟨k', rfl⟩ : ∃ k', k = k' + 1 := ⟨k - 1, by omega⟩
  by_cases z6 : v < 9
  · simp [z6]
    refine (law_worth_ok 1 8 1 st rfl (by decide) h0.tw).go ?_
    rintro _ s2 ⟨⟨e, rfl, he⟩, h2⟩
    simp
    refine (hb k' (by omega) lp (i - 1) s2 (by omega) h2.tw).go ?_
    rintro _ s3 ⟨⟨a, rfl, ha⟩, h3⟩
    simp
    refine (hb k' (by omega) lp (i - 1) s3 (by omega) h3.tw).go ?_
    rintro _ s4 ⟨⟨b, rfl, hb'⟩, h4⟩
    simp
    exact ⟨⟨.ifs e a b, by rw [Rw.da], RDn.ifs he (by decide) ha hb'⟩, ((h0.trans h2).trans h3).trans h4⟩
  simp [z6]
  by_cases z7 : v = 9
  · subst z7
    simp
    refine (draw_ok h0.tw (by decide) (by decide)).go fun _ s1 ⟨w, e, w0, w1, h1⟩ => ?_
    subst e
    simp
    refine (hb k' (by omega) true (i - 1) s1 (by omega) h1.tw).go ?_
    rintro _ s3 ⟨⟨a, rfl, ha⟩, h3⟩
    obtain ⟨n, rfl⟩ := toN w0
    simp
    exact ⟨⟨.loop (1 + n) a, by rw [Rw.da]; simp, RDn.loop (by omega) ha⟩, (h0.trans h1).trans h3⟩
  simp [z7]
  exact tri_tail_ok hb (by omega) ht h0
theorem law_row_ok {k m : Nat} (hb : ∀ j, j < k → BodyS t r ix many j m) (hix : ix < many.length) (hml : many.length ≤ 5) (hmany : ∀ j ∈ many, j ≤ 3) : RowS t r ix many k (m + 1) := by
  intro lp i st hi ht
  rw [f__law_row_s, law_row_eq]
  have tail : ∀ (k' : Nat) (i' v : Int) (s : Store), k' ≤ k → i' = k' → 0 ≤ v → v < 14 → (k' = 0 → v < 7) → Dr t r st s → kb fnE (fun x st' => (∃ b : Rw, x = b.da ∧ RDn ix many lp k b) ∧ Dr t r st st') noEx = kb fnE (fun x st' => (∃ b : Rw, x = b.da ∧ RDn ix many lp k b) ∧ Dr t r st st') noEx → Wq (rowTail f__law_draw (f__law_worth 8) f__law_pick (f__law_body m) [some (.han t), some (.int i'), some (.bl lp), some (plcD ix many), some (.int v), none, none, none, none]) s (kb fnE (fun x st' => (∃ b : Rw, x = b.da ∧ RDn ix many lp k b) ∧ Dr t r st st') noEx) noEx := by
    intro k' i' v s hk hi' h1 h2 h3 hd _
    refine (row_tail_ok (k := k') (fun j hj => hb j (by omega)) hix hml hmany hi' h1 h2 h3 ht hd).mono ?_
    rintro f s' ⟨x, rfl, ⟨b, rfl, hr⟩, h4⟩
    simp
    exact ⟨⟨b, rfl, hr.mono hk⟩, h4⟩
  have fin : Wq (mSeq (mIf (tst (e2 ltD (eCall (one lenD) (aCons (eVar 0) aNil)) (eC (.int 3)))) (mExpr (eApp (eVar 0) (eC (.int 0)))) mNil) (mSeq (mSetI (e2 addD (e2 ixD (eVar 0) (eC (.int 2))) (eC (.int 1))) (eVar 0) (eC (.int 2))) (mSeq (mIf (tst (e2 gtD (e2 ixD (eVar 0) (eC (.int 2))) (eC (.int 60)))) (mRet (eTup (aCons (eC (.str "out")) (aCons (eC (.int 1)) aNil)))) mNil) (mSeq (mSet 1 (eIf (tst (e2 ltD (e2 ixD (eVar 0) (eC (.int 2))) (eC (.int 30)))) (eVar 1) (eC (.int 0)))) (mSeq (mSet 4 (eCall (fun ds => ar 2 f__law_draw (ds ++ [])) (aCons (eVar 0) (aCons (eIf (tst (e2 gtD (eVar 1) (eC (.int 0)))) (eC (.int 14)) (eC (.int 7))) aNil)))) (rowTail f__law_draw (f__law_worth 8) f__law_pick (f__law_body m)))))) [some (.han t), some (.int i), some (.bl lp), some (plcD ix many), none, none, none, none, none]) st (kb fnE (fun x st' => (∃ b : Rw, x = b.da ∧ RDn ix many lp k b) ∧ Dr t r st st') noEx) noEx := by
    refine Wq.seq _ (third_ok ht rfl) ?_
    rintro f s1 ⟨rfl, h1, t1⟩
    obtain ⟨c1, g1⟩ := t1.get
    simp [g1]
    refine t1.put h1.tw _ fun s2 h2 t2 => ?_
    obtain ⟨c2, g2⟩ := t2.get
    simp [g2]
    by_cases y1 : 60 < c2
    · simp [y1]
      exact ⟨⟨.out (.num 1), by rw [Rw.da]; rfl, RDn.out (j := 0) (fun j hj => ⟨by omega, by decide⟩) (by decide)⟩, h1.trans h2⟩
    simp [y1, g2]
    have h12 := h1.trans h2
    by_cases y2 : c2 < 30
    · simp [y2]
      by_cases y3 : 0 < i
      · simp [y3]
        refine (draw_ok h2.tw (by decide) (by decide)).go fun _ s3 ⟨v, e, v0, v1, h3⟩ => ?_
        subst e
        simp
        exact tail k i v s3 (Nat.le_refl _) hi v0 v1 (by omega) (h12.trans h3) rfl
      · simp [y3]
        refine (draw_ok h2.tw (by decide) (by decide)).go fun _ s3 ⟨v, e, v0, v1, h3⟩ => ?_
        subst e
        simp
        exact tail k i v s3 (Nat.le_refl _) hi v0 (by omega) (by omega) (h12.trans h3) rfl
    · simp [y2]
      refine (draw_ok h2.tw (by decide) (by decide)).go fun _ s3 ⟨v, e, v0, v1, h3⟩ => ?_
      subst e
      simp
      exact tail 0 0 v s3 (by omega) rfl v0 (by omega) (by omega) (h12.trans h3) rfl
  exact wq_fnM.mpr fin
theorem law_body_ok (hix : ix < many.length) (hml : many.length ≤ 5) (hmany : ∀ j ∈ many, j ≤ 3) : ∀ (k m : Nat), 2 * k + 2 ≤ m → BodyS t r ix many k m
  | k, 0, h => by omega
  | k, 1, h => by omega
  | k, m + 2, h => RowS.body (law_row_ok (fun j hj => law_body_ok hix hml hmany j m (by omega)) hix hml hmany)
end
/-! ### sizes: some number -/
section
variable {st : Store} {ex : Str → List Da → Store → Prop} {post : Da → Store → Prop}
theorem rows_of_ok : ∀ (e : Ex) (d m : Nat) (post : Da → Store → Prop), e.ok d → 8 ≤ m + d → (∀ i : Int, post (.int i) st) → Wq (f__law_rows_of m [e.da]) st post ex
  | .num n, d, 0, post, ho, hm, hp => by have := ho.1; omega
  | .box n, d, 0, post, ho, hm, hp => by have := ho.1; omega
  | .op s a c, d, 0, post, ho, hm, hp => by have := ho.1; omega
  | .num n, d, m + 1, post, ho, hm, hp => by
    rw [f__law_rows_of_s]
    unfold m__law_rows_of
    simpa [startS, Ex.da, isTn] using hp 1
  | .box n, d, m + 1, post, ho, hm, hp => by
    rw [f__law_rows_of_s]
    unfold m__law_rows_of
    simpa [startS, Ex.da, isTn] using hp 1
  | .op s a c, d, m + 1, post, ho, hm, hp => by
    rw [f__law_rows_of_s]
    unfold m__law_rows_of
    have hs : ¬ s.str = "box" := by cases s <;> decide
    simp [startS, Ex.da, isTn, hs]
    refine rows_of_ok a (d + 1) m _ ho.2.1 (by omega) fun i => ?_
    simp
    refine rows_of_ok c (d + 1) m _ ho.2.2 (by omega) fun j => ?_
    simp
    exact hp _
theorem intsOf_map (ns : List Int) : intsOf (ns.map Da.int) = some ns := by
  induction ns with
  | nil => rfl
  | cons n ns ih => simp [intsOf, ih]
theorem wq_sum1 {ns : List Int} : Wq (sum1 (.lst (ns.map Da.int))) st post ex ↔ post (.int ns.sum) st := by
  rw [wq_iff]
  unfold Wp sum1 lsI
  dsimp only [lsOf]
  rw [intsOf_map]
/-- numbers, one for each -/
theorem wq_compN {all : List Da} {t : Tg} {e : Sl → Mo Da} {ro : Sl} {xs : List Da} {postL : List Da → Store → Prop} (hx : xs.length < 1000000)
    (h : ∀ x ∈ xs, ∃ ro1, t x ro = some ro1 ∧ Wq (e ro1) st (fun d s => (∃ i : Int, d = .int i) ∧ s = st) noEx) (hp : ∀ ns : List Int, postL (ns.map Da.int) st) : Wq (compGo none all t tYes_ e ro xs []) st postL ex := by
  refine wq_compI (I := fun j acc s => (∃ ns : List Int, acc = ns.map Da.int ∧ ns.length = j) ∧ s = st) ⟨⟨[], rfl, rfl⟩, rfl⟩ ?_ hx ?_ ?_
  · rintro j acc s ⟨⟨ns, rfl, rfl⟩, _⟩; simp
  · rintro j x acc s hj ⟨⟨ns, rfl, rfl⟩, rfl⟩
    obtain ⟨ro1, h1, h2⟩ := h x (List.mem_of_getElem? hj)
    refine ⟨ro1, h1, ?_⟩
    simp
    refine h2.mono ?_
    rintro _ _ ⟨⟨i, rfl⟩, rfl⟩
    exact ⟨⟨ns ++ [i], by simp, by simp⟩, rfl⟩
  · rintro acc s ⟨⟨ns, rfl, _⟩, rfl⟩
    exact hp ns
end
end CL
namespace CL
open PySem L2
def bodyZ (g__law_rows_of g__law_size : List Da → Mo Da) : Sl → Mo Fl := (mSeq (mSet 5 (e2 ixD (eVar 4) (eC (.int 0)))) (mIf (tst (e2 (inU false) (eVar 5) (eTup (aCons (eC (.str "set")) (aCons (eC (.str "throw")) aNil))))) (mSet 3 (e2 addD (e2 addD (eVar 3) (eCall (fun ds => ar 1 g__law_rows_of (ds ++ [])) (aCons (e2 ixD (eVar 4) (eC (.int 2))) aNil))) (eC (.int 1)))) (mIf (tst (e2 eqD (eVar 5) (eC (.str "out")))) (mSet 3 (e2 addD (e2 addD (eVar 3) (eCall (fun ds => ar 1 g__law_rows_of (ds ++ [])) (aCons (e2 ixD (eVar 4) (eC (.int 1))) aNil))) (eC (.int 1)))) (mIf (tst (e2 eqD (eVar 5) (eC (.str "return")))) (mSet 3 (e2 addD (e2 addD (e2 addD (eVar 3) (eCall (fun ds => ar 1 g__law_rows_of (ds ++ [])) (aCons (e2 ixD (eVar 4) (eC (.int 1))) aNil))) (eC (.int 3))) (eVar 1))) (mIf (tst (e2 eqD (eVar 5) (eC (.str "break")))) (mSet 3 (e2 addD (e2 addD (eVar 3) (eC (.int 1))) (eVar 2))) (mIf (tst (e2 eqD (eVar 5) (eC (.str "call")))) (mSet 3 (e2 addD (e2 addD (eVar 3) (eCall (one sum1) (aCons (eL (lComp (iV (e2 ixD (eVar 4) (eC (.int 3)))) (gN 7) tYes_ (eCall (fun ds => ar 1 g__law_rows_of (ds ++ [])) (aCons (eVar 7) aNil)) [7])) aNil))) (eC (.int 2)))) (mIf (tst (e2 eqD (eVar 5) (eC (.str "if")))) (mSet 3 (e2 addD (e2 addD (e2 addD (e2 addD (eVar 3) (eCall (fun ds => ar 1 g__law_rows_of (ds ++ [])) (aCons (e2 ixD (eVar 4) (eC (.int 1))) aNil))) (eC (.int 2))) (eCall (fun ds => ar 3 g__law_size (ds ++ [])) (aCons (e2 ixD (eVar 4) (eC (.int 2))) (aCons (eVar 1) (aCons (eVar 2) aNil))))) (eCall (fun ds => ar 3 g__law_size (ds ++ [])) (aCons (e2 ixD (eVar 4) (eC (.int 3))) (aCons (eVar 1) (aCons (eVar 2) aNil)))))) (mIf (tst (e2 eqD (eVar 5) (eC (.str "loop")))) (mSet 3 (e2 addD (e2 addD (eVar 3) (eC (.int 6))) (eCall (fun ds => ar 3 g__law_size (ds ++ [])) (aCons (e2 ixD (eVar 4) (eC (.int 2))) (aCons (eVar 1) (aCons (eC (.int 0)) aNil)))))) (mSeq (mSet 6 (eIf (tst (e2 (isB false) (e2 ixD (eVar 4) (eC (.int 3))) (eC (.non)))) (eC (.int 0)) (eCall (fun ds => ar 3 g__law_size (ds ++ [])) (aCons (e2 ixD (eVar 4) (eC (.int 3))) (aCons (eVar 1) (aCons (eVar 2) aNil)))))) (mSeq (mSet 3 (e2 addD (e2 addD (e2 addD (eVar 3) (eCall (fun ds => ar 3 g__law_size (ds ++ [])) (aCons (e2 ixD (eVar 4) (eC (.int 1))) (aCons (e2 addD (eVar 6) (eVar 1)) (aCons (e2 addD (eVar 6) (eVar 2)) aNil))))) (e2 mulD (eVar 6) (e2 addD (eC (.int 2)) (eCall (one lenD) (aCons (e2 ixD (eVar 4) (eC (.int 2))) aNil))))) (eC (.int 3)))) (mSet 3 (e2 addD (eVar 3) (eCall (one sum1) (aCons (eL (lComp (iV (e2 ixD (eVar 4) (eC (.int 2)))) (gN 7) tYes_ (e2 addD (eCall (fun ds => ar 3 g__law_size (ds ++ [])) (aCons (e2 ixD (eVar 7) (eC (.int 2))) (aCons (e2 addD (eVar 6) (eVar 1)) (aCons (e2 addD (eVar 6) (eVar 2)) aNil)))) (eC (.int 2))) [7])) aNil))))))))))))))
theorem law_size_eq (g__law_rows_of g__law_size : List Da → Mo Da) : m__law_size g__law_rows_of g__law_size = mSeq (mSet 3 (eC (.int 0))) (mSeq (mFor (iV (eVar 0)) (gN 4) (bodyZ g__law_rows_of g__law_size)) (mRet (eVar 3))) := rfl
section
variable {ix : Nat} {many : List Nat} {c : Nat}
def SizeS (b : Bd) (m : Nat) : Prop := ∀ (w o : Int) (st : Store) (ex : Str → List Da → Store → Prop) (post : Da → Store → Prop), (∀ i : Int, post (.int i) st) → Wq (f__law_size m [.lst b.da, .int w, .int o]) st post ex
def ZI (L : Da) (w o : Int) (st : Store) (ro : Sl) (s : Store) : Prop := (∃ (f : Int) (o4 o5 o6 o7 : Option Da), ro = [some L, some (.int w), some (.int o), some (.int f), o4, o5, o6, o7]) ∧ s = st
def RowZ (r : Rw) (m : Nat) : Prop := ∀ (L : Da) (w o f : Int) (o5 o6 o7 : Option Da) (st : Store), Wq (bodyZ (f__law_rows_of 10) (f__law_size m) [some L, some (.int w), some (.int o), some (.int f), some r.da, o5, o6, o7]) st (fun fl s => ∃ ro, fl = .nx ro ∧ ZI L w o st ro s) noEx
theorem RowZ.of {r : Rw} {m d : Nat} {lp : Bool} (ho : r.ok ix many d lp) (hmany : ∀ j ∈ many, j ≤ 3) (hif : ∀ e a b, r = .ifs e a b → SizeS a m ∧ SizeS b m) (hlo : ∀ n a, r = .loop n a → SizeS a m)
    (htr : ∀ a hs l, r = .tri a hs l → SizeS a m ∧ (∀ x ∈ hs.list, SizeS x.2.2 m) ∧ ∀ b, l = .som b → SizeS b m) : RowZ r m := by
  intro L w o f o5 o6 o7 st
  unfold bodyZ
  have done : ∀ (f : Int) (o4 o5 o6 o7 : Option Da), ∃ ro, Fl.nx [some L, some (.int w), some (.int o), some (.int f), o4, o5, o6, o7] = .nx ro ∧ ZI L w o st ro st := fun f o4 o5 o6 o7 => ⟨_, rfl, ⟨f, o4, o5, o6, o7, rfl⟩, rfl⟩
  cases r with
  | brk => simp [Rw.da, ZI]
  | set b e =>
    simp [Rw.da]
    refine rows_of_ok e 0 10 _ ho.2 (by decide) fun i => ?_
    simp [ZI]
  | out e =>
    simp [Rw.da]
    refine rows_of_ok e 0 10 _ ho (by decide) fun i => ?_
    simp [ZI]
  | thr k e =>
    simp [Rw.da]
    refine rows_of_ok e 0 10 _ ho.2 (by decide) fun i => ?_
    simp [ZI]
  | ret e =>
    simp [Rw.da]
    refine rows_of_ok e 0 10 _ ho (by decide) fun i => ?_
    simp [ZI]
  | call b g es =>
    obtain ⟨o1, o2, o3, o4⟩ := ho
    have hel : es.length ≤ 3 := hmany _ (List.mem_of_getElem? o3)
    simp [Rw.da]
    refine wq_compN (by simp; omega) ?_ fun ns => ?_
    · intro x hx
      obtain ⟨e, he, rfl⟩ := List.mem_map.mp hx
      refine ⟨_, rfl, ?_⟩
      simp
      exact rows_of_ok e 0 10 _ (o4 e he) (by decide) fun i => ⟨⟨i, rfl⟩, rfl⟩
    · simp [wq_sum1, ZI]
  | ifs e a b =>
    obtain ⟨h1, h2⟩ := hif e a b rfl
    simp [Rw.da]
    refine rows_of_ok e 0 10 _ ho.1 (by decide) fun i => ?_
    simp
    refine h1 w o st _ _ fun i => ?_
    simp
    refine h2 w o st _ _ fun i => ?_
    simp [ZI]
  | loop n a =>
    have h1 := hlo n a rfl
    simp [Rw.da]
    refine h1 w 0 st _ _ fun i => ?_
    simp [ZI]
  | tri a hs l =>
    obtain ⟨h1, h2, h3⟩ := htr a hs l rfl
    have hl4 : hs.da.length ≤ 4 := by rw [Hs.da_len]; exact ho.2.1.1
    have fin : ∀ (en : Int) (post : Fl → Store → Prop), (∀ (f : Int) o6 o7, post (.nx [some L, some (.int w), some (.int o), some (.int f), some (.tup [.str "try", .lst a.da, .lst hs.da, l.da]), some (.str "try"), o6, o7]) st) → Wq (mSeq (mSet 3 (e2 addD (e2 addD (e2 addD (eVar 3) (eCall (fun ds => ar 3 (f__law_size m) ds) (aCons (e2 ixD (eVar 4) (eC (.int 1))) (aCons (e2 addD (eVar 6) (eVar 1)) (aCons (e2 addD (eVar 6) (eVar 2)) aNil))))) (e2 mulD (eVar 6) (e2 addD (eC (.int 2)) (eCall (one lenD) (aCons (e2 ixD (eVar 4) (eC (.int 2))) aNil))))) (eC (.int 3)))) (mSet 3 (e2 addD (eVar 3) (eCall (one sum1) (aCons (eL (lComp (iV (e2 ixD (eVar 4) (eC (.int 2)))) (gN 7) tYes_ (e2 addD (eCall (fun ds => ar 3 (f__law_size m) ds) (aCons (e2 ixD (eVar 7) (eC (.int 2))) (aCons (e2 addD (eVar 6) (eVar 1)) (aCons (e2 addD (eVar 6) (eVar 2)) aNil)))) (eC (.int 2))) [7])) aNil)))) [some L, some (.int w), some (.int o), some (.int f), some (.tup [.str "try", .lst a.da, .lst hs.da, l.da]), some (.str "try"), some (.int en), o7]) st post noEx := by
      intro en post hp
      simp
      refine h1 _ _ st _ _ fun i => ?_
      have hm : CMul en (2 + (hs.da.length : Int)) := .inr ⟨by omega, by omega⟩
      simp [hm]
      refine wq_compN (by omega) ?_ fun ns => ?_
      · intro x hx
        rw [Hs.da_list] at hx
        obtain ⟨y, hy, rfl⟩ := List.mem_map.mp hx
        refine ⟨_, rfl, ?_⟩
        simp [hdD]
        refine h2 y hy _ _ st _ _ fun i => ?_
        simp
      · simp [wq_sum1]
        exact hp _ _ _
    cases l with
    | non =>
      have key := fin 0 (fun fl s => ∃ ro, fl = .nx ro ∧ ZI L w o st ro s) (fun f o6 o7 => done _ _ _ _ _)
      simp [Lo.da] at key
      simp [Rw.da, Lo.da]
      exact key
    | som b =>
      simp [Rw.da, Lo.da]
      refine h3 b rfl w o st _ _ fun i => ?_
      have key := fin i (fun fl s => ∃ ro, fl = .nx ro ∧ ZI L w o st ro s) (fun f o6 o7 => done _ _ _ _ _)
      simp [Lo.da] at key
      simp
      exact key
theorem SizeS.of {b : Bd} {m : Nat} (h : ∀ r ∈ b.da, ∃ x : Rw, r = x.da ∧ RowZ x m) : SizeS b (m + 1) := by
  intro w o st ex post hp
  rw [f__law_size_s, law_size_eq]
  simp [startS]
  refine Wq.go (post := fun fl s => ∃ ro, fl = .nx ro ∧ ZI (.lst b.da) w o st ro s) ?_ ?_
  · refine wq_forI (I := fun _ => ZI (.lst b.da) w o st) ⟨⟨_, _, _, _, _, rfl⟩, rfl⟩ ?_ ?_
    · rintro j x ro s hx ⟨⟨f, o4, o5, o6, o7, rfl⟩, rfl⟩
      obtain ⟨y, rfl, hy⟩ := h x (List.mem_of_getElem? hx)
      refine ⟨_, rfl, ?_⟩
      refine (hy (.lst b.da) w o f o5 o6 o7 s).mono ?_
      rintro fl s' ⟨ro, rfl, hz⟩
      exact hz
    · rintro ro s hz
      exact ⟨ro, rfl, hz⟩
  · rintro fl s ⟨ro, rfl, ⟨f, o4, o5, o6, o7, rfl⟩, rfl⟩
    simp
    exact hp f
mutual
theorem Rw.sz (hmany : ∀ j ∈ many, j ≤ 3) : ∀ (r : Rw) (d m : Nat) (lp : Bool), r.ok ix many d lp → r.nd 0 ≤ m + 1 → RowZ r m
  | .set b e, d, m, lp, ho, hm => RowZ.of ho hmany (fun _ _ _ z => nomatch z) (fun _ _ z => nomatch z) (fun _ _ _ z => nomatch z)
  | .out e, d, m, lp, ho, hm => RowZ.of (lp := lp) (d := d) ho hmany (fun _ _ _ z => nomatch z) (fun _ _ z => nomatch z) (fun _ _ _ z => nomatch z)
  | .thr k e, d, m, lp, ho, hm => RowZ.of ho hmany (fun _ _ _ z => nomatch z) (fun _ _ z => nomatch z) (fun _ _ _ z => nomatch z)
  | .call b g es, d, m, lp, ho, hm => RowZ.of ho hmany (fun _ _ _ z => nomatch z) (fun _ _ z => nomatch z) (fun _ _ _ z => nomatch z)
  | .brk, d, m, lp, ho, hm => RowZ.of ho hmany (fun _ _ _ z => nomatch z) (fun _ _ z => nomatch z) (fun _ _ _ z => nomatch z)
  | .ret e, d, m, lp, ho, hm => RowZ.of ho hmany (fun _ _ _ z => nomatch z) (fun _ _ z => nomatch z) (fun _ _ _ z => nomatch z)
  | .ifs e a b, d, m, lp, ho, hm => by
    have hm' : max (a.nd 0) (b.nd 0) + 1 ≤ m + 1 := by simpa [Rw.nd] using hm
    have h1 := Bd.sz hmany a (d + 1) m lp ho.2.1.2.2 (by omega)
    have h2 := Bd.sz hmany b (d + 1) m lp ho.2.2.2 (by omega)
    exact RowZ.of ho hmany (fun _ _ _ z => by cases z; exact ⟨h1, h2⟩) (fun _ _ z => nomatch z) (fun _ _ _ z => nomatch z)
  | .loop n a, d, m, lp, ho, hm => by
    have hm' : a.nd 0 + 2 ≤ m + 1 := by simpa [Rw.nd] using hm
    have h1 := Bd.sz hmany a (d + 1) m true ho.2.2.2 (by omega)
    exact RowZ.of ho hmany (fun _ _ _ z => nomatch z) (fun _ _ z => by cases z; exact h1) (fun _ _ _ z => nomatch z)
  | .tri a hs l, d, m, lp, ho, hm => by
    have hm' : max (a.nd 0) (max (hs.nd 0) (l.nd 0)) + 2 ≤ m + 1 := by simpa [Rw.nd] using hm
    have h1 := Bd.sz hmany a (d + 1) m lp ho.1.2.2 (by omega)
    have h2 := Hs.sz hmany hs (d + 1) m lp ho.2.1.2 (by omega)
    have h3 := Lo.sz hmany l (d + 1) m lp ho.2.2 (by omega)
    exact RowZ.of ho hmany (fun _ _ _ z => nomatch z) (fun _ _ z => nomatch z) (fun _ _ _ z => by cases z; exact ⟨h1, h2, h3⟩)
theorem Bd.szL (hmany : ∀ j ∈ many, j ≤ 3) : ∀ (b : Bd) (d m : Nat) (lp : Bool), b.rows ix many d lp → b.nd 0 ≤ m + 1 → ∀ r ∈ b.da, ∃ x : Rw, r = x.da ∧ RowZ x m
  | .nil, d, m, lp, ho, hm, r, hr => nomatch hr
  | .cons x b, d, m, lp, ho, hm, r, hr => by
    have hm' : max (x.nd 0 + 1) (b.nd 0) ≤ m + 1 := by simpa [Bd.nd] using hm
    have h1 := Rw.sz hmany x d m lp ho.1 (by omega)
    have h2 := Bd.szL hmany b d m lp ho.2 (by omega)
    rcases List.mem_cons.mp (show r ∈ x.da :: b.da by simpa [Bd.da] using hr) with rfl | hr
    · exact ⟨x, rfl, h1⟩
    · exact h2 r hr
theorem Bd.sz (hmany : ∀ j ∈ many, j ≤ 3) : ∀ (b : Bd) (d m : Nat) (lp : Bool), b.rows ix many d lp → b.nd 0 ≤ m → SizeS b m
  | .nil, d, m, lp, ho, hm => by
    have hm' : 1 ≤ m := by simpa [Bd.nd] using hm
    obtain ⟨m, rfl⟩ := Nat.exists_eq_add_of_le' hm'
    exact SizeS.of fun r hr => nomatch hr
  | .cons x b, d, m, lp, ho, hm => by
    have hm' : max (x.nd 0 + 1) (b.nd 0) ≤ m := by simpa [Bd.nd] using hm
    obtain ⟨m, rfl⟩ : ∃ k, m = k + 1 := ⟨m - 1, by omega⟩
    have h1 := Rw.sz hmany x d m lp ho.1 (by omega)
    have h2 := Bd.szL hmany b d m lp ho.2 (by omega)
    refine SizeS.of fun r hr => ?_
    rcases List.mem_cons.mp (show r ∈ x.da :: b.da by simpa [Bd.da] using hr) with rfl | hr
    · exact ⟨x, rfl, h1⟩
    · exact h2 r hr
theorem Hs.sz (hmany : ∀ j ∈ many, j ≤ 3) : ∀ (b : Hs) (d m : Nat) (lp : Bool), b.ok ix many d lp → b.nd 0 ≤ m → ∀ x ∈ b.list, SizeS x.2.2 m
  | .nil, d, m, lp, ho, hm, x, hx => nomatch hx
  | .cons k b a hh, d, m, lp, ho, hm, x, hx => by
    have hm' : max (a.nd 0) (hh.nd 0) ≤ m := by simpa [Hs.nd] using hm
    have h1 := Bd.sz hmany a d m lp ho.2.2.1.2 (by omega)
    have h2 := Hs.sz hmany hh d m lp ho.2.2.2 (by omega)
    rcases List.mem_cons.mp hx with rfl | hx
    · exact h1
    · exact h2 x hx
theorem Lo.sz (hmany : ∀ j ∈ many, j ≤ 3) : ∀ (b : Lo) (d m : Nat) (lp : Bool), b.ok ix many d lp → b.nd 0 ≤ m → ∀ a, b = .som a → SizeS a m
  | .non, d, m, lp, ho, hm, a, z => nomatch z
  | .som b, d, m, lp, ho, hm, a, z => by
    have hm' : b.nd 0 ≤ m := by simpa [Lo.nd] using hm
    have h1 := Bd.sz hmany b d m lp ho.2 hm'
    cases z
    exact h1
end
end
end CL
namespace CL
open PySem L2
def progBody (g__law_draw g__law_body g__law_pick : List Da → Mo Da) : Sl → Mo Fl := (mSeq (mSet 4 (eCall (fun ds => ar 4 g__law_body (ds ++ [])) (aCons (eVar 0) (aCons (eC (.int 3)) (aCons (eC (.bl false)) (aCons (eTup (aCons (eVar 3) (aCons (eVar 1) aNil))) aNil)))))) (mSeq (mIf (tst (e2 gtD (eCall (fun ds => ar 2 g__law_draw (ds ++ [])) (aCons (eVar 0) (aCons (eC (.int 3)) aNil))) (eC (.int 0)))) (mSeq (mSet 5 (eTup (aCons (eCall (fun ds => ar 2 g__law_pick (ds ++ [])) (aCons (eVar 0) (aCons (eL (lDisp (aCons (eC (.non)) (aCons (eC (.int 0)) (aCons (eC (.int 1)) aNil))))) aNil))) (aCons (eC (.int 2)) (aCons (eCall (fun ds => ar 4 g__law_body (ds ++ [])) (aCons (eVar 0) (aCons (eC (.int 2)) (aCons (eC (.bl false)) (aCons (eTup (aCons (eVar 3) (aCons (eVar 1) aNil))) aNil))))) aNil))))) (mSeq (mSet 6 (eCall (fun ds => ar 2 g__law_pick (ds ++ [])) (aCons (eVar 0) (aCons (eL (lDisp (aCons (eC (.non)) (aCons (eCall (fun ds => ar 4 g__law_body (ds ++ [])) (aCons (eVar 0) (aCons (eC (.int 1)) (aCons (eC (.bl false)) (aCons (eTup (aCons (eVar 3) (aCons (eVar 1) aNil))) aNil))))) aNil)))) aNil)))) (mSet 4 (eL (l2 catL (eL (lDisp (aCons (eTup (aCons (eC (.str "try")) (aCons (eVar 4) (aCons (eL (lDisp (aCons (eVar 5) aNil))) (aCons (eVar 6) aNil))))) aNil))) (eCall (fun ds => ar 4 g__law_body (ds ++ [])) (aCons (eVar 0) (aCons (eC (.int 1)) (aCons (eC (.bl false)) (aCons (eTup (aCons (eVar 3) (aCons (eVar 1) aNil))) aNil)))))))))) mNil) (mExpr (eApp (eVar 2) (eTup (aCons (e2 ixD (eVar 1) (eVar 3)) (aCons (eVar 4) aNil)))))))
def progTail (g__law_size : List Da → Mo Da) : Sl → Mo Fl := mSeq (mIf (tst (e2 gtD (eCall (one sum1) (aCons (eL (lComp (iV (eVar 2)) (gT 2 (gsC (gN 8) (gsC (gN 4) gsN))) tYes_ (eCall (fun ds => ar 3 g__law_size (ds ++ [])) (aCons (eVar 4) (aCons (eC (.int 0)) (aCons (eC (.int 0)) aNil)))) [8, 4])) aNil)) (eC (.int 1500)))) (mSet 2 (eH (lComp (iV (eVar 1)) (gN 7) tYes_ (eTup (aCons (eVar 7) (aCons (eL (lDisp (aCons (eTup (aCons (eC (.str "out")) (aCons (eC (.int 7)) aNil))) (aCons (eTup (aCons (eC (.str "return")) (aCons (eC (.int 1)) aNil))) aNil)))) aNil))) [7]))) mNil) (mRet (eF (eVar 2)))
theorem law_program_eq (g__law_draw g__law_body g__law_pick g__law_size : List Da → Mo Da) : m__law_program g__law_draw g__law_body g__law_pick g__law_size = mSeq (mIf (tst (e2 ltD (eCall (one lenD) (aCons (eVar 0) aNil)) (eC (.int 3)))) (mExpr (eApp (eVar 0) (eC (.int 0)))) mNil) (mSeq (mSetI (eC (.int 0)) (eVar 0) (eC (.int 2))) (mSeq (mSet 1 (eL (l2 catL (eL (lDisp (aCons (eC (.int 0)) aNil))) (eL (lComp (iR1 (aCons (eCall (fun ds => ar 2 g__law_draw (ds ++ [])) (aCons (eVar 0) (aCons (eC (.int 3)) aNil))) aNil)) (gN 3) tYes_ (eCall (fun ds => ar 2 g__law_draw (ds ++ [])) (aCons (eVar 0) (aCons (eC (.int 3)) aNil))) [3]))))) (mSeq (mSet 2 (eH (lDisp aNil))) (mSeq (mFor (iR1 (aCons (eCall (one lenD) (aCons (eVar 1) aNil)) aNil)) (gN 3) (progBody g__law_draw g__law_body g__law_pick)) (progTail g__law_size))))) := rfl
section
variable {t r : Nat}
structure PB (ix : Nat) (many : List Nat) (b : Bd) : Prop where
  len : b.len ≤ 8
  ok : b.rows ix many 0 false
  nd : ∀ c, b.nd c ≤ c + 15
theorem BDn.pb {ix : Nat} {many : List Nat} {b : Bd} (h : BDn ix many false 3 b) : PB ix many b := ⟨h.len, h.ok 0 (by decide), fun c => by have := h.nd c; omega⟩
abbrev mnD (many : List Nat) : Da := .lst (many.map fun (n : Nat) => .int n)
def PI (t r : Nat) (many : List Nat) (st0 : Store) (q : Nat) (j : Nat) (ro : Sl) (s : Store) : Prop := ∃ fs : List Fn, fs.length = j ∧ (∀ (i : Nat) (f : Fn), fs[i]? = some f → many[i]? = some f.1 ∧ PB i many f.2) ∧ s[q]? = some (.lst (fs.map Fn.da)) ∧ Dr t r st0 s ∧ ∃ o3 o4 o5 o6 o7 o8, ro = [some (.han t), some (mnD many), some (.han q), o3, o4, o5, o6, o7, o8]
theorem prog_body_ok {many : List Nat} {st0 s : Store} {q : Nat} {fs : List Fn} {o4 o5 o6 o7 o8 : Option Da} (hj : fs.length < many.length) (hml : many.length ≤ 3) (hmany : ∀ j ∈ many, j ≤ 3) (hfs : ∀ (i : Nat) (f : Fn), fs[i]? = some f → many[i]? = some f.1 ∧ PB i many f.2) (hq : s[q]? = some (.lst (fs.map Fn.da))) (hq0 : st0.length ≤ q) (ht : Tw t r st0) (h0 : Dr t r st0 s) :
    Wq (progBody f__law_draw (f__law_body 20) f__law_pick [some (.han t), some (mnD many), some (.han q), some (.int fs.length), o4, o5, o6, o7, o8]) s (fun f s => ∃ ro, f = .nx ro ∧ PI t r many st0 q (fs.length + 1) ro s) noEx := by
  have hB : ∀ k, k ≤ 3 → BodyS t r fs.length many k 20 := fun k hk => law_body_ok hj (by omega) hmany k 20 (by omega)
  have hlt := ht.lt
  obtain ⟨p, hp⟩ : ∃ p, many[fs.length]? = some p := ⟨_, List.getElem?_eq_getElem hj⟩
  have hix : ∀ {s : Store} {post : Da → Store → Prop} {ex : Str → List Da → Store → Prop}, Wq (ixD (mnD many) (.int fs.length)) s post ex ↔ post (.int p) s := fun {s post ex} => wq_ix_l (atI_nat (by rw [List.getElem?_map, hp]; rfl))
  have fin : ∀ (b : Bd) (s' : Store), PB fs.length many b → Dr t r s s' → s'[q]? = some (.lst (fs.map Fn.da)) ∧ ∀ o3 o4 o5 o6 o7 o8, PI t r many st0 q (fs.length + 1) [some (.han t), some (mnD many), some (.han q), o3, o4, o5, o6, o7, o8] (s'.set q (.lst (fs.map Fn.da ++ [.tup [.int p, .lst b.da]]))) := by
    intro b s' hb h1
    have a1 := h1.at hq (by omega) (by omega)
    refine ⟨a1, fun o3 o4 o5 o6 o7 o8 => ⟨fs ++ [(p, b)], by simp, ?_, ?_, (h0.trans h1).set hq0 ht, _, _, _, _, _, _, rfl⟩⟩
    · intro i f hf
      rw [List.getElem?_append] at hf
      split at hf
      · exact hfs i f hf
      · rename_i hh
        have : i = fs.length := by
          obtain ⟨z, _⟩ := List.getElem?_eq_some_iff.mp hf
          simp at z
          omega
        subst this
        simp at hf
        subst hf
        exact ⟨hp, hb⟩
    · rw [List.getElem?_set_self (some_lt a1)]
      simp [Fn.da]
  unfold progBody
  simp
  refine (hB 3 (by decide) false 3 s rfl h0.tw).go ?_
  rintro _ s1 ⟨⟨b, rfl, hb⟩, h1⟩
  simp
  refine (draw_ok h1.tw (by decide) (by decide)).go fun _ s2 ⟨v, e, v0, v1, h2⟩ => ?_
  subst e
  by_cases z : 0 < v
  · simp [z]
    refine (pick_ok h2.tw (by simp) (by simp)).go fun x s3 ⟨hx, h3⟩ => ?_
    obtain ⟨kk, rfl, hk5⟩ : ∃ kk : Option Nat, x = onD kk ∧ ∀ j, kk = some j → j < 5 := by
      simp at hx
      rcases hx with rfl | rfl | rfl
      · exact ⟨none, rfl, fun j z => nomatch z⟩
      · exact ⟨some 0, rfl, fun j z => by cases z; decide⟩
      · exact ⟨some 1, rfl, fun j z => by cases z; decide⟩
    simp
    refine (hB 2 (by decide) false 2 s3 rfl h3.tw).go ?_
    rintro _ s4 ⟨⟨b4, rfl, hb4⟩, h4⟩
    simp
    refine (hB 1 (by decide) false 1 s4 rfl h4.tw).go ?_
    rintro _ s5 ⟨⟨b5, rfl, hb5⟩, h5⟩
    simp
    refine (pick_ok h5.tw (by simp) (by simp)).go fun x s6 ⟨hx, h6⟩ => ?_
    obtain ⟨l, rfl, hl3⟩ : ∃ l : Lo, x = l.da ∧ ∀ b, l = .som b → BDn fs.length many false 3 b := by
      simp at hx
      rcases hx with rfl | rfl
      · exact ⟨.non, rfl, fun b z => nomatch z⟩
      · exact ⟨.som b5, rfl, fun b z => by cases z; exact hb5.mono (by decide)⟩
    simp
    refine (hB 1 (by decide) false 1 s6 rfl h6.tw).go ?_
    rintro _ s7 ⟨⟨b7, rfl, hb7⟩, h7⟩
    have h17 := (((((h1.trans h2).trans h3).trans h4).trans h5).trans h6).trans h7
    have hl7 : b7.da.length ≤ 3 := by rw [Bd.da_len]; exact hb7.l3
    have htri : RDn fs.length many false 4 (.tri b (Hs.of [(kk, 2, b4)]) l) := RDn.tri hb (by simp) (by
      intro x hx
      rw [List.mem_singleton.mp hx]
      exact ⟨hk5, (by decide : 2 < 8), hb4.mono (by decide)⟩) hl3
    have hpb : PB fs.length many (.cons (.tri b (Hs.of [(kk, 2, b4)]) l) b7) := by
      refine ⟨by have := hb7.l3; simp only [Bd.len]; omega, ⟨htri.ok 0 (by decide), hb7.ok 0 (by decide)⟩, fun c => ?_⟩
      have := htri.nd c
      have := hb7.nd c
      simp only [Bd.nd]
      omega
    obtain ⟨a7, f7⟩ := fin _ s7 hpb h17
    have hcat : ∀ {post : List Da → Store → Prop} {ex : Str → List Da → Store → Prop}, Wq (catL (.lst [.tup [.str "try", .lst b.da, .lst [.tup [onD kk, .int 2, .lst b4.da]], l.da]]) (.lst b7.da)) s7 post ex ↔ post ((Bd.cons (.tri b (Hs.of [(kk, 2, b4)]) l) b7).da) s7 := by
      intro post ex
      rw [wq_iff]
      unfold Wp catL
      dsimp only [lsOf]
      rw [if_pos (by show 1 + _ ≤ 1000000; omega)]
      simp [Bd.da, Rw.da, Hs.of, Hs.da]
    generalize Bd.cons (.tri b (Hs.of [(kk, 2, b4)]) l) b7 = B at *
    simp [hcat, wq_isLs_h a7, hix]
    rw [wq_appD a7 (by simp; omega)]
    simp
    exact f7 _ _ _ _ _ _
  · simp [z]
    have h12 := h1.trans h2
    obtain ⟨a7, f7⟩ := fin _ s2 hb.pb h12
    simp [wq_isLs_h a7, hix]
    rw [wq_appD a7 (by simp; omega)]
    simp
    exact f7 _ _ _ _ _ _
structure PgD (P : Pg) : Prop where
  ok : P.ok
  l3 : P.length ≤ 3
  nd : ∀ f ∈ P, ∀ c, f.2.nd c ≤ c + 15
theorem PgD.nd90 {P : Pg} (h : PgD P) : P.nd P.length ≤ 90 := by
  have h1 : ∀ k, P.nd k ≤ 16 * k := by
    intro k
    induction k with
    | zero => exact Nat.le_refl _
    | succ k ih =>
      simp only [Pg.nd]
      have : ∀ xs : List Fn, (∀ f ∈ xs, f.2.nd (P.nd k) ≤ P.nd k + 15) → (xs.map fun f => f.2.nd (P.nd k)).foldr max 0 ≤ P.nd k + 15 := by
        intro xs
        induction xs with
        | nil => intro _; simp
        | cons x xs ih2 =>
          intro hx
          have a1 := hx x (by simp)
          have a2 := ih2 fun f hf => hx f (by simp [hf])
          simp only [List.map_cons, List.foldr_cons]
          omega
      have := this P fun f hf => h.nd f hf _
      omega
  have := h1 P.length
  have := h.l3
  omega
theorem PgD.of {many : List Nat} {fs : List Fn} (hl : fs.length = many.length) (h1 : 1 ≤ many.length) (h3 : many.length ≤ 3) (h0 : many[0]? = some 0) (hmany : ∀ j ∈ many, j ≤ 3) (h : ∀ (i : Nat) (f : Fn), fs[i]? = some f → many[i]? = some f.1 ∧ PB i many f.2) : PgD fs := by
  have e : fs.map (·.1) = many := by
    refine List.ext_getElem? fun i => ?_
    rw [List.getElem?_map]
    cases q : fs[i]? with
    | none =>
      have := List.getElem?_eq_none_iff.mp q
      rw [List.getElem?_eq_none (by omega)]
      rfl
    | some f => rw [(h i f q).1]; rfl
  refine ⟨⟨by omega, by omega, ?_, ?_, ?_⟩, by omega, ?_⟩
  · intro f hf
    obtain ⟨i, hi⟩ := List.getElem?_of_mem hf
    exact hmany _ (List.mem_of_getElem? (h i f hi).1)
  · intro f hf
    have := (h 0 f hf).1
    rw [h0] at this
    exact (Option.some.inj this).symm
  · intro i f hf
    rw [e]
    have := (h i f hf).2
    exact ⟨by omega, this.len, this.ok⟩
  · intro f hf c
    obtain ⟨i, hi⟩ := List.getElem?_of_mem hf
    exact (h i f hi).2.nd c
def two7 : Bd := .cons (.out (.num 7)) (.cons (.ret (.num 1)) .nil)
theorem two7_pb {i : Nat} {many : List Nat} : PB i many two7 := ⟨by decide, ⟨⟨by decide, by decide⟩, ⟨by decide, by decide⟩, trivial⟩, fun c => by simp [two7, Bd.nd, Rw.nd]⟩
theorem size_num {b : Bd} {m : Nat} {st : Store} (h : SizeS b m) : ∃ i : Int, Wq (f__law_size m [.lst b.da, .int 0, .int 0]) st (fun d s => d = .int i ∧ s = st) noEx := by
  have h1 := h 0 0 st noEx (fun d s => (∃ i : Int, d = .int i) ∧ s = st) fun i => ⟨⟨i, rfl⟩, rfl⟩
  obtain ⟨d, s, e, ⟨i, rfl⟩, rfl⟩ := h1.p.out
  exact ⟨i, ⟨by unfold Wp; rw [e]; exact ⟨rfl, rfl⟩⟩⟩
theorem prog_tail_ok {many : List Nat} {st0 s : Store} {q : Nat} {ro : Sl} (h1 : 1 ≤ many.length) (h3 : many.length ≤ 3) (hz : many[0]? = some 0) (hmany : ∀ j ∈ many, j ≤ 3) (hq0 : st0.length ≤ q) (ht : Tw t r st0) (hI : PI t r many st0 q many.length ro s) :
    Wq (progTail (f__law_size 20) ro) s (fun f s => ∃ P : Pg, f = .rt P.da ∧ PgD P ∧ Dr t r st0 s) noEx := by
  obtain ⟨fs, hl, hfs, hq, h0, o3, o4, o5, o6, o7, o8, rfl⟩ := hI
  have hP := PgD.of hl h1 h3 hz hmany hfs
  have hlt := ht.lt
  have hsz : ∀ f ∈ fs, ∃ i : Int, Wq (f__law_size 20 [.lst f.2.da, .int 0, .int 0]) s (fun d s' => d = .int i ∧ s' = s) noEx := by
    intro f hf
    obtain ⟨i, hi⟩ := List.getElem?_of_mem hf
    have hpb := (hfs i f hi).2
    exact size_num (Bd.sz hmany f.2 0 20 false hpb.ok (by have := hpb.nd 0; omega))
  obtain ⟨g, hg⟩ : ∃ g : Fn → Int, ∀ f ∈ fs, Wq (f__law_size 20 [.lst f.2.da, .int 0, .int 0]) s (fun d s' => d = .int (g f) ∧ s' = s) noEx :=
    ⟨fun f => open Classical in if h : ∃ i : Int, Wq (f__law_size 20 [.lst f.2.da, .int 0, .int 0]) s (fun d s' => d = .int i ∧ s' = s) noEx then h.choose else 0, fun f hf => by
      have h := hsz f hf
      simp only [dif_pos h]
      exact h.choose_spec⟩
  unfold progTail
  simp [wq_srcV_h hq]
  refine wq_compFh (rs := fs) (f := Fn.da) (g := fun f => .int (g f)) (P := fun _ => true) hq (by omega) ?_ ?_
  · intro f hf
    refine ⟨_, rfl, by simp, fun _ => ?_⟩
    simp
    exact hg f hf
  · rw [List.filter_eq_self.mpr (by simp)]
    have es : ∀ {post : Da → Store → Prop} {ex : Str → List Da → Store → Prop}, Wq (sum1 (.lst (fs.map fun f => Da.int (g f)))) s post ex ↔ post (.int (fs.map g).sum) s := by
      intro post ex
      have := wq_sum1 (st := s) (post := post) (ex := ex) (ns := fs.map g)
      rw [List.map_map] at this
      exact this
    simp [es]
    by_cases z : 1500 < (fs.map g).sum
    · simp [z]
      refine wq_compM (f := fun (n : Nat) => Da.int n) (g := fun n => Fn.da (n, two7)) (by omega) ?_ ?_
      · intro n hn
        refine ⟨_, rfl, ?_⟩
        simp [Fn.da, two7, Bd.da, Rw.da, Ex.da]
      · simp
        rw [wq_fz (n := s.length) (ds := many.map fun n => Fn.da (n, two7)) (by simp)]
        simp
        refine ⟨many.map fun n => (n, two7), by simp [Pg.da], ?_, h0.push⟩
        refine PgD.of (many := many) (by simp) h1 h3 hz hmany ?_
        intro i f hf
        rw [List.getElem?_map] at hf
        obtain ⟨n, hn, rfl⟩ := Option.map_eq_some_iff.mp hf
        exact ⟨hn, two7_pb⟩
    · simp [z]
      rw [wq_fz hq]
      simp
      exact ⟨fs, rfl, hP, h0.set hq0 ht⟩
theorem law_program_ok {st : Store} (ht : Tw t r st) : Wq (f__law_program [.han t]) st (fun x s => ∃ P : Pg, x = P.da ∧ PgD P ∧ Dr t r st s) noEx := by
  unfold f__law_program
  rw [law_program_eq]
  refine wq_fnM.mpr ?_
  refine Wq.seq (fun f s => f = .nx [some (.han t), none, none, none, none, none, none, none, none] ∧ Dr t r st s ∧ Third t r s) (third_ok ht rfl) ?_
  rintro f s1 ⟨rfl, h1, t1⟩
  simp
  refine t1.put h1.tw _ fun s2 h2 t2 => ?_
  simp
  refine (draw_ok h2.tw (by decide) (by decide)).go fun _ s3 ⟨v, e, v0, v1, h3⟩ => ?_
  subst e
  have hbig : big v := ⟨by omega, by omega⟩
  have h13 := (h1.trans h2).trans h3
  simp [hbig]
  have hl : (rngL 0 v.toNat).length = v.toNat := by simp [rngL]
  refine wq_compI (I := fun j acc s => (∃ ns : List Nat, acc = ns.map (fun (n : Nat) => Da.int n) ∧ ns.length = j ∧ ∀ n ∈ ns, n ≤ 3) ∧ Dr t r st s) ⟨⟨[], rfl, rfl, by simp⟩, h13⟩ ?_ (by rw [hl]; omega) ?_ ?_
  · rintro j acc s ⟨⟨ns, rfl, rfl, _⟩, _⟩; simp
  · rintro j x acc s hx ⟨⟨ns, rfl, rfl, hn⟩, hd⟩
    refine ⟨_, rfl, ?_⟩
    simp
    refine (draw_ok hd.tw (by decide) (by decide)).go fun _ s4 ⟨w, e, w0, w1, h4⟩ => ?_
    subst e
    obtain ⟨n, rfl⟩ := toN w0
    refine ⟨⟨ns ++ [n], by simp, by simp, ?_⟩, hd.trans h4⟩
    intro x hx
    rcases List.mem_append.mp hx with hx | hx
    · exact hn x hx
    · rw [List.mem_singleton.mp hx]; omega
  · rintro acc s4 ⟨⟨ns, rfl, hj, hn⟩, h4⟩
    obtain ⟨many, hmq⟩ : ∃ many : List Nat, many = 0 :: ns := ⟨_, rfl⟩
    have hcat : ∀ {post : List Da → Store → Prop} {ex : Str → List Da → Store → Prop}, Wq (catL (.lst [.int 0]) (.lst (ns.map fun (n : Nat) => Da.int n))) s4 post ex ↔ post (many.map fun (n : Nat) => Da.int n) s4 := by
      intro post ex
      rw [wq_iff]
      unfold Wp catL
      dsimp only [lsOf]
      rw [if_pos (by rw [List.length_map]; show 1 + _ ≤ 1000000; omega), hmq]
      rfl
    have m1 : 1 ≤ many.length := by rw [hmq]; simp
    have m3 : many.length ≤ 3 := by rw [hmq]; simp; omega
    have mz : many[0]? = some 0 := by rw [hmq]; rfl
    have mm : ∀ j ∈ many, j ≤ 3 := by
      rw [hmq]
      intro j hj
      rcases List.mem_cons.mp hj with rfl | hj
      · decide
      · exact hn j hj
    have hmb : big (many.length : Int) := ⟨by omega, by omega⟩
    simp [hcat, hmb]
    have a5 : (s4 ++ [Cell.lst []])[s4.length]? = some (.lst (([] : List Fn).map Fn.da)) := by simp
    have h5 : Dr t r st (s4 ++ [Cell.lst []]) := h4.push
    have hge := h4.kp.1
    generalize s4 ++ [Cell.lst []] = s5 at a5 h5 ⊢
    generalize s4.length = q at *
    refine Wq.go (post := fun f s => ∃ ro, f = .nx ro ∧ PI t r many st q many.length ro s) ?_ ?_
    · have hl2 : (rngL 0 many.length).length = many.length := by simp [rngL]
      refine wq_forI (I := PI t r many st q) ⟨[], rfl, by simp, a5, h5, _, _, _, _, _, _, rfl⟩ ?_ ?_
      · rintro j x ro s hx ⟨fs, rfl, hfs, hq, h0, o3, o4, o5, o6, o7, o8, rfl⟩
        have hjl : fs.length < many.length := by
          obtain ⟨z, _⟩ := List.getElem?_eq_some_iff.mp hx
          omega
        have hx' : x = .int fs.length := by
          simp [rngL] at hx
          obtain ⟨a, ha, rfl⟩ := hx
          rw [List.getElem?_range hjl] at ha
          rw [Option.some.inj ha]
        subst hx'
        refine ⟨_, rfl, ?_⟩
        refine (prog_body_ok hjl m3 mm hfs hq hge ht h0).mono ?_
        rintro f s' ⟨ro, rfl, h⟩
        exact h
      · rintro ro s h
        rw [hl2] at h
        exact ⟨ro, rfl, h⟩
    · rintro f s ⟨ro, rfl, h⟩
      simp
      refine (prog_tail_ok m1 m3 mz mm hge ht h).mono ?_
      rintro f s' ⟨P, rfl, hP, hd⟩
      simp
      exact ⟨P, rfl, hP, hd⟩
end
end CL
namespace CL
open PySem PySem.Spec PyProof.Rows L2
/-- a law's walk by facts of the head; the law may call defs that raise -/
theorem walkE {l : PySem.W.OpenLaw} {n k : Nat} {qq : Program} {loose : List Str} {XP : (Str → Option Value) → Heap → Prop} {YP : World → Heap → Prop} {d : DefRec} {x : Str}
    (hn : l.most = some n) (hn2 : n ≤ sizeLine) (hdf : d.params.defaults = []) (hr : Room k callerA)
    (F : ∀ (w : World) (mg : Str → Option Value) (fa : Addr) (h : Heap), YP w h → h.Ns mainGlobals mg → mg d.name = some (.ref fa) →
      ∃ (K : PySem.W.Frag) (fd : FuncData) (sp : Sp), K.In h ∧ (∀ (s : Shared) (u : Value), BindsTo s fd ⟨[u], []⟩ [(x, u)]) ∧
        (∀ (H : Hp) (a : Addr) (ns : List Int), ns.length ≤ n → Only H → SqL K H a (ns.map V.int) → sp [.ref a] H (fun v _ => v = .bl true) fun _ _ _ => False) ∧
        ∀ base : Heap, K.In base → base.Ns mainGlobals mg → FnOk l.prog w K mg base (L2.CX l.prog w) k fa fd [x] sp) :
    PySem.W.WalkO qq loose XP YP l.row.toRowW d [] (fun f vs => PySem.call f vs) := by
  refine Att.attach_call hn hdf fun w s0 s1 mg mb fa o pm cd doc a vs ns G Y ho hd hcd hmg hobj hints hlen hg => ?_
  obtain ⟨K, fd, sp, KX, hb, hsp, hF⟩ := F w mg fa _ Y G.T.g hmg
  refine law_call KX G.T.g G.T.b G.T.builtins G.T.nolimit hg hobj hints (Nat.le_trans hlen hn2) hr hF hb (fun H hO hS => hsp H a ns hlen hO hS) fun H e s' z => ?_
  obtain ⟨_, _, _, _, _, _, _, _, _, _, _, _, z⟩ := z
  exact z
theorem repL_ints {K : PySem.W.Frag} {w : Wd} : ∀ ns : List Int, RepL K w (ns.map V.int) (ns.map Da.int)
  | [] => .nil
  | n :: r => .cons (.int n) (repL_ints r)
theorem law_start {K : PySem.W.Frag} {H : Hp} {a : Addr} {ns : List Int} {f : List Da → Mo Da} (hO : Only H) (hS : SqL K H a (ns.map V.int)) (h : ∃ st', f [.fro (ns.map Da.int)] [] = .ok (.bl true) st') :
    SpOf K 1 f [.ref a] H (fun v _ => v = .bl true) (fun _ _ _ => False) := by
  obtain ⟨st', h⟩ := h
  refine ⟨⟨[], [], H, []⟩, [.fro (ns.map Da.int)], rfl, ⟨rfl, List.nodup_nil, fun a h => absurd h (by simp), fun n a c h => absurd h (by simp), fun a h => absurd h (by simp)⟩, .cons (.fro ?_ (repL_ints ns)) .nil, rfl, ?_⟩
  · rcases hS with (hS | hS) | hS
    · rcases hO a with z | ⟨o, xs, z⟩
      · rw [z] at hS; cases hS
      · rw [z] at hS; cases hS
    · exact .inl hS
    · exact .inr hS
  · show Run K _ (f [.fro (ns.map Da.int)] []) _ _
    rw [h]
    intro io H' x m v r
    exact rep_bl r
end CL
namespace CL
open PySem L2
theorem fnEv_ok' {P : Pg} {f : Fn} (hP : P.ok) (hf : P[0]? = some f) (hfl : f.1 = 0) : Ed.ok false (fnEv P P.length 0 [] [] 0).1 ∧ (fnEv P P.length 0 [] [] 0).1 ≠ .on := by
  obtain ⟨k, hk⟩ : ∃ k, P.length = k + 1 := ⟨P.length - 1, by have := hP.l1; omega⟩
  have hok := Bd.ev_ok (fnEv_ok hP k 0 (by omega)) f.2 0 false ⟨box8 [], [], 0⟩ (hP.bod 0 f hf).rows (box8_ok (by simp) (by simp))
  rw [hk, fnEv, hf]
  dsimp only
  cases q : (f.2.ev (fnEv P k) ⟨box8 [], [], 0⟩).1 with
  | on => exact ⟨show Rg 0 by decide, by intro z; cases z⟩
  | brk => rw [q] at hok; exact nomatch hok.1
  | ret v => rw [q] at hok; exact ⟨hok.1, by intro z; cases z⟩
  | thr j v => rw [q] at hok; exact ⟨hok.1, by intro z; cases z⟩
theorem law_true (ns : List Int) (hl : ns.length ≤ 63) : ∃ st, f_law [.fro (ns.map Da.int)] [] = .ok (.bl true) st := by
  suffices h : Wq (f_law [.fro (ns.map Da.int)]) [] (fun d _ => d = .bl true) noEx by
    obtain ⟨d, st, h1, rfl⟩ := h.p.out
    exact ⟨st, h1⟩
  unfold f_law m_law
  simp [startS]
  refine (town_ok ns).go fun d s ⟨e, ht⟩ => ?_
  subst e
  have hbig : big (4 : Int) := ⟨by decide, by decide⟩
  simp [hbig]
  refine wq_forI (I := fun _ ro s => Tw 1 0 s ∧ ∃ o2 o3 o4 o5, ro = [some (.fro (ns.map Da.int)), some (.han 1), o2, o3, o4, o5]) ⟨ht, _, _, _, _, rfl⟩ ?_ ?_
  · rintro j x ro s hx ⟨ht, o2, o3, o4, o5, rfl⟩
    refine ⟨_, rfl, ?_⟩
    simp
    refine (law_program_ok ht).go ?_
    rintro _ s1 ⟨P, rfl, hP, h1⟩
    simp
    have hnd := hP.nd90
    refine law_meaning_ok hP.ok hnd ?_
    intro s2 g2 k2
    have hlt1 := h1.tw.lt
    have tw2 : Tw 1 0 s2 := by
      obtain ⟨hne, ⟨k, rest, hrest, hk⟩, xs, hx, hr⟩ := h1.tw
      exact ⟨hne, ⟨k, rest, hrest, by rw [k2 1 (by omega)]; exact hk⟩, xs, hx, by rw [k2 0 (by omega)]; exact hr⟩
    obtain ⟨f, hf⟩ : ∃ f, P[0]? = some f := ⟨_, List.getElem?_eq_getElem (by have := hP.ok.l1; omega)⟩
    have hfl : f.1 = 0 := hP.ok.fst f hf
    refine ⟨fun hc => ?_, fun hc => ?_⟩
    · simp
      refine is_program_ok hP.ok ?_
      simp [loopP]
      exact tw2
    · simp
      refine is_program_ok hP.ok ?_
      simp
      refine (meaning_ok (P := P) (g := 0) (args := []) (ws := .tup []) hP.ok ⟨f, hf, hfl⟩ (by simp) (.inl rfl) hnd (by omega) ?_).go fun _ _ h => h
      intro s3 g3 k3
      have hok := fnEv_ok' hP.ok hf hfl
      obtain ⟨hle, x', hx', hxl⟩ := fnEv_le P P.length 0 [] [] 0
      have htl : (fnEv P P.length 0 [] [] 0).2.1.length ≤ 400 := by rw [hx']; simp; omega
      have tw3 : Tw 1 0 s3 := by
        have := tw2.lt
        obtain ⟨hne, ⟨k, rest, hrest, hk⟩, xs, hx, hr⟩ := tw2
        exact ⟨hne, ⟨k, rest, hrest, by rw [k3 1 (by omega)]; exact hk⟩, xs, hx, by rw [k3 0 (by omega)]; exact hr⟩
      generalize fnEv P P.length 0 [] [] 0 = R at hok htl ⊢
      obtain ⟨e, told, cnt⟩ := R
      have hpl : pl 60 (.tup [e.da, .lst (told.map Da.int)]) = true := by
        have : plL 58 (told.map Da.int) = true := by
          rw [plL_all, List.all_eq_true]
          intro y hy
          obtain ⟨v, _, rfl⟩ := List.mem_map.mp hy
          simp
        cases e <;> simp [this]
      simp
      rw [wq_ne hpl hpl, deq_refl hpl]
      have key : ∀ (v : Int) (d : Da), Wq (f__law_whole_list [.lst (told.map Da.int)]) s3 (fun d s => d = .bl true ∧ s = s3) noEx := by
        intro v d
        unfold f__law_whole_list m__law_whole_list
        simp [startS, isTn]
        refine wq_compM (g := fun _ => .bl true) (by dsimp only at htl; omega) ?_ ?_
        · intro w hw
          refine ⟨_, rfl, ?_⟩
          simp
          unfold f__law_whole m__law_whole
          simp [startS, isTn]
        · simp [wq_allT]
      have kw : ∀ (v : Int) {post : Da → Store → Prop} {ex : Str → List Da → Store → Prop}, post (.bl true) s3 → Wq (f__law_whole [.int v]) s3 post ex := by
        intro v post ex h
        unfold f__law_whole m__law_whole
        simpa [startS, isTn] using h
      cases e with
      | on => exact absurd rfl hok.2
      | brk => exact nomatch hok.1
      | ret v =>
        simp [isTn]
        refine (key 0 .non).go ?_
        rintro _ _ ⟨rfl, rfl⟩
        simp
        rw [wq_ix_t (x := .int v) rfl]
        simp
        refine kw v ?_
        simp [loopP]
        exact tw3
      | thr k v =>
        simp [isTn]
        refine (key 0 .non).go ?_
        rintro _ _ ⟨rfl, rfl⟩
        simp
        rw [wq_ix_t (x := .int v) rfl]
        simp
        refine kw v ?_
        simp [loopP]
        exact tw3
  · rintro ro s ⟨ht, o2, o3, o4, o5, rfl⟩
    simp
end CL
namespace CL
open PySem PySem.Spec L2
def top (i : Nat) : Stmt := PySem.Challenge.pw_coldlanes_k01_whole_meaning.main.body.getD i (.Pass ⟨0, 0, 0, 0⟩)
abbrev S_is_whole : Stmt := top 4
abbrev NN_is_whole : List Str := ["thing", "low", "high"]
theorem sc_is_whole : FnScope NN_is_whole ["thing", "low", "high"] (defScope S_is_whole) := ⟨rfl, rfl, rfl, by decide +kernel, rfl, by decide +kernel, by decide +kernel⟩
abbrev S_is_worth : Stmt := top 16
abbrev NN_is_worth : List Str := ["thing", "deep"]
theorem sc_is_worth : FnScope NN_is_worth ["thing", "deep"] (defScope S_is_worth) := ⟨rfl, rfl, rfl, by decide +kernel, rfl, by decide +kernel, by decide +kernel⟩
abbrev S_is_call : Stmt := top 19
abbrev NN_is_call : List Str := ["row", "place", "index", "many", "word", "box", "goal", "worths", "one"]
theorem sc_is_call : FnScope NN_is_call ["row", "place"] (defScope S_is_call) := ⟨rfl, rfl, rfl, by decide +kernel, rfl, by decide +kernel, by decide +kernel⟩
abbrev S_is_body : Stmt := top 17
abbrev NN_is_body : List Str := ["thing", "place", "deep", "looped", "row"]
theorem sc_is_body : FnScope NN_is_body ["thing", "place", "deep", "looped"] (defScope S_is_body) := ⟨rfl, rfl, rfl, by decide +kernel, rfl, by decide +kernel, by decide +kernel⟩
abbrev S_is_row : Stmt := top 18
abbrev NN_is_row : List Str := ["row", "place", "deep", "looped", "word", "one"]
theorem sc_is_row : FnScope NN_is_row ["row", "place", "deep", "looped"] (defScope S_is_row) := ⟨rfl, rfl, rfl, by decide +kernel, rfl, by decide +kernel, by decide +kernel⟩
abbrev S_is_try : Stmt := top 20
abbrev NN_is_try : List Str := ["row", "place", "deep", "looped", "word", "body", "handlers", "last", "one"]
theorem sc_is_try : FnScope NN_is_try ["row", "place", "deep", "looped"] (defScope S_is_try) := ⟨rfl, rfl, rfl, by decide +kernel, rfl, by decide +kernel, by decide +kernel⟩
abbrev S_is_program : Stmt := top 21
abbrev NN_is_program : List Str := ["thing", "many", "one", "k"]
theorem sc_is_program : FnScope NN_is_program ["thing"] (defScope S_is_program) := ⟨rfl, rfl, rfl, by decide +kernel, rfl, by decide +kernel, by decide +kernel⟩
abbrev S_look_program : Stmt := top 22
abbrev NN_look_program : List Str := ["thing"]
theorem sc_look_program : FnScope NN_look_program ["thing"] (defScope S_look_program) := ⟨rfl, rfl, rfl, by decide +kernel, rfl, by decide +kernel, by decide +kernel⟩
abbrev S_Plain___init__ : Stmt := inCls (top 26) 0
abbrev NN_Plain___init__ : List Str := ["self", "program"]
theorem sc_Plain___init__ : FnScope NN_Plain___init__ ["self", "program"] (defScope S_Plain___init__) := ⟨rfl, rfl, rfl, by decide +kernel, rfl, by decide +kernel, by decide +kernel⟩
abbrev S_reckoned : Stmt := top 23
abbrev NN_reckoned : List Str := ["sign", "one", "other"]
theorem sc_reckoned : FnScope NN_reckoned ["sign", "one", "other"] (defScope S_reckoned) := ⟨rfl, rfl, rfl, by decide +kernel, rfl, by decide +kernel, by decide +kernel⟩
abbrev S_Plain_worth : Stmt := inCls (top 26) 1
abbrev NN_Plain_worth : List Str := ["self", "thing", "boxes", "one", "other", "found"]
theorem sc_Plain_worth : FnScope NN_Plain_worth ["self", "thing", "boxes"] (defScope S_Plain_worth) := ⟨rfl, rfl, rfl, by decide +kernel, rfl, by decide +kernel, by decide +kernel⟩
abbrev S_Plain_all_rows : Stmt := inCls (top 26) 2
abbrev NN_Plain_all_rows : List Str := ["self", "body", "boxes", "row", "end"]
theorem sc_Plain_all_rows : FnScope NN_Plain_all_rows ["self", "body", "boxes"] (defScope S_Plain_all_rows) := ⟨rfl, rfl, rfl, by decide +kernel, rfl, by decide +kernel, by decide +kernel⟩
abbrev S_Plain_row : Stmt := inCls (top 26) 3
abbrev NN_Plain_row : List Str := ["self", "row", "boxes", "word", "end"]
theorem sc_Plain_row : FnScope NN_Plain_row ["self", "row", "boxes"] (defScope S_Plain_row) := ⟨rfl, rfl, rfl, by decide +kernel, rfl, by decide +kernel, by decide +kernel⟩
abbrev S_Plain_looped : Stmt := inCls (top 26) 4
abbrev NN_Plain_looped : List Str := ["self", "row", "boxes", "turn", "end"]
theorem sc_Plain_looped : FnScope NN_Plain_looped ["self", "row", "boxes"] (defScope S_Plain_looped) := ⟨rfl, rfl, rfl, by decide +kernel, rfl, by decide +kernel, by decide +kernel⟩
abbrev S_Plain_tried : Stmt := inCls (top 26) 5
abbrev NN_Plain_tried : List Str := ["self", "row", "boxes", "word", "body", "handlers", "last", "end", "fit", "other", "kind", "box", "rows", "one"]
theorem sc_Plain_tried : FnScope NN_Plain_tried ["self", "row", "boxes"] (defScope S_Plain_tried) := ⟨rfl, rfl, rfl, by decide +kernel, rfl, by decide +kernel, by decide +kernel⟩
abbrev S_Plain_called : Stmt := inCls (top 26) 6
abbrev NN_Plain_called : List Str := ["self", "row", "boxes", "word", "box", "goal", "worths", "own", "one", "end"]
theorem sc_Plain_called : FnScope NN_Plain_called ["self", "row", "boxes"] (defScope S_Plain_called) := ⟨rfl, rfl, rfl, by decide +kernel, rfl, by decide +kernel, by decide +kernel⟩
abbrev S_Plain_function : Stmt := inCls (top 26) 7
abbrev NN_Plain_function : List Str := ["self", "goal", "own", "boxes", "end"]
theorem sc_Plain_function : FnScope NN_Plain_function ["self", "goal", "own"] (defScope S_Plain_function) := ⟨rfl, rfl, rfl, by decide +kernel, rfl, by decide +kernel, by decide +kernel⟩
abbrev S_look_number : Stmt := top 5
abbrev NN_look_number : List Str := ["thing", "low", "high"]
theorem sc_look_number : FnScope NN_look_number ["thing", "low", "high"] (defScope S_look_number) := ⟨rfl, rfl, rfl, by decide +kernel, rfl, by decide +kernel, by decide +kernel⟩
abbrev S_meaning : Stmt := top 27
abbrev NN_meaning : List Str := ["program", "goal", "worths", "plain", "fine", "end", "one"]
theorem sc_meaning : FnScope NN_meaning ["program", "goal", "worths"] (defScope S_meaning) := ⟨rfl, rfl, rfl, by decide +kernel, rfl, by decide +kernel, by decide +kernel⟩
abbrev S__law_town : Stmt := top 29
abbrev NN__law_town : List Str := ["script"]
theorem sc__law_town : FnScope NN__law_town ["script"] (defScope S__law_town) := ⟨rfl, rfl, rfl, by decide +kernel, rfl, by decide +kernel, by decide +kernel⟩
abbrev S__law_draw : Stmt := top 30
abbrev NN__law_draw : List Str := ["town", "many", "row", "at", "cell", "mixed"]
theorem sc__law_draw : FnScope NN__law_draw ["town", "many"] (defScope S__law_draw) := ⟨rfl, rfl, rfl, by decide +kernel, rfl, by decide +kernel, by decide +kernel⟩
abbrev S__law_pick : Stmt := top 31
abbrev NN__law_pick : List Str := ["town", "some"]
theorem sc__law_pick : FnScope NN__law_pick ["town", "some"] (defScope S__law_pick) := ⟨rfl, rfl, rfl, by decide +kernel, rfl, by decide +kernel, by decide +kernel⟩
abbrev S__law_whole : Stmt := top 32
abbrev NN__law_whole : List Str := ["thing"]
theorem sc__law_whole : FnScope NN__law_whole ["thing"] (defScope S__law_whole) := ⟨rfl, rfl, rfl, by decide +kernel, rfl, by decide +kernel, by decide +kernel⟩
abbrev S__law_whole_list : Stmt := top 33
abbrev NN__law_whole_list : List Str := ["thing", "one"]
theorem sc__law_whole_list : FnScope NN__law_whole_list ["thing"] (defScope S__law_whole_list) := ⟨rfl, rfl, rfl, by decide +kernel, rfl, by decide +kernel, by decide +kernel⟩
abbrev S__law_worth : Stmt := top 34
abbrev NN__law_worth : List Str := ["town", "deep", "kind", "sign"]
theorem sc__law_worth : FnScope NN__law_worth ["town", "deep"] (defScope S__law_worth) := ⟨rfl, rfl, rfl, by decide +kernel, rfl, by decide +kernel, by decide +kernel⟩
abbrev S__law_body : Stmt := top 35
abbrev NN__law_body : List Str := ["town", "deep", "looped", "place", "k"]
theorem sc__law_body : FnScope NN__law_body ["town", "deep", "looped", "place"] (defScope S__law_body) := ⟨rfl, rfl, rfl, by decide +kernel, rfl, by decide +kernel, by decide +kernel⟩
abbrev S__law_row : Stmt := top 36
abbrev NN__law_row : List Str := ["town", "deep", "looped", "place", "kind", "handlers", "k", "last", "which"]
theorem sc__law_row : FnScope NN__law_row ["town", "deep", "looped", "place"] (defScope S__law_row) := ⟨rfl, rfl, rfl, by decide +kernel, rfl, by decide +kernel, by decide +kernel⟩
abbrev S__law_rows_of : Stmt := top 37
abbrev NN__law_rows_of : List Str := ["thing"]
theorem sc__law_rows_of : FnScope NN__law_rows_of ["thing"] (defScope S__law_rows_of) := ⟨rfl, rfl, rfl, by decide +kernel, rfl, by decide +kernel, by decide +kernel⟩
abbrev S__law_size : Stmt := top 38
abbrev NN__law_size : List Str := ["body", "way", "out", "found", "row", "word", "end", "one"]
theorem sc__law_size : FnScope NN__law_size ["body", "way", "out"] (defScope S__law_size) := ⟨rfl, rfl, rfl, by decide +kernel, rfl, by decide +kernel, by decide +kernel⟩
abbrev S__law_program : Stmt := top 39
abbrev NN__law_program : List Str := ["town", "many", "found", "k", "body", "handler", "last", "one", "many_of"]
theorem sc__law_program : FnScope NN__law_program ["town"] (defScope S__law_program) := ⟨rfl, rfl, rfl, by decide +kernel, rfl, by decide +kernel, by decide +kernel⟩
abbrev S__law_reckon : Stmt := top 40
abbrev NN__law_reckon : List Str := ["own", "thing", "boxes", "one", "two", "found"]
theorem sc__law_reckon : FnScope NN__law_reckon ["own", "thing", "boxes"] (defScope S__law_reckon) := ⟨rfl, rfl, rfl, by decide +kernel, rfl, by decide +kernel, by decide +kernel⟩
abbrev S__law_rows : Stmt := top 41
abbrev NN__law_rows : List Str := ["own", "rows", "boxes", "row", "end"]
theorem sc__law_rows : FnScope NN__law_rows ["own", "rows", "boxes"] (defScope S__law_rows) := ⟨rfl, rfl, rfl, by decide +kernel, rfl, by decide +kernel, by decide +kernel⟩
abbrev S__law_do : Stmt := top 42
abbrev NN__law_do : List Str := ["own", "row", "boxes", "word", "end", "turn"]
theorem sc__law_do : FnScope NN__law_do ["own", "row", "boxes"] (defScope S__law_do) := ⟨rfl, rfl, rfl, by decide +kernel, rfl, by decide +kernel, by decide +kernel⟩
abbrev S__law_try : Stmt := top 43
abbrev NN__law_try : List Str := ["own", "row", "boxes", "word", "body", "handlers", "last", "end", "fit", "other", "one"]
theorem sc__law_try : FnScope NN__law_try ["own", "row", "boxes"] (defScope S__law_try) := ⟨rfl, rfl, rfl, by decide +kernel, rfl, by decide +kernel, by decide +kernel⟩
abbrev S__law_call : Stmt := top 44
abbrev NN__law_call : List Str := ["own", "row", "boxes", "word", "box", "which", "numbers_in", "first", "one", "end"]
theorem sc__law_call : FnScope NN__law_call ["own", "row", "boxes"] (defScope S__law_call) := ⟨rfl, rfl, rfl, by decide +kernel, rfl, by decide +kernel, by decide +kernel⟩
abbrev S__law_meaning : Stmt := top 45
abbrev NN__law_meaning : List Str := ["program", "own", "end"]
theorem sc__law_meaning : FnScope NN__law_meaning ["program"] (defScope S__law_meaning) := ⟨rfl, rfl, rfl, by decide +kernel, rfl, by decide +kernel, by decide +kernel⟩
abbrev S_law : Stmt := top 46
abbrev NN_law : List Str := ["script", "town", "turn", "program", "due", "told"]
theorem sc_law : FnScope NN_law ["script"] (defScope S_law) := ⟨rfl, rfl, rfl, by decide +kernel, rfl, by decide +kernel, by decide +kernel⟩
structure Tx (K : PySem.W.Frag) (mg : Str → Option Value) : Prop where
  n_all : mg "all" = none
  n_bool : mg "bool" = none
  n_int : mg "int" = none
  n_isinstance : mg "isinstance" = none
  n_len : mg "len" = none
  n_list : mg "list" = none
  n_min : mg "min" = none
  n_range : mg "range" = none
  n_str : mg "str" = none
  n_sum : mg "sum" = none
  n_tuple : mg "tuple" = none
  c_MOST_VALUE : ∃ t, mg "MOST_VALUE" = some (.int 999 t)
  c_BOXES : ∃ t, mg "BOXES" = some (.int 8 t)
  c_KINDS : ∃ t, mg "KINDS" = some (.int 5 t)
  c_FAULT : ∃ t, mg "FAULT" = some (.int 0 t)
  c_MOST_FUNCTIONS : ∃ t, mg "MOST_FUNCTIONS" = some (.int 5 t)
  c_MOST_ROWS : ∃ t, mg "MOST_ROWS" = some (.int 8 t)
  c_MOST_DEEP : ∃ t, mg "MOST_DEEP" = some (.int 6 t)
  c_SIGNS : mg "SIGNS" = some (.ref (He.ga K "SIGNS"))
  r_SIGNS : ∀ w, Em K w → Rep K w (.ref (He.ga K "SIGNS")) (.tup [(.str "+"), (.str "-"), (.str "*"), (.str "/")])
  c_LONGS : mg "LONGS" = some (.ref (He.ga K "LONGS"))
  r_LONGS : ∀ w, Em K w → Rep K w (.ref (He.ga K "LONGS")) (.tup [(.tup [(.str "set"), (.int 3)]), (.tup [(.str "out"), (.int 2)]), (.tup [(.str "throw"), (.int 3)]), (.tup [(.str "call"), (.int 4)]), (.tup [(.str "if"), (.int 4)]), (.tup [(.str "loop"), (.int 3)]), (.tup [(.str "break"), (.int 1)]), (.tup [(.str "return"), (.int 2)]), (.tup [(.str "try"), (.int 4)])])
  c_ON : mg "ON" = some (.ref (He.ga K "ON"))
  r_ON : ∀ w, Em K w → Rep K w (.ref (He.ga K "ON")) (.tup [(.str "on")])
  w_meaning_worths : ∀ w, Em K w → Rep K w (.ref (kwA ("meaning", none) "worths" K)) (.tup [])
  q_Plain_told : ClsF K ["Plain"] "told"
  q_Plain_program : ClsF K ["Plain"] "program"
  d_is_whole : mg "is_whole" = some (.ref (He.ga K "is_whole")) ∧ ∃ fd, FunD K "is_whole" "is_whole" (defArgs S_is_whole) (defBody S_is_whole) (defScope S_is_whole) [] [] (He.ga K "is_whole") fd
  d_is_worth : mg "is_worth" = some (.ref (He.ga K "is_worth")) ∧ ∃ fd, FunD K "is_worth" "is_worth" (defArgs S_is_worth) (defBody S_is_worth) (defScope S_is_worth) [(.int 0)] [] (He.ga K "is_worth") fd
  d_is_call : mg "is_call" = some (.ref (He.ga K "is_call")) ∧ ∃ fd, FunD K "is_call" "is_call" (defArgs S_is_call) (defBody S_is_call) (defScope S_is_call) [] [] (He.ga K "is_call") fd
  d_is_body : mg "is_body" = some (.ref (He.ga K "is_body")) ∧ ∃ fd, FunD K "is_body" "is_body" (defArgs S_is_body) (defBody S_is_body) (defScope S_is_body) [] [] (He.ga K "is_body") fd
  d_is_row : mg "is_row" = some (.ref (He.ga K "is_row")) ∧ ∃ fd, FunD K "is_row" "is_row" (defArgs S_is_row) (defBody S_is_row) (defScope S_is_row) [] [] (He.ga K "is_row") fd
  d_is_try : mg "is_try" = some (.ref (He.ga K "is_try")) ∧ ∃ fd, FunD K "is_try" "is_try" (defArgs S_is_try) (defBody S_is_try) (defScope S_is_try) [] [] (He.ga K "is_try") fd
  d_is_program : mg "is_program" = some (.ref (He.ga K "is_program")) ∧ ∃ fd, FunD K "is_program" "is_program" (defArgs S_is_program) (defBody S_is_program) (defScope S_is_program) [] [] (He.ga K "is_program") fd
  d_look_program : mg "look_program" = some (.ref (He.ga K "look_program")) ∧ ∃ fd, FunD K "look_program" "look_program" (defArgs S_look_program) (defBody S_look_program) (defScope S_look_program) [] [] (He.ga K "look_program") fd
  d_Plain___init__ : (mg "Plain" = some (.ref (He.ga K "Plain")) ∧ Mk K (He.ga K "Plain") (He.ma K (He.ga K "Plain") "__init__")) ∧ ∃ fd, FunD K "__init__" "Plain.__init__" (defArgs S_Plain___init__) (defBody S_Plain___init__) (defScope S_Plain___init__) [] [] (He.ma K (He.ga K "Plain") "__init__") fd
  d_reckoned : mg "reckoned" = some (.ref (He.ga K "reckoned")) ∧ ∃ fd, FunD K "reckoned" "reckoned" (defArgs S_reckoned) (defBody S_reckoned) (defScope S_reckoned) [] [] (He.ga K "reckoned") fd
  d_Plain_worth : (Cls K (He.ga K "Plain") ∧ Meth K (He.ga K "Plain") "worth" (He.ma K (He.ga K "Plain") "worth")) ∧ ∃ fd, FunD K "worth" "Plain.worth" (defArgs S_Plain_worth) (defBody S_Plain_worth) (defScope S_Plain_worth) [] [] (He.ma K (He.ga K "Plain") "worth") fd
  d_Plain_all_rows : (Cls K (He.ga K "Plain") ∧ Meth K (He.ga K "Plain") "all_rows" (He.ma K (He.ga K "Plain") "all_rows")) ∧ ∃ fd, FunD K "all_rows" "Plain.all_rows" (defArgs S_Plain_all_rows) (defBody S_Plain_all_rows) (defScope S_Plain_all_rows) [] [] (He.ma K (He.ga K "Plain") "all_rows") fd
  d_Plain_row : (Cls K (He.ga K "Plain") ∧ Meth K (He.ga K "Plain") "row" (He.ma K (He.ga K "Plain") "row")) ∧ ∃ fd, FunD K "row" "Plain.row" (defArgs S_Plain_row) (defBody S_Plain_row) (defScope S_Plain_row) [] [] (He.ma K (He.ga K "Plain") "row") fd
  d_Plain_looped : (Cls K (He.ga K "Plain") ∧ Meth K (He.ga K "Plain") "looped" (He.ma K (He.ga K "Plain") "looped")) ∧ ∃ fd, FunD K "looped" "Plain.looped" (defArgs S_Plain_looped) (defBody S_Plain_looped) (defScope S_Plain_looped) [] [] (He.ma K (He.ga K "Plain") "looped") fd
  d_Plain_tried : (Cls K (He.ga K "Plain") ∧ Meth K (He.ga K "Plain") "tried" (He.ma K (He.ga K "Plain") "tried")) ∧ ∃ fd, FunD K "tried" "Plain.tried" (defArgs S_Plain_tried) (defBody S_Plain_tried) (defScope S_Plain_tried) [] [] (He.ma K (He.ga K "Plain") "tried") fd
  d_Plain_called : (Cls K (He.ga K "Plain") ∧ Meth K (He.ga K "Plain") "called" (He.ma K (He.ga K "Plain") "called")) ∧ ∃ fd, FunD K "called" "Plain.called" (defArgs S_Plain_called) (defBody S_Plain_called) (defScope S_Plain_called) [] [] (He.ma K (He.ga K "Plain") "called") fd
  d_Plain_function : (Cls K (He.ga K "Plain") ∧ Meth K (He.ga K "Plain") "function" (He.ma K (He.ga K "Plain") "function")) ∧ ∃ fd, FunD K "function" "Plain.function" (defArgs S_Plain_function) (defBody S_Plain_function) (defScope S_Plain_function) [] [] (He.ma K (He.ga K "Plain") "function") fd
  d_look_number : mg "look_number" = some (.ref (He.ga K "look_number")) ∧ ∃ fd, FunD K "look_number" "look_number" (defArgs S_look_number) (defBody S_look_number) (defScope S_look_number) [] [] (He.ga K "look_number") fd
  d_meaning : mg "meaning" = some (.ref (He.ga K "meaning")) ∧ ∃ fd, FunD K "meaning" "meaning" (defArgs S_meaning) (defBody S_meaning) (defScope S_meaning) [] [("goal", (.int 0)), ("worths", (.ref (kwA ("meaning", none) "worths" K)))] (He.ga K "meaning") fd
  d__law_town : mg "_law_town" = some (.ref (He.ga K "_law_town")) ∧ ∃ fd, FunD K "_law_town" "_law_town" (defArgs S__law_town) (defBody S__law_town) (defScope S__law_town) [] [] (He.ga K "_law_town") fd
  d__law_draw : mg "_law_draw" = some (.ref (He.ga K "_law_draw")) ∧ ∃ fd, FunD K "_law_draw" "_law_draw" (defArgs S__law_draw) (defBody S__law_draw) (defScope S__law_draw) [] [] (He.ga K "_law_draw") fd
  d__law_pick : mg "_law_pick" = some (.ref (He.ga K "_law_pick")) ∧ ∃ fd, FunD K "_law_pick" "_law_pick" (defArgs S__law_pick) (defBody S__law_pick) (defScope S__law_pick) [] [] (He.ga K "_law_pick") fd
  d__law_whole : mg "_law_whole" = some (.ref (He.ga K "_law_whole")) ∧ ∃ fd, FunD K "_law_whole" "_law_whole" (defArgs S__law_whole) (defBody S__law_whole) (defScope S__law_whole) [] [] (He.ga K "_law_whole") fd
  d__law_whole_list : mg "_law_whole_list" = some (.ref (He.ga K "_law_whole_list")) ∧ ∃ fd, FunD K "_law_whole_list" "_law_whole_list" (defArgs S__law_whole_list) (defBody S__law_whole_list) (defScope S__law_whole_list) [] [] (He.ga K "_law_whole_list") fd
  d__law_worth : mg "_law_worth" = some (.ref (He.ga K "_law_worth")) ∧ ∃ fd, FunD K "_law_worth" "_law_worth" (defArgs S__law_worth) (defBody S__law_worth) (defScope S__law_worth) [] [] (He.ga K "_law_worth") fd
  d__law_body : mg "_law_body" = some (.ref (He.ga K "_law_body")) ∧ ∃ fd, FunD K "_law_body" "_law_body" (defArgs S__law_body) (defBody S__law_body) (defScope S__law_body) [] [] (He.ga K "_law_body") fd
  d__law_row : mg "_law_row" = some (.ref (He.ga K "_law_row")) ∧ ∃ fd, FunD K "_law_row" "_law_row" (defArgs S__law_row) (defBody S__law_row) (defScope S__law_row) [] [] (He.ga K "_law_row") fd
  d__law_rows_of : mg "_law_rows_of" = some (.ref (He.ga K "_law_rows_of")) ∧ ∃ fd, FunD K "_law_rows_of" "_law_rows_of" (defArgs S__law_rows_of) (defBody S__law_rows_of) (defScope S__law_rows_of) [] [] (He.ga K "_law_rows_of") fd
  d__law_size : mg "_law_size" = some (.ref (He.ga K "_law_size")) ∧ ∃ fd, FunD K "_law_size" "_law_size" (defArgs S__law_size) (defBody S__law_size) (defScope S__law_size) [] [] (He.ga K "_law_size") fd
  d__law_program : mg "_law_program" = some (.ref (He.ga K "_law_program")) ∧ ∃ fd, FunD K "_law_program" "_law_program" (defArgs S__law_program) (defBody S__law_program) (defScope S__law_program) [] [] (He.ga K "_law_program") fd
  d__law_reckon : mg "_law_reckon" = some (.ref (He.ga K "_law_reckon")) ∧ ∃ fd, FunD K "_law_reckon" "_law_reckon" (defArgs S__law_reckon) (defBody S__law_reckon) (defScope S__law_reckon) [] [] (He.ga K "_law_reckon") fd
  d__law_rows : mg "_law_rows" = some (.ref (He.ga K "_law_rows")) ∧ ∃ fd, FunD K "_law_rows" "_law_rows" (defArgs S__law_rows) (defBody S__law_rows) (defScope S__law_rows) [] [] (He.ga K "_law_rows") fd
  d__law_do : mg "_law_do" = some (.ref (He.ga K "_law_do")) ∧ ∃ fd, FunD K "_law_do" "_law_do" (defArgs S__law_do) (defBody S__law_do) (defScope S__law_do) [] [] (He.ga K "_law_do") fd
  d__law_try : mg "_law_try" = some (.ref (He.ga K "_law_try")) ∧ ∃ fd, FunD K "_law_try" "_law_try" (defArgs S__law_try) (defBody S__law_try) (defScope S__law_try) [] [] (He.ga K "_law_try") fd
  d__law_call : mg "_law_call" = some (.ref (He.ga K "_law_call")) ∧ ∃ fd, FunD K "_law_call" "_law_call" (defArgs S__law_call) (defBody S__law_call) (defScope S__law_call) [] [] (He.ga K "_law_call") fd
  d__law_meaning : mg "_law_meaning" = some (.ref (He.ga K "_law_meaning")) ∧ ∃ fd, FunD K "_law_meaning" "_law_meaning" (defArgs S__law_meaning) (defBody S__law_meaning) (defScope S__law_meaning) [] [] (He.ga K "_law_meaning") fd
  d_law : mg "law" = some (.ref (He.ga K "law")) ∧ ∃ fd, FunD K "law" "law" (defArgs S_law) (defBody S_law) (defScope S_law) [] [] (He.ga K "law") fd
section
variable {P : Program} {wd : World} {K : PySem.W.Frag} {mg : Str → Option Value} {base : Heap}
theorem okf_is_whole (T : Tx K mg) {fd : FuncData} (F : FunD K "is_whole" "is_whole" (defArgs S_is_whole) (defBody S_is_whole) (defScope S_is_whole) [] [] (He.ga K "is_whole") fd)   : FnOk P wd K mg base (L2.CX P wd) (1) (He.ga K "is_whole") fd ["thing", "low", "high"] (SpOf K 3 f_is_whole) := by
  refine ok_of F sc_is_whole rfl rfl fun cdv A outer s H E hr => ?_
  have nd := sc_is_whole.nd
  have hx : ∀ σ, PassesAt (L2.CX P wd) (cxOf (L2.CX P wd) P wd K mg base NN_is_whole "is_whole" (defScope S_is_whole) (He.ga K "is_whole") cdv A outer s H E) σ E := fun σ => passAt (W := fun cls d _ H => E cls d H) (takes_of rfl rfl rfl rfl) σ
  have hx0 : ∀ {X : Cx} (σ : L2.St), PassesAt (L2.CX X.prog X.w) X σ E0 := fun σ pins H s e s' I c => passL pins σ H s e s' I c
  have po : PassesOwn (model P wd) (cxOf (L2.CX P wd) P wd K mg base NN_is_whole "is_whole" (defScope S_is_whole) (He.ga K "is_whole") cdv A outer s H E).A (cxOf (L2.CX P wd) P wd K mg base NN_is_whole "is_whole" (defScope S_is_whole) (He.ga K "is_whole") cdv A outer s H E).env (cxOf (L2.CX P wd) P wd K mg base NN_is_whole "is_whole" (defScope S_is_whole) (He.ga K "is_whole") cdv A outer s H E).xe := passes_of rfl
  have qq : QB (cxOf (L2.CX P wd) P wd K mg base NN_is_whole "is_whole" (defScope S_is_whole) (He.ga K "is_whole") cdv A outer s H E) (fun _ => E) (defBody S_is_whole) _ (m_is_whole ) :=
  (qb_one (qs_ret (q_and (q_isi .int T.n_isinstance T.n_int (q_var 0)) (q_and (q_not (q_isi .bool T.n_isinstance T.n_bool (q_var 0))) (q_one (q_chain q_le q_le (q_var 1) (q_var 0) (q_var 2)))))))
  exact ⟨_, qq.ps, qq.ss⟩
theorem ok_is_whole (T : Tx K mg)   : Cal P wd K mg base (1) "is_whole" 3 f_is_whole [] := by
  obtain ⟨h1, fd, F⟩ := T.d_is_whole
  exact ⟨⟨_, fd, _, [], h1, F.kp, F.bindsN (ps := ["thing", "low", "high"]) fun _ _ _ _ _ _ us hl => match us, hl with | [_, _, _], _ => rfl, .nil, okf_is_whole T F  ⟩⟩
theorem okf_is_worth (T : Tx K mg) {fd : FuncData} (F : FunD K "is_worth" "is_worth" (defArgs S_is_worth) (defBody S_is_worth) (defScope S_is_worth) [(.int 0)] [] (He.ga K "is_worth") fd) {k : Nat} (hk : 1 ≤ k) {g_is_worth : List Da → Mo Da} (C_is_whole : Cal P wd K mg base 1 "is_whole" 3 f_is_whole []) (C_is_worth : Cal P wd K mg base k "is_worth" 2 g_is_worth []) : FnOk P wd K mg base (L2.CX P wd) (k + 1) (He.ga K "is_worth") fd ["thing", "deep"] (SpOf K 2 (fnM 2 (m_is_worth f_is_whole g_is_worth))) := by
  refine ok_of F sc_is_worth rfl rfl fun cdv A outer s H E hr => ?_
  have nd := sc_is_worth.nd
  have hx : ∀ σ, PassesAt (L2.CX P wd) (cxOf (L2.CX P wd) P wd K mg base NN_is_worth "is_worth" (defScope S_is_worth) (He.ga K "is_worth") cdv A outer s H E) σ E := fun σ => passAt (W := fun cls d _ H => E cls d H) (takes_of rfl rfl rfl rfl) σ
  have hx0 : ∀ {X : Cx} (σ : L2.St), PassesAt (L2.CX X.prog X.w) X σ E0 := fun σ pins H s e s' I c => passL pins σ H s e s' I c
  have po : PassesOwn (model P wd) (cxOf (L2.CX P wd) P wd K mg base NN_is_worth "is_worth" (defScope S_is_worth) (He.ga K "is_worth") cdv A outer s H E).A (cxOf (L2.CX P wd) P wd K mg base NN_is_worth "is_worth" (defScope S_is_worth) (He.ga K "is_worth") cdv A outer s H E).env (cxOf (L2.CX P wd) P wd K mg base NN_is_worth "is_worth" (defScope S_is_worth) (He.ga K "is_worth") cdv A outer s H E).xe := passes_of rfl
  have qq : QB (cxOf (L2.CX P wd) P wd K mg base NN_is_worth "is_worth" (defScope S_is_worth) (He.ga K "is_worth") cdv A outer s H E) (fun _ => E) (defBody S_is_worth) _ (m_is_worth f_is_whole g_is_worth) :=
  (qb_cons (qs_if (qt_cmp q_gt (q_var 1) (q_gint T.c_MOST_DEEP)) (qb_one (qs_ret q_bl)) qb_nil)
  (qb_cons (qs_if (qt_val (q_call C_is_whole (hr.mono (by omega)) hx (qa_cons (q_var 0) (qa_cons q_int (qa_cons (q_gint T.c_MOST_VALUE) qa_nil))))) (qb_one (qs_ret q_bl)) qb_nil)
  (qb_cons (qs_if (qt_not (qt_val (q_isi .tuple T.n_isinstance T.n_tuple (q_var 0)))) (qb_one (qs_ret q_bl)) qb_nil)
  (qb_cons (qs_if (qt_cmp (q_eq hr.units) (q_len T.n_len (qa_cons (q_var 0) qa_nil)) q_int) (qb_one (qs_ret (q_and (q_cmp (q_eq hr.units) (q_sub1 (q_var 0) q_int) q_str) (q_one (q_call C_is_whole (hr.mono (by omega)) hx (qa_cons (q_sub1 (q_var 0) q_int) (qa_cons q_int (qa_cons (q_op q_sub (q_gint T.c_BOXES) q_int) qa_nil)))))))) qb_nil)
  (qb_cons (qs_if (qt_w (qw_or (qt_cmp (q_ne hr.units) (q_len T.n_len (qa_cons (q_var 0) qa_nil)) q_int) (qw_or (qt_not (qt_val (q_isi .str T.n_isinstance T.n_str (q_sub1 (q_var 0) q_int)))) (qw_or1 (qt_cmp (q_notInU (room1 hr)) (q_sub1 (q_var 0) q_int) (q_gdat T.c_SIGNS T.r_SIGNS)))))) (qb_one (qs_ret q_bl)) qb_nil)
  (qb_one (qs_ret (q_and (q_call C_is_worth (hr.mono (by omega)) hx (qa_cons (q_sub1 (q_var 0) q_int) (qa_cons (q_op q_add (q_var 1) q_int) qa_nil))) (q_one (q_call C_is_worth (hr.mono (by omega)) hx (qa_cons (q_sub1 (q_var 0) q_int) (qa_cons (q_op q_add (q_var 1) q_int) qa_nil))))))))))))
  exact ⟨_, qq.ps, qq.ss⟩
theorem ok_is_worth (T : Tx K mg) {k : Nat} (hk : 1 ≤ k) {g_is_worth : List Da → Mo Da} (C_is_whole : Cal P wd K mg base 1 "is_whole" 3 f_is_whole []) (C_is_worth : Cal P wd K mg base k "is_worth" 2 g_is_worth []) : Cal P wd K mg base (k + 1) "is_worth" 2 (fnM 2 (m_is_worth f_is_whole g_is_worth)) [] := by
  obtain ⟨h1, fd, F⟩ := T.d_is_worth
  obtain ⟨ds, hv, hb⟩ := F.binds1 (ps := ["thing", "deep"]) 2 1 (by simp) rfl fun T kV doc pm an cdv ct us its hl h2 => match us, its, hl, h2 with | [_, _], [_], _, _ => ⟨_, rfl, rfl⟩
  exact ⟨⟨_, fd, _, ds, h1, F.kp, hb, hv, okf_is_worth T F hk C_is_whole C_is_worth⟩⟩
theorem ok_is_worth_d1 (T : Tx K mg) {k : Nat} (hk : 1 ≤ k) {g_is_worth : List Da → Mo Da} (C_is_whole : Cal P wd K mg base 1 "is_whole" 3 f_is_whole []) (C_is_worth : Cal P wd K mg base k "is_worth" 2 g_is_worth []) : Cal P wd K mg base (k + 1) "is_worth" 2 (fnM 2 (m_is_worth f_is_whole g_is_worth)) [(.int 0)] := by
  obtain ⟨h1, fd, F⟩ := T.d_is_worth
  obtain ⟨ds, hv, hb⟩ := F.binds1 (ps := ["thing", "deep"]) 1 0 (by simp) rfl fun T kV doc pm an cdv ct us its hl h2 => match us, its, hl, h2 with | [_], [_], _, _ => ⟨_, rfl, rfl⟩
  exact ⟨⟨_, fd, _, ds, h1, F.kp, hb, hv, okf_is_worth T F hk C_is_whole C_is_worth⟩⟩
theorem z_is_worth (T : Tx K mg) : Cal P wd K mg base 1 "is_worth" 2 (f_is_worth 0) [] := by
  obtain ⟨h1, fd, F⟩ := T.d_is_worth
  obtain ⟨ds, hv, hb⟩ := F.binds1 (ps := ["thing", "deep"]) 2 1 (by simp) rfl fun T kV doc pm an cdv ct us its hl h2 => match us, its, hl, h2 with | [_, _], [_], _, _ => ⟨_, rfl, rfl⟩
  exact ⟨⟨_, fd, _, ds, h1, F.kp, hb, hv, fn0 (k := 0) F sc_is_worth rfl⟩⟩
theorem z_is_worth_d1 (T : Tx K mg) : Cal P wd K mg base 1 "is_worth" 2 (f_is_worth 0) [(.int 0)] := by
  obtain ⟨h1, fd, F⟩ := T.d_is_worth
  obtain ⟨ds, hv, hb⟩ := F.binds1 (ps := ["thing", "deep"]) 1 0 (by simp) rfl fun T kV doc pm an cdv ct us its hl h2 => match us, its, hl, h2 with | [_], [_], _, _ => ⟨_, rfl, rfl⟩
  exact ⟨⟨_, fd, _, ds, h1, F.kp, hb, hv, fn0 (k := 0) F sc_is_worth rfl⟩⟩
theorem recs_is_worth (T : Tx K mg) (C_is_whole : Cal P wd K mg base 1 "is_whole" 3 f_is_whole []) : ∀ n : Nat, (Cal P wd K mg base (1 + n) "is_worth" 2 (f_is_worth n) []) ∧ (Cal P wd K mg base (1 + n) "is_worth" 2 (f_is_worth n) [(.int 0)]) := by
  intro n
  induction n with
  | zero => exact ⟨z_is_worth T, z_is_worth_d1 T⟩
  | succ n ih =>
    obtain ⟨C_is_worth, C_is_worth_d1⟩ := ih
    exact ⟨ok_is_worth T (k := 1 + n) (by omega) C_is_whole C_is_worth,
      ok_is_worth_d1 T (k := 1 + n) (by omega) C_is_whole C_is_worth⟩
theorem okf_is_call (T : Tx K mg) {fd : FuncData} (F : FunD K "is_call" "is_call" (defArgs S_is_call) (defBody S_is_call) (defScope S_is_call) [] [] (He.ga K "is_call") fd)  (C_is_whole : Cal P wd K mg base 1 "is_whole" 3 f_is_whole []) (C_is_worth_d1 : Cal P wd K mg base 11 "is_worth" 2 (f_is_worth 10) [(.int 0)]) : FnOk P wd K mg base (L2.CX P wd) (12) (He.ga K "is_call") fd ["row", "place"] (SpOf K 2 f_is_call) := by
  refine ok_of F sc_is_call rfl rfl fun cdv A outer s H E hr => ?_
  have nd := sc_is_call.nd
  have hx : ∀ σ, PassesAt (L2.CX P wd) (cxOf (L2.CX P wd) P wd K mg base NN_is_call "is_call" (defScope S_is_call) (He.ga K "is_call") cdv A outer s H E) σ E := fun σ => passAt (W := fun cls d _ H => E cls d H) (takes_of rfl rfl rfl rfl) σ
  have hx0 : ∀ {X : Cx} (σ : L2.St), PassesAt (L2.CX X.prog X.w) X σ E0 := fun σ pins H s e s' I c => passL pins σ H s e s' I c
  have po : PassesOwn (model P wd) (cxOf (L2.CX P wd) P wd K mg base NN_is_call "is_call" (defScope S_is_call) (He.ga K "is_call") cdv A outer s H E).A (cxOf (L2.CX P wd) P wd K mg base NN_is_call "is_call" (defScope S_is_call) (He.ga K "is_call") cdv A outer s H E).env (cxOf (L2.CX P wd) P wd K mg base NN_is_call "is_call" (defScope S_is_call) (He.ga K "is_call") cdv A outer s H E).xe := passes_of rfl
  have qq : QB (cxOf (L2.CX P wd) P wd K mg base NN_is_call "is_call" (defScope S_is_call) (He.ga K "is_call") cdv A outer s H E) (fun _ => E) (defBody S_is_call) _ (m_is_call f_is_whole (f_is_worth 10)) :=
  (qb_cons (qs_tgt (qg_tup 2 (by rfl) (qgs_cons (qg_name 2 nd) (qgs_cons (qg_name 3 nd) qgs_nil))) (q_var 1))
  (qb_cons (qs_tgt (qg_tup 4 (by rfl) (qgs_cons (qg_name 4 nd) (qgs_cons (qg_name 5 nd) (qgs_cons (qg_name 6 nd) (qgs_cons (qg_name 7 nd) qgs_nil))))) (q_var 0))
  (qb_cons (qs_if (qt_w (qw_or (qt_not (qt_val (q_call C_is_whole (hr.mono (by omega)) hx (qa_cons (q_var 5) (qa_cons q_int (qa_cons (q_op q_sub (q_gint T.c_BOXES) q_int) qa_nil)))))) (qw_or (qt_not (qt_val (q_call C_is_whole (hr.mono (by omega)) hx (qa_cons (q_var 6) (qa_cons (q_op q_add (q_var 2) q_int) (qa_cons (q_op q_sub (q_len T.n_len (qa_cons (q_var 3) qa_nil)) q_int) qa_nil)))))) (qw_or1 (qt_not (qt_val (q_isi .list T.n_isinstance T.n_list (q_var 7)))))))) (qb_one (qs_ret q_bl)) qb_nil)
  (qb_one (qs_ret (q_and (q_cmp (q_eq hr.units) (q_len T.n_len (qa_cons (q_var 7) qa_nil)) (q_sub1 (q_var 3) (q_var 6))) (q_one (q_all (by rfl) T.n_all (qa_cons (q_L (by exact ql_comp (by rfl) nd (qi_v (q_var 7)) (blkOk_by (own := [("one", 8)]) (N := NN_is_call) (sc := defScope S_is_call) (by decide +kernel)) (fun _ _ _ _ _ => (qg_name 8 nd)) (fun _ _ _ _ _ => qts_nil) (fun _ _ _ _ _ => (q_call C_is_worth_d1 (hr.mono (by omega)) hx0 (qa_cons (q_var 8) qa_nil) (hdd := fun w m => (.cons (.int _) .nil)))))) qa_nil)))))))))
  exact ⟨_, qq.ps, qq.ss⟩
theorem ok_is_call (T : Tx K mg)  (C_is_whole : Cal P wd K mg base 1 "is_whole" 3 f_is_whole []) (C_is_worth_d1 : Cal P wd K mg base 11 "is_worth" 2 (f_is_worth 10) [(.int 0)]) : Cal P wd K mg base (12) "is_call" 2 f_is_call [] := by
  obtain ⟨h1, fd, F⟩ := T.d_is_call
  exact ⟨⟨_, fd, _, [], h1, F.kp, F.bindsN (ps := ["row", "place"]) fun _ _ _ _ _ _ us hl => match us, hl with | [_, _], _ => rfl, .nil, okf_is_call T F  C_is_whole C_is_worth_d1⟩⟩
theorem okf_is_body (T : Tx K mg) {fd : FuncData} (F : FunD K "is_body" "is_body" (defArgs S_is_body) (defBody S_is_body) (defScope S_is_body) [] [] (He.ga K "is_body") fd) {k : Nat} (hk : 12 ≤ k) {g_is_row : List Da → Mo Da} (C_is_row : Cal P wd K mg base k "is_row" 4 g_is_row []) : FnOk P wd K mg base (L2.CX P wd) (k + 1) (He.ga K "is_body") fd ["thing", "place", "deep", "looped"] (SpOf K 4 (fnM 5 (m_is_body g_is_row))) := by
  refine ok_of F sc_is_body rfl rfl fun cdv A outer s H E hr => ?_
  have nd := sc_is_body.nd
  have hx : ∀ σ, PassesAt (L2.CX P wd) (cxOf (L2.CX P wd) P wd K mg base NN_is_body "is_body" (defScope S_is_body) (He.ga K "is_body") cdv A outer s H E) σ E := fun σ => passAt (W := fun cls d _ H => E cls d H) (takes_of rfl rfl rfl rfl) σ
  have hx0 : ∀ {X : Cx} (σ : L2.St), PassesAt (L2.CX X.prog X.w) X σ E0 := fun σ pins H s e s' I c => passL pins σ H s e s' I c
  have po : PassesOwn (model P wd) (cxOf (L2.CX P wd) P wd K mg base NN_is_body "is_body" (defScope S_is_body) (He.ga K "is_body") cdv A outer s H E).A (cxOf (L2.CX P wd) P wd K mg base NN_is_body "is_body" (defScope S_is_body) (He.ga K "is_body") cdv A outer s H E).env (cxOf (L2.CX P wd) P wd K mg base NN_is_body "is_body" (defScope S_is_body) (He.ga K "is_body") cdv A outer s H E).xe := passes_of rfl
  have qq : QB (cxOf (L2.CX P wd) P wd K mg base NN_is_body "is_body" (defScope S_is_body) (He.ga K "is_body") cdv A outer s H E) (fun _ => E) (defBody S_is_body) _ (m_is_body g_is_row) :=
  (qb_cons (qs_if (qt_w (qw_or (qt_not (qt_val (q_isi .list T.n_isinstance T.n_list (q_var 0)))) (qw_or (qt_cmp q_gt (q_len T.n_len (qa_cons (q_var 0) qa_nil)) (q_gint T.c_MOST_ROWS)) (qw_or1 (qt_cmp q_gt (q_var 2) (q_gint T.c_MOST_DEEP)))))) (qb_one (qs_ret q_bl)) qb_nil)
  (qb_one (qs_ret (q_all (by rfl) T.n_all (qa_cons (q_L (by exact ql_comp (by rfl) nd (qi_v (q_var 0)) (blkOk_by (own := [("row", 4)]) (N := NN_is_body) (sc := defScope S_is_body) (by decide +kernel)) (fun _ _ _ _ _ => (qg_name 4 nd)) (fun _ _ _ _ _ => qts_nil) (fun _ _ _ _ _ => (q_call C_is_row (hr.mono (by omega)) hx0 (qa_cons (q_var 4) (qa_cons (q_var 1) (qa_cons (q_var 2) (qa_cons (q_var 3) qa_nil)))))))) qa_nil)))))
  exact ⟨_, qq.ps, qq.ss⟩
theorem ok_is_body (T : Tx K mg) {k : Nat} (hk : 12 ≤ k) {g_is_row : List Da → Mo Da} (C_is_row : Cal P wd K mg base k "is_row" 4 g_is_row []) : Cal P wd K mg base (k + 1) "is_body" 4 (fnM 5 (m_is_body g_is_row)) [] := by
  obtain ⟨h1, fd, F⟩ := T.d_is_body
  exact ⟨⟨_, fd, _, [], h1, F.kp, F.bindsN (ps := ["thing", "place", "deep", "looped"]) fun _ _ _ _ _ _ us hl => match us, hl with | [_, _, _, _], _ => rfl, .nil, okf_is_body T F hk C_is_row⟩⟩
theorem okf_is_row (T : Tx K mg) {fd : FuncData} (F : FunD K "is_row" "is_row" (defArgs S_is_row) (defBody S_is_row) (defScope S_is_row) [] [] (He.ga K "is_row") fd) {k : Nat} (hk : 12 ≤ k) {g_is_body : List Da → Mo Da} {g_is_try : List Da → Mo Da} (C_is_worth_d1 : Cal P wd K mg base 11 "is_worth" 2 (f_is_worth 10) [(.int 0)]) (C_is_whole : Cal P wd K mg base 1 "is_whole" 3 f_is_whole []) (C_is_call : Cal P wd K mg base 12 "is_call" 2 f_is_call []) (C_is_body : Cal P wd K mg base k "is_body" 4 g_is_body []) (C_is_try : Cal P wd K mg base k "is_try" 4 g_is_try []) : FnOk P wd K mg base (L2.CX P wd) (k + 1) (He.ga K "is_row") fd ["row", "place", "deep", "looped"] (SpOf K 4 (fnM 6 (m_is_row (f_is_worth 10) f_is_whole f_is_call g_is_body g_is_try))) := by
  refine ok_of F sc_is_row rfl rfl fun cdv A outer s H E hr => ?_
  have nd := sc_is_row.nd
  have hx : ∀ σ, PassesAt (L2.CX P wd) (cxOf (L2.CX P wd) P wd K mg base NN_is_row "is_row" (defScope S_is_row) (He.ga K "is_row") cdv A outer s H E) σ E := fun σ => passAt (W := fun cls d _ H => E cls d H) (takes_of rfl rfl rfl rfl) σ
  have hx0 : ∀ {X : Cx} (σ : L2.St), PassesAt (L2.CX X.prog X.w) X σ E0 := fun σ pins H s e s' I c => passL pins σ H s e s' I c
  have po : PassesOwn (model P wd) (cxOf (L2.CX P wd) P wd K mg base NN_is_row "is_row" (defScope S_is_row) (He.ga K "is_row") cdv A outer s H E).A (cxOf (L2.CX P wd) P wd K mg base NN_is_row "is_row" (defScope S_is_row) (He.ga K "is_row") cdv A outer s H E).env (cxOf (L2.CX P wd) P wd K mg base NN_is_row "is_row" (defScope S_is_row) (He.ga K "is_row") cdv A outer s H E).xe := passes_of rfl
  have qq : QB (cxOf (L2.CX P wd) P wd K mg base NN_is_row "is_row" (defScope S_is_row) (He.ga K "is_row") cdv A outer s H E) (fun _ => E) (defBody S_is_row) _ (m_is_row (f_is_worth 10) f_is_whole f_is_call g_is_body g_is_try) :=
  (qb_cons (qs_if (qt_w (qw_or (qt_not (qt_val (q_isi .tuple T.n_isinstance T.n_tuple (q_var 0)))) (qw_or (qt_cmp (q_eq hr.units) (q_var 0) (q_tup qa_nil)) (qw_or (qt_not (qt_val (q_isi .str T.n_isinstance T.n_str (q_sub1 (q_var 0) q_int)))) (qw_or1 (qt_cmp (q_notInU (room1 hr)) (q_tup (qa_cons (q_sub1 (q_var 0) q_int) (qa_cons (q_len T.n_len (qa_cons (q_var 0) qa_nil)) qa_nil))) (q_gdat T.c_LONGS T.r_LONGS))))))) (qb_one (qs_ret q_bl)) qb_nil)
  (qb_cons (qs_set 4 nd (q_sub1 (q_var 0) q_int))
  (qb_cons (qs_if (qt_cmp (q_inU (room1 hr)) (q_var 4) (q_tup (qa_cons q_str (qa_cons q_str qa_nil)))) (qb_one (qs_ret (q_call C_is_worth_d1 (hr.mono (by omega)) hx (qa_cons (q_sub1 (q_var 0) q_int) qa_nil) (hdd := fun w m => (.cons (.int _) .nil))))) qb_nil)
  (qb_cons (qs_if (qt_cmp (q_eq hr.units) (q_var 4) q_str) (qb_one (qs_ret (q_and (q_call C_is_whole (hr.mono (by omega)) hx (qa_cons (q_sub1 (q_var 0) q_int) (qa_cons q_int (qa_cons (q_op q_sub (q_gint T.c_BOXES) q_int) qa_nil)))) (q_one (q_call C_is_worth_d1 (hr.mono (by omega)) hx (qa_cons (q_sub1 (q_var 0) q_int) qa_nil) (hdd := fun w m => (.cons (.int _) .nil))))))) qb_nil)
  (qb_cons (qs_if (qt_cmp (q_eq hr.units) (q_var 4) q_str) (qb_one (qs_ret (q_and (q_call C_is_whole (hr.mono (by omega)) hx (qa_cons (q_sub1 (q_var 0) q_int) (qa_cons q_int (qa_cons (q_op q_sub (q_gint T.c_KINDS) q_int) qa_nil)))) (q_one (q_call C_is_worth_d1 (hr.mono (by omega)) hx (qa_cons (q_sub1 (q_var 0) q_int) qa_nil) (hdd := fun w m => (.cons (.int _) .nil))))))) qb_nil)
  (qb_cons (qs_if (qt_cmp (q_eq hr.units) (q_var 4) q_str) (qb_one (qs_ret (q_call C_is_call (hr.mono (by omega)) hx (qa_cons (q_var 0) (qa_cons (q_var 1) qa_nil))))) qb_nil)
  (qb_cons (qs_if (qt_cmp (q_eq hr.units) (q_var 4) q_str) (qb_one (qs_ret (q_and (q_call C_is_worth_d1 (hr.mono (by omega)) hx (qa_cons (q_sub1 (q_var 0) q_int) qa_nil) (hdd := fun w m => (.cons (.int _) .nil))) (q_one (q_all (by rfl) T.n_all (qa_cons (q_L (by exact ql_comp (by rfl) nd (qi_v (q_slice (q_var 0) (qp_some q_int) qp_none)) (blkOk_by (own := [("one", 5)]) (N := NN_is_row) (sc := defScope S_is_row) (by decide +kernel)) (fun _ _ _ _ _ => (qg_name 5 nd)) (fun _ _ _ _ _ => qts_nil) (fun _ _ _ _ _ => (q_call C_is_body (hr.mono (by omega)) hx0 (qa_cons (q_var 5) (qa_cons (q_var 1) (qa_cons (q_op q_add (q_var 2) q_int) (qa_cons (q_var 3) qa_nil)))))))) qa_nil)))))) qb_nil)
  (qb_cons (qs_if (qt_cmp (q_eq hr.units) (q_var 4) q_str) (qb_one (qs_ret (q_and (q_call C_is_whole (hr.mono (by omega)) hx (qa_cons (q_sub1 (q_var 0) q_int) (qa_cons q_int (qa_cons q_int qa_nil)))) (q_one (q_call C_is_body (hr.mono (by omega)) hx (qa_cons (q_sub1 (q_var 0) q_int) (qa_cons (q_var 1) (qa_cons (q_op q_add (q_var 2) q_int) (qa_cons q_bl qa_nil))))))))) qb_nil)
  (qb_cons (qs_if (qt_cmp (q_eq hr.units) (q_var 4) q_str) (qb_one (qs_ret (q_var 3))) qb_nil)
  (qb_one (qs_ret (q_call C_is_try (hr.mono (by omega)) hx (qa_cons (q_var 0) (qa_cons (q_var 1) (qa_cons (q_var 2) (qa_cons (q_var 3) qa_nil))))))))))))))))
  exact ⟨_, qq.ps, qq.ss⟩
theorem ok_is_row (T : Tx K mg) {k : Nat} (hk : 12 ≤ k) {g_is_body : List Da → Mo Da} {g_is_try : List Da → Mo Da} (C_is_worth_d1 : Cal P wd K mg base 11 "is_worth" 2 (f_is_worth 10) [(.int 0)]) (C_is_whole : Cal P wd K mg base 1 "is_whole" 3 f_is_whole []) (C_is_call : Cal P wd K mg base 12 "is_call" 2 f_is_call []) (C_is_body : Cal P wd K mg base k "is_body" 4 g_is_body []) (C_is_try : Cal P wd K mg base k "is_try" 4 g_is_try []) : Cal P wd K mg base (k + 1) "is_row" 4 (fnM 6 (m_is_row (f_is_worth 10) f_is_whole f_is_call g_is_body g_is_try)) [] := by
  obtain ⟨h1, fd, F⟩ := T.d_is_row
  exact ⟨⟨_, fd, _, [], h1, F.kp, F.bindsN (ps := ["row", "place", "deep", "looped"]) fun _ _ _ _ _ _ us hl => match us, hl with | [_, _, _, _], _ => rfl, .nil, okf_is_row T F hk C_is_worth_d1 C_is_whole C_is_call C_is_body C_is_try⟩⟩
theorem okf_is_try (T : Tx K mg) {fd : FuncData} (F : FunD K "is_try" "is_try" (defArgs S_is_try) (defBody S_is_try) (defScope S_is_try) [] [] (He.ga K "is_try") fd) {k : Nat} (hk : 12 ≤ k) {g_is_body : List Da → Mo Da} (C_is_body : Cal P wd K mg base k "is_body" 4 g_is_body []) (C_is_whole : Cal P wd K mg base 1 "is_whole" 3 f_is_whole []) : FnOk P wd K mg base (L2.CX P wd) (k + 1) (He.ga K "is_try") fd ["row", "place", "deep", "looped"] (SpOf K 4 (fnM 9 (m_is_try g_is_body f_is_whole))) := by
  refine ok_of F sc_is_try rfl rfl fun cdv A outer s H E hr => ?_
  have nd := sc_is_try.nd
  have hx : ∀ σ, PassesAt (L2.CX P wd) (cxOf (L2.CX P wd) P wd K mg base NN_is_try "is_try" (defScope S_is_try) (He.ga K "is_try") cdv A outer s H E) σ E := fun σ => passAt (W := fun cls d _ H => E cls d H) (takes_of rfl rfl rfl rfl) σ
  have hx0 : ∀ {X : Cx} (σ : L2.St), PassesAt (L2.CX X.prog X.w) X σ E0 := fun σ pins H s e s' I c => passL pins σ H s e s' I c
  have po : PassesOwn (model P wd) (cxOf (L2.CX P wd) P wd K mg base NN_is_try "is_try" (defScope S_is_try) (He.ga K "is_try") cdv A outer s H E).A (cxOf (L2.CX P wd) P wd K mg base NN_is_try "is_try" (defScope S_is_try) (He.ga K "is_try") cdv A outer s H E).env (cxOf (L2.CX P wd) P wd K mg base NN_is_try "is_try" (defScope S_is_try) (He.ga K "is_try") cdv A outer s H E).xe := passes_of rfl
  have qq : QB (cxOf (L2.CX P wd) P wd K mg base NN_is_try "is_try" (defScope S_is_try) (He.ga K "is_try") cdv A outer s H E) (fun _ => E) (defBody S_is_try) _ (m_is_try g_is_body f_is_whole) :=
  (qb_cons (qs_tgt (qg_tup 4 (by rfl) (qgs_cons (qg_name 4 nd) (qgs_cons (qg_name 5 nd) (qgs_cons (qg_name 6 nd) (qgs_cons (qg_name 7 nd) qgs_nil))))) (q_var 0))
  (qb_cons (qs_if (qt_w (qw_or (qt_not (qt_val (q_call C_is_body (hr.mono (by omega)) hx (qa_cons (q_var 5) (qa_cons (q_var 1) (qa_cons (q_op q_add (q_var 2) q_int) (qa_cons (q_var 3) qa_nil))))))) (qw_or (qt_not (qt_val (q_isi .list T.n_isinstance T.n_list (q_var 6)))) (qw_or1 (qt_cmp q_gt (q_len T.n_len (qa_cons (q_var 6) qa_nil)) q_int))))) (qb_one (qs_ret q_bl)) qb_nil)
  (qb_cons (qs_for po (by rfl) (qi_v (q_var 6)) (qg_name 8 nd) (qb_cons (qs_if (qt_w (qw_or (qt_not (qt_val (q_isi .tuple T.n_isinstance T.n_tuple (q_var 8)))) (qw_or (qt_cmp (q_ne hr.units) (q_len T.n_len (qa_cons (q_var 8) qa_nil)) q_int) (qw_or1 (qt_w (qw_and (qt_cmp q_isNot (q_sub1 (q_var 8) q_int) q_non) (qw_and1 (qt_not (qt_val (q_call C_is_whole (hr.mono (by omega)) hx (qa_cons (q_sub1 (q_var 8) q_int) (qa_cons q_int (qa_cons (q_op q_sub (q_gint T.c_KINDS) q_int) qa_nil))))))))))))) (qb_one (qs_ret q_bl)) qb_nil)
  (qb_one (qs_if (qt_w (qw_or (qt_not (qt_val (q_call C_is_whole (hr.mono (by omega)) hx (qa_cons (q_sub1 (q_var 8) q_int) (qa_cons q_int (qa_cons (q_op q_sub (q_gint T.c_BOXES) q_int) qa_nil)))))) (qw_or1 (qt_not (qt_val (q_call C_is_body (hr.mono (by omega)) hx (qa_cons (q_sub1 (q_var 8) q_int) (qa_cons (q_var 1) (qa_cons (q_op q_add (q_var 2) q_int) (qa_cons (q_var 3) qa_nil)))))))))) (qb_one (qs_ret q_bl)) qb_nil))))
  (qb_one (qs_ret (q_or (q_cmp q_is (q_var 7) q_non) (q_one (q_call C_is_body (hr.mono (by omega)) hx (qa_cons (q_var 7) (qa_cons (q_var 1) (qa_cons (q_op q_add (q_var 2) q_int) (qa_cons (q_var 3) qa_nil))))))))))))
  exact ⟨_, qq.ps, qq.ss⟩
theorem ok_is_try (T : Tx K mg) {k : Nat} (hk : 12 ≤ k) {g_is_body : List Da → Mo Da} (C_is_body : Cal P wd K mg base k "is_body" 4 g_is_body []) (C_is_whole : Cal P wd K mg base 1 "is_whole" 3 f_is_whole []) : Cal P wd K mg base (k + 1) "is_try" 4 (fnM 9 (m_is_try g_is_body f_is_whole)) [] := by
  obtain ⟨h1, fd, F⟩ := T.d_is_try
  exact ⟨⟨_, fd, _, [], h1, F.kp, F.bindsN (ps := ["row", "place", "deep", "looped"]) fun _ _ _ _ _ _ us hl => match us, hl with | [_, _, _, _], _ => rfl, .nil, okf_is_try T F hk C_is_body C_is_whole⟩⟩
theorem z_is_body (T : Tx K mg) : Cal P wd K mg base 12 "is_body" 4 (f_is_body 0) [] := by
  obtain ⟨h1, fd, F⟩ := T.d_is_body
  exact ⟨⟨_, fd, _, [], h1, F.kp, F.bindsN (ps := ["thing", "place", "deep", "looped"]) fun _ _ _ _ _ _ us hl => match us, hl with | [_, _, _, _], _ => rfl, .nil, fn0 (k := 11) F sc_is_body rfl⟩⟩
theorem z_is_row (T : Tx K mg) : Cal P wd K mg base 12 "is_row" 4 (f_is_row 0) [] := by
  obtain ⟨h1, fd, F⟩ := T.d_is_row
  exact ⟨⟨_, fd, _, [], h1, F.kp, F.bindsN (ps := ["row", "place", "deep", "looped"]) fun _ _ _ _ _ _ us hl => match us, hl with | [_, _, _, _], _ => rfl, .nil, fn0 (k := 11) F sc_is_row rfl⟩⟩
theorem z_is_try (T : Tx K mg) : Cal P wd K mg base 12 "is_try" 4 (f_is_try 0) [] := by
  obtain ⟨h1, fd, F⟩ := T.d_is_try
  exact ⟨⟨_, fd, _, [], h1, F.kp, F.bindsN (ps := ["row", "place", "deep", "looped"]) fun _ _ _ _ _ _ us hl => match us, hl with | [_, _, _, _], _ => rfl, .nil, fn0 (k := 11) F sc_is_try rfl⟩⟩
theorem recs_is_body (T : Tx K mg) (C_is_worth_d1 : Cal P wd K mg base 11 "is_worth" 2 (f_is_worth 10) [(.int 0)]) (C_is_whole : Cal P wd K mg base 1 "is_whole" 3 f_is_whole []) (C_is_call : Cal P wd K mg base 12 "is_call" 2 f_is_call []) : ∀ n : Nat, (Cal P wd K mg base (12 + n) "is_body" 4 (f_is_body n) []) ∧ (Cal P wd K mg base (12 + n) "is_row" 4 (f_is_row n) []) ∧ (Cal P wd K mg base (12 + n) "is_try" 4 (f_is_try n) []) := by
  intro n
  induction n with
  | zero => exact ⟨z_is_body T, z_is_row T, z_is_try T⟩
  | succ n ih =>
    obtain ⟨C_is_body, C_is_row, C_is_try⟩ := ih
    exact ⟨ok_is_body T (k := 12 + n) (by omega) C_is_row,
      ok_is_row T (k := 12 + n) (by omega) C_is_worth_d1 C_is_whole C_is_call C_is_body C_is_try,
      ok_is_try T (k := 12 + n) (by omega) C_is_body C_is_whole⟩
theorem okf_is_program (T : Tx K mg) {fd : FuncData} (F : FunD K "is_program" "is_program" (defArgs S_is_program) (defBody S_is_program) (defScope S_is_program) [] [] (He.ga K "is_program") fd)  (C_is_whole : Cal P wd K mg base 1 "is_whole" 3 f_is_whole []) (C_is_body : Cal P wd K mg base 42 "is_body" 4 (f_is_body 30) []) : FnOk P wd K mg base (L2.CX P wd) (43) (He.ga K "is_program") fd ["thing"] (SpOf K 1 f_is_program) := by
  refine ok_of F sc_is_program rfl rfl fun cdv A outer s H E hr => ?_
  have nd := sc_is_program.nd
  have hx : ∀ σ, PassesAt (L2.CX P wd) (cxOf (L2.CX P wd) P wd K mg base NN_is_program "is_program" (defScope S_is_program) (He.ga K "is_program") cdv A outer s H E) σ E := fun σ => passAt (W := fun cls d _ H => E cls d H) (takes_of rfl rfl rfl rfl) σ
  have hx0 : ∀ {X : Cx} (σ : L2.St), PassesAt (L2.CX X.prog X.w) X σ E0 := fun σ pins H s e s' I c => passL pins σ H s e s' I c
  have po : PassesOwn (model P wd) (cxOf (L2.CX P wd) P wd K mg base NN_is_program "is_program" (defScope S_is_program) (He.ga K "is_program") cdv A outer s H E).A (cxOf (L2.CX P wd) P wd K mg base NN_is_program "is_program" (defScope S_is_program) (He.ga K "is_program") cdv A outer s H E).env (cxOf (L2.CX P wd) P wd K mg base NN_is_program "is_program" (defScope S_is_program) (He.ga K "is_program") cdv A outer s H E).xe := passes_of rfl
  have qq : QB (cxOf (L2.CX P wd) P wd K mg base NN_is_program "is_program" (defScope S_is_program) (He.ga K "is_program") cdv A outer s H E) (fun _ => E) (defBody S_is_program) _ (m_is_program f_is_whole (f_is_body 30)) :=
  (qb_cons (qs_if (qt_w (qw_or (qt_not (qt_val (q_isi .list T.n_isinstance T.n_list (q_var 0)))) (qw_or1 (qt_not (qt_chain q_le q_le q_int (q_len T.n_len (qa_cons (q_var 0) qa_nil)) (q_gint T.c_MOST_FUNCTIONS)))))) (qb_one (qs_ret q_bl)) qb_nil)
  (qb_cons (qs_if (qt_not (qt_val (q_all (by rfl) T.n_all (qa_cons (q_L (by exact ql_comp (by rfl) nd (qi_v (q_var 0)) (blkOk_by (own := [("one", 2)]) (N := NN_is_program) (sc := defScope S_is_program) (by decide +kernel)) (fun _ _ _ _ _ => (qg_name 2 nd)) (fun _ _ _ _ _ => qts_nil) (fun _ _ _ _ _ => (q_and (q_isi .tuple T.n_isinstance T.n_tuple (q_var 2)) (q_and (q_cmp (q_eq hr.units) (q_len T.n_len (qa_cons (q_var 2) qa_nil)) q_int) (q_one (q_call C_is_whole (hr.mono (by omega)) hx0 (qa_cons (q_sub1 (q_var 2) q_int) (qa_cons q_int (qa_cons q_int qa_nil)))))))))) qa_nil)))) (qb_one (qs_ret q_bl)) qb_nil)
  (qb_cons (qs_set 1 nd (q_L (by exact ql_comp (by rfl) nd (qi_v (q_var 0)) (blkOk_by (own := [("one", 2)]) (N := NN_is_program) (sc := defScope S_is_program) (by decide +kernel)) (fun _ _ _ _ _ => (qg_name 2 nd)) (fun _ _ _ _ _ => qts_nil) (fun _ _ _ _ _ => (q_sub1 (q_var 2) q_int)))))
  (qb_one (qs_ret (q_and (q_cmp (q_eq hr.units) (q_sub1 (q_var 1) q_int) q_int) (q_one (q_all (by rfl) T.n_all (qa_cons (q_L (by exact ql_comp (by rfl) nd (qi_r1 T.n_range (qa_cons (q_len T.n_len (qa_cons (q_var 0) qa_nil)) qa_nil)) (blkOk_by (own := [("k", 3)]) (N := NN_is_program) (sc := defScope S_is_program) (by decide +kernel)) (fun _ _ _ _ _ => (qg_name 3 nd)) (fun _ _ _ _ _ => qts_nil) (fun _ _ _ _ _ => (q_call C_is_body (hr.mono (by omega)) hx0 (qa_cons (q_sub1 (q_sub1 (q_var 0) (q_var 3)) q_int) (qa_cons (q_tup (qa_cons (q_var 3) (qa_cons (q_var 1) qa_nil))) (qa_cons q_int (qa_cons q_bl qa_nil)))))))) qa_nil)))))))))
  exact ⟨_, qq.ps, qq.ss⟩
theorem ok_is_program (T : Tx K mg)  (C_is_whole : Cal P wd K mg base 1 "is_whole" 3 f_is_whole []) (C_is_body : Cal P wd K mg base 42 "is_body" 4 (f_is_body 30) []) : Cal P wd K mg base (43) "is_program" 1 f_is_program [] := by
  obtain ⟨h1, fd, F⟩ := T.d_is_program
  exact ⟨⟨_, fd, _, [], h1, F.kp, F.bindsN (ps := ["thing"]) fun _ _ _ _ _ _ us hl => match us, hl with | [_], _ => rfl, .nil, okf_is_program T F  C_is_whole C_is_body⟩⟩
theorem okf_look_program (T : Tx K mg) {fd : FuncData} (F : FunD K "look_program" "look_program" (defArgs S_look_program) (defBody S_look_program) (defScope S_look_program) [] [] (He.ga K "look_program") fd)  (C_is_program : Cal P wd K mg base 43 "is_program" 1 f_is_program []) : FnOk P wd K mg base (L2.CX P wd) (44) (He.ga K "look_program") fd ["thing"] (SpOf K 1 f_look_program) := by
  refine ok_of F sc_look_program rfl rfl fun cdv A outer s H E hr => ?_
  have nd := sc_look_program.nd
  have hx : ∀ σ, PassesAt (L2.CX P wd) (cxOf (L2.CX P wd) P wd K mg base NN_look_program "look_program" (defScope S_look_program) (He.ga K "look_program") cdv A outer s H E) σ E := fun σ => passAt (W := fun cls d _ H => E cls d H) (takes_of rfl rfl rfl rfl) σ
  have hx0 : ∀ {X : Cx} (σ : L2.St), PassesAt (L2.CX X.prog X.w) X σ E0 := fun σ pins H s e s' I c => passL pins σ H s e s' I c
  have po : PassesOwn (model P wd) (cxOf (L2.CX P wd) P wd K mg base NN_look_program "look_program" (defScope S_look_program) (He.ga K "look_program") cdv A outer s H E).A (cxOf (L2.CX P wd) P wd K mg base NN_look_program "look_program" (defScope S_look_program) (He.ga K "look_program") cdv A outer s H E).env (cxOf (L2.CX P wd) P wd K mg base NN_look_program "look_program" (defScope S_look_program) (He.ga K "look_program") cdv A outer s H E).xe := passes_of rfl
  have qq : QB (cxOf (L2.CX P wd) P wd K mg base NN_look_program "look_program" (defScope S_look_program) (He.ga K "look_program") cdv A outer s H E) (fun _ => E) (defBody S_look_program) _ (m_look_program f_is_program) :=
  (qb_one (qs_if (qt_not (qt_val (q_call C_is_program (hr.mono (by omega)) hx (qa_cons (q_var 0) qa_nil)))) (qb_one qs_never) qb_nil))
  exact ⟨_, qq.ps, qq.ss⟩
theorem ok_look_program (T : Tx K mg)  (C_is_program : Cal P wd K mg base 43 "is_program" 1 f_is_program []) : Cal P wd K mg base (44) "look_program" 1 f_look_program [] := by
  obtain ⟨h1, fd, F⟩ := T.d_look_program
  exact ⟨⟨_, fd, _, [], h1, F.kp, F.bindsN (ps := ["thing"]) fun _ _ _ _ _ _ us hl => match us, hl with | [_], _ => rfl, .nil, okf_look_program T F  C_is_program⟩⟩
theorem okf_Plain___init__ (T : Tx K mg) {fd : FuncData} (F : FunD K "__init__" "Plain.__init__" (defArgs S_Plain___init__) (defBody S_Plain___init__) (defScope S_Plain___init__) [] [] (He.ma K (He.ga K "Plain") "__init__") fd)  (C_look_program : Cal P wd K mg base 44 "look_program" 1 f_look_program []) : FnOk P wd K mg base (L2.CX P wd) (45) (He.ma K (He.ga K "Plain") "__init__") fd ["self", "program"] (SpOf K 2 f_Plain___init__) := by
  refine ok_of F sc_Plain___init__ rfl rfl fun cdv A outer s H E hr => ?_
  have nd := sc_Plain___init__.nd
  have hx : ∀ σ, PassesAt (L2.CX P wd) (cxOf (L2.CX P wd) P wd K mg base NN_Plain___init__ "Plain.__init__" (defScope S_Plain___init__) (He.ma K (He.ga K "Plain") "__init__") cdv A outer s H E) σ E := fun σ => passAt (W := fun cls d _ H => E cls d H) (takes_of rfl rfl rfl rfl) σ
  have hx0 : ∀ {X : Cx} (σ : L2.St), PassesAt (L2.CX X.prog X.w) X σ E0 := fun σ pins H s e s' I c => passL pins σ H s e s' I c
  have po : PassesOwn (model P wd) (cxOf (L2.CX P wd) P wd K mg base NN_Plain___init__ "Plain.__init__" (defScope S_Plain___init__) (He.ma K (He.ga K "Plain") "__init__") cdv A outer s H E).A (cxOf (L2.CX P wd) P wd K mg base NN_Plain___init__ "Plain.__init__" (defScope S_Plain___init__) (He.ma K (He.ga K "Plain") "__init__") cdv A outer s H E).env (cxOf (L2.CX P wd) P wd K mg base NN_Plain___init__ "Plain.__init__" (defScope S_Plain___init__) (He.ma K (He.ga K "Plain") "__init__") cdv A outer s H E).xe := passes_of rfl
  have qq : QB (cxOf (L2.CX P wd) P wd K mg base NN_Plain___init__ "Plain.__init__" (defScope S_Plain___init__) (He.ma K (He.ga K "Plain") "__init__") cdv A outer s H E) (fun _ => E) (defBody S_Plain___init__) _ (m_Plain___init__ f_look_program) :=
  (qb_cons (qs_expr (q_call C_look_program (hr.mono (by omega)) hx (qa_cons (q_var 1) qa_nil)))
  (qb_cons (qs_fld T.q_Plain_program (q_var 1) (q_var 0))
  (qb_one (qs_fld T.q_Plain_told (q_H (ql_disp qa_nil)) (q_var 0)))))
  exact ⟨_, qq.ps, qq.ss⟩
theorem ok_Plain___init__ (T : Tx K mg)  (C_look_program : Cal P wd K mg base 44 "look_program" 1 f_look_program []) : CalC P wd K mg base (45) "Plain" 2 f_Plain___init__ [] := by
  obtain ⟨⟨h1, h2⟩, fd, F⟩ := T.d_Plain___init__
  exact ⟨⟨_, fd, _, [], h1, h2, F.bindsN (ps := ["self", "program"]) fun _ _ _ _ _ _ us hl => match us, hl with | [_, _], _ => rfl, .nil, okf_Plain___init__ T F  C_look_program⟩⟩
theorem okf_reckoned (T : Tx K mg) {fd : FuncData} (F : FunD K "reckoned" "reckoned" (defArgs S_reckoned) (defBody S_reckoned) (defScope S_reckoned) [] [] (He.ga K "reckoned") fd)   : FnOk P wd K mg base (L2.CX P wd) (1) (He.ga K "reckoned") fd ["sign", "one", "other"] (SpOf K 3 f_reckoned) := by
  refine ok_of F sc_reckoned rfl rfl fun cdv A outer s H E hr => ?_
  have nd := sc_reckoned.nd
  have hx : ∀ σ, PassesAt (L2.CX P wd) (cxOf (L2.CX P wd) P wd K mg base NN_reckoned "reckoned" (defScope S_reckoned) (He.ga K "reckoned") cdv A outer s H E) σ E := fun σ => passAt (W := fun cls d _ H => E cls d H) (takes_of rfl rfl rfl rfl) σ
  have hx0 : ∀ {X : Cx} (σ : L2.St), PassesAt (L2.CX X.prog X.w) X σ E0 := fun σ pins H s e s' I c => passL pins σ H s e s' I c
  have po : PassesOwn (model P wd) (cxOf (L2.CX P wd) P wd K mg base NN_reckoned "reckoned" (defScope S_reckoned) (He.ga K "reckoned") cdv A outer s H E).A (cxOf (L2.CX P wd) P wd K mg base NN_reckoned "reckoned" (defScope S_reckoned) (He.ga K "reckoned") cdv A outer s H E).env (cxOf (L2.CX P wd) P wd K mg base NN_reckoned "reckoned" (defScope S_reckoned) (He.ga K "reckoned") cdv A outer s H E).xe := passes_of rfl
  have qq : QB (cxOf (L2.CX P wd) P wd K mg base NN_reckoned "reckoned" (defScope S_reckoned) (He.ga K "reckoned") cdv A outer s H E) (fun _ => E) (defBody S_reckoned) _ (m_reckoned ) :=
  (qb_cons (qs_if (qt_cmp (q_eq hr.units) (q_var 0) q_str) (qb_one (qs_ret (q_op q_mod (q_op q_add (q_var 1) (q_var 2)) (q_op q_add (q_gint T.c_MOST_VALUE) q_int)))) qb_nil)
  (qb_cons (qs_if (qt_cmp (q_eq hr.units) (q_var 0) q_str) (qb_one (qs_ret (q_op q_mod (q_op q_sub (q_var 1) (q_var 2)) (q_op q_add (q_gint T.c_MOST_VALUE) q_int)))) qb_nil)
  (qb_cons (qs_if (qt_cmp (q_eq hr.units) (q_var 0) q_str) (qb_one (qs_ret (q_op q_mod (q_op q_mul (q_var 1) (q_var 2)) (q_op q_add (q_gint T.c_MOST_VALUE) q_int)))) qb_nil)
  (qb_one (qs_ret (q_ifx (qt_cmp (q_eq hr.units) (q_var 2) q_int) q_non (q_op q_fdiv (q_var 1) (q_var 2))))))))
  exact ⟨_, qq.ps, qq.ss⟩
theorem ok_reckoned (T : Tx K mg)   : Cal P wd K mg base (1) "reckoned" 3 f_reckoned [] := by
  obtain ⟨h1, fd, F⟩ := T.d_reckoned
  exact ⟨⟨_, fd, _, [], h1, F.kp, F.bindsN (ps := ["sign", "one", "other"]) fun _ _ _ _ _ _ us hl => match us, hl with | [_, _, _], _ => rfl, .nil, okf_reckoned T F  ⟩⟩
theorem okf_Plain_worth (T : Tx K mg) {fd : FuncData} (F : FunD K "worth" "Plain.worth" (defArgs S_Plain_worth) (defBody S_Plain_worth) (defScope S_Plain_worth) [] [] (He.ma K (He.ga K "Plain") "worth") fd) {k : Nat} (hk : 1 ≤ k) {g_Plain_worth : List Da → Mo Da} (C_Plain_worth : CalM P wd K mg base k "Plain" "worth" 3 g_Plain_worth []) (C_reckoned : Cal P wd K mg base 1 "reckoned" 3 f_reckoned []) : FnOk P wd K mg base (L2.CX P wd) (k + 1) (He.ma K (He.ga K "Plain") "worth") fd ["self", "thing", "boxes"] (SpOf K 3 (fnM 6 (m_Plain_worth g_Plain_worth f_reckoned))) := by
  refine ok_of F sc_Plain_worth rfl rfl fun cdv A outer s H E hr => ?_
  have nd := sc_Plain_worth.nd
  have hx : ∀ σ, PassesAt (L2.CX P wd) (cxOf (L2.CX P wd) P wd K mg base NN_Plain_worth "Plain.worth" (defScope S_Plain_worth) (He.ma K (He.ga K "Plain") "worth") cdv A outer s H E) σ E := fun σ => passAt (W := fun cls d _ H => E cls d H) (takes_of rfl rfl rfl rfl) σ
  have hx0 : ∀ {X : Cx} (σ : L2.St), PassesAt (L2.CX X.prog X.w) X σ E0 := fun σ pins H s e s' I c => passL pins σ H s e s' I c
  have po : PassesOwn (model P wd) (cxOf (L2.CX P wd) P wd K mg base NN_Plain_worth "Plain.worth" (defScope S_Plain_worth) (He.ma K (He.ga K "Plain") "worth") cdv A outer s H E).A (cxOf (L2.CX P wd) P wd K mg base NN_Plain_worth "Plain.worth" (defScope S_Plain_worth) (He.ma K (He.ga K "Plain") "worth") cdv A outer s H E).env (cxOf (L2.CX P wd) P wd K mg base NN_Plain_worth "Plain.worth" (defScope S_Plain_worth) (He.ma K (He.ga K "Plain") "worth") cdv A outer s H E).xe := passes_of rfl
  have qq : QB (cxOf (L2.CX P wd) P wd K mg base NN_Plain_worth "Plain.worth" (defScope S_Plain_worth) (He.ma K (He.ga K "Plain") "worth") cdv A outer s H E) (fun _ => E) (defBody S_Plain_worth) _ (m_Plain_worth g_Plain_worth f_reckoned) :=
  (qb_cons (qs_if (qt_val (q_isi .int T.n_isinstance T.n_int (q_var 1))) (qb_one (qs_ret (q_tup (qa_cons q_str (qa_cons (q_var 1) qa_nil))))) qb_nil)
  (qb_cons (qs_if (qt_cmp (q_eq hr.units) (q_sub1 (q_var 1) q_int) q_str) (qb_one (qs_ret (q_tup (qa_cons q_str (qa_cons (q_sub1 (q_var 2) (q_sub1 (q_var 1) q_int)) qa_nil))))) qb_nil)
  (qb_cons (qs_set 3 nd (q_meth C_Plain_worth (hr.mono (by omega)) hx (q_var 0) (qa_cons (q_sub1 (q_var 1) q_int) (qa_cons (q_var 2) qa_nil))))
  (qb_cons (qs_set 4 nd (q_ifx (qt_cmp (q_eq hr.units) (q_sub1 (q_var 3) q_int) q_str) (q_meth C_Plain_worth (hr.mono (by omega)) hx (q_var 0) (qa_cons (q_sub1 (q_var 1) q_int) (qa_cons (q_var 2) qa_nil))) (q_var 3)))
  (qb_cons (qs_if (qt_cmp (q_ne hr.units) (q_sub1 (q_var 4) q_int) q_str) (qb_one (qs_ret (q_var 4))) qb_nil)
  (qb_cons (qs_set 5 nd (q_call C_reckoned (hr.mono (by omega)) hx (qa_cons (q_sub1 (q_var 1) q_int) (qa_cons (q_sub1 (q_var 3) q_int) (qa_cons (q_sub1 (q_var 4) q_int) qa_nil)))))
  (qb_one (qs_ret (q_ifx (qt_cmp q_is (q_var 5) q_non) (q_tup (qa_cons q_str (qa_cons (q_gint T.c_FAULT) (qa_cons (q_sub1 (q_var 3) q_int) qa_nil)))) (q_tup (qa_cons q_str (qa_cons (q_var 5) qa_nil))))))))))))
  exact ⟨_, qq.ps, qq.ss⟩
theorem ok_Plain_worth (T : Tx K mg) {k : Nat} (hk : 1 ≤ k) {g_Plain_worth : List Da → Mo Da} (C_Plain_worth : CalM P wd K mg base k "Plain" "worth" 3 g_Plain_worth []) (C_reckoned : Cal P wd K mg base 1 "reckoned" 3 f_reckoned []) : CalM P wd K mg base (k + 1) "Plain" "worth" 3 (fnM 6 (m_Plain_worth g_Plain_worth f_reckoned)) [] := by
  obtain ⟨⟨h1, h2⟩, fd, F⟩ := T.d_Plain_worth
  exact ⟨⟨_, fd, _, [], h1, h2, F.bindsN (ps := ["self", "thing", "boxes"]) fun _ _ _ _ _ _ us hl => match us, hl with | [_, _, _], _ => rfl, .nil, okf_Plain_worth T F hk C_Plain_worth C_reckoned⟩⟩
theorem z_Plain_worth (T : Tx K mg) : CalM P wd K mg base 1 "Plain" "worth" 3 (f_Plain_worth 0) [] := by
  obtain ⟨⟨h1, h2⟩, fd, F⟩ := T.d_Plain_worth
  exact ⟨⟨_, fd, _, [], h1, h2, F.bindsN (ps := ["self", "thing", "boxes"]) fun _ _ _ _ _ _ us hl => match us, hl with | [_, _, _], _ => rfl, .nil, fn0 (k := 0) F sc_Plain_worth rfl⟩⟩
theorem recs_Plain_worth (T : Tx K mg) (C_reckoned : Cal P wd K mg base 1 "reckoned" 3 f_reckoned []) : ∀ n : Nat, (CalM P wd K mg base (1 + n) "Plain" "worth" 3 (f_Plain_worth n) []) := by
  intro n
  induction n with
  | zero => exact z_Plain_worth T
  | succ n ih =>
    have C_Plain_worth := ih
    exact ok_Plain_worth T (k := 1 + n) (by omega) C_Plain_worth C_reckoned
theorem okf_Plain_all_rows (T : Tx K mg) {fd : FuncData} (F : FunD K "all_rows" "Plain.all_rows" (defArgs S_Plain_all_rows) (defBody S_Plain_all_rows) (defScope S_Plain_all_rows) [] [] (He.ma K (He.ga K "Plain") "all_rows") fd) {k : Nat} (hk : 11 ≤ k) {g_Plain_row : List Da → Mo Da} (C_Plain_row : CalM P wd K mg base k "Plain" "row" 3 g_Plain_row []) : FnOk P wd K mg base (L2.CX P wd) (k + 1) (He.ma K (He.ga K "Plain") "all_rows") fd ["self", "body", "boxes"] (SpOf K 3 (fnM 5 (m_Plain_all_rows g_Plain_row))) := by
  refine ok_of F sc_Plain_all_rows rfl rfl fun cdv A outer s H E hr => ?_
  have nd := sc_Plain_all_rows.nd
  have hx : ∀ σ, PassesAt (L2.CX P wd) (cxOf (L2.CX P wd) P wd K mg base NN_Plain_all_rows "Plain.all_rows" (defScope S_Plain_all_rows) (He.ma K (He.ga K "Plain") "all_rows") cdv A outer s H E) σ E := fun σ => passAt (W := fun cls d _ H => E cls d H) (takes_of rfl rfl rfl rfl) σ
  have hx0 : ∀ {X : Cx} (σ : L2.St), PassesAt (L2.CX X.prog X.w) X σ E0 := fun σ pins H s e s' I c => passL pins σ H s e s' I c
  have po : PassesOwn (model P wd) (cxOf (L2.CX P wd) P wd K mg base NN_Plain_all_rows "Plain.all_rows" (defScope S_Plain_all_rows) (He.ma K (He.ga K "Plain") "all_rows") cdv A outer s H E).A (cxOf (L2.CX P wd) P wd K mg base NN_Plain_all_rows "Plain.all_rows" (defScope S_Plain_all_rows) (He.ma K (He.ga K "Plain") "all_rows") cdv A outer s H E).env (cxOf (L2.CX P wd) P wd K mg base NN_Plain_all_rows "Plain.all_rows" (defScope S_Plain_all_rows) (He.ma K (He.ga K "Plain") "all_rows") cdv A outer s H E).xe := passes_of rfl
  have qq : QB (cxOf (L2.CX P wd) P wd K mg base NN_Plain_all_rows "Plain.all_rows" (defScope S_Plain_all_rows) (He.ma K (He.ga K "Plain") "all_rows") cdv A outer s H E) (fun _ => E) (defBody S_Plain_all_rows) _ (m_Plain_all_rows g_Plain_row) :=
  (qb_cons (qs_for po (by rfl) (qi_v (q_var 1)) (qg_name 3 nd) (qb_cons (qs_set 4 nd (q_meth C_Plain_row (hr.mono (by omega)) hx (q_var 0) (qa_cons (q_var 3) (qa_cons (q_var 2) qa_nil))))
  (qb_one (qs_if (qt_cmp (q_ne hr.units) (q_sub1 (q_var 4) q_int) q_str) (qb_one (qs_ret (q_var 4))) qb_nil))))
  (qb_one (qs_ret (q_gdat T.c_ON T.r_ON))))
  exact ⟨_, qq.ps, qq.ss⟩
theorem ok_Plain_all_rows (T : Tx K mg) {k : Nat} (hk : 11 ≤ k) {g_Plain_row : List Da → Mo Da} (C_Plain_row : CalM P wd K mg base k "Plain" "row" 3 g_Plain_row []) : CalM P wd K mg base (k + 1) "Plain" "all_rows" 3 (fnM 5 (m_Plain_all_rows g_Plain_row)) [] := by
  obtain ⟨⟨h1, h2⟩, fd, F⟩ := T.d_Plain_all_rows
  exact ⟨⟨_, fd, _, [], h1, h2, F.bindsN (ps := ["self", "body", "boxes"]) fun _ _ _ _ _ _ us hl => match us, hl with | [_, _, _], _ => rfl, .nil, okf_Plain_all_rows T F hk C_Plain_row⟩⟩
theorem okf_Plain_row (T : Tx K mg) {fd : FuncData} (F : FunD K "row" "Plain.row" (defArgs S_Plain_row) (defBody S_Plain_row) (defScope S_Plain_row) [] [] (He.ma K (He.ga K "Plain") "row") fd) {k : Nat} (hk : 11 ≤ k) {g_Plain_looped : List Da → Mo Da} {g_Plain_tried : List Da → Mo Da} {g_Plain_called : List Da → Mo Da} {g_Plain_all_rows : List Da → Mo Da} (C_Plain_looped : CalM P wd K mg base k "Plain" "looped" 3 g_Plain_looped []) (C_Plain_tried : CalM P wd K mg base k "Plain" "tried" 3 g_Plain_tried []) (C_Plain_called : CalM P wd K mg base k "Plain" "called" 3 g_Plain_called []) (C_Plain_worth : CalM P wd K mg base 11 "Plain" "worth" 3 (f_Plain_worth 10) []) (C_Plain_all_rows : CalM P wd K mg base k "Plain" "all_rows" 3 g_Plain_all_rows []) : FnOk P wd K mg base (L2.CX P wd) (k + 1) (He.ma K (He.ga K "Plain") "row") fd ["self", "row", "boxes"] (SpOf K 3 (fnM 5 (m_Plain_row g_Plain_looped g_Plain_tried g_Plain_called (f_Plain_worth 10) g_Plain_all_rows))) := by
  refine ok_of F sc_Plain_row rfl rfl fun cdv A outer s H E hr => ?_
  have nd := sc_Plain_row.nd
  have hx : ∀ σ, PassesAt (L2.CX P wd) (cxOf (L2.CX P wd) P wd K mg base NN_Plain_row "Plain.row" (defScope S_Plain_row) (He.ma K (He.ga K "Plain") "row") cdv A outer s H E) σ E := fun σ => passAt (W := fun cls d _ H => E cls d H) (takes_of rfl rfl rfl rfl) σ
  have hx0 : ∀ {X : Cx} (σ : L2.St), PassesAt (L2.CX X.prog X.w) X σ E0 := fun σ pins H s e s' I c => passL pins σ H s e s' I c
  have po : PassesOwn (model P wd) (cxOf (L2.CX P wd) P wd K mg base NN_Plain_row "Plain.row" (defScope S_Plain_row) (He.ma K (He.ga K "Plain") "row") cdv A outer s H E).A (cxOf (L2.CX P wd) P wd K mg base NN_Plain_row "Plain.row" (defScope S_Plain_row) (He.ma K (He.ga K "Plain") "row") cdv A outer s H E).env (cxOf (L2.CX P wd) P wd K mg base NN_Plain_row "Plain.row" (defScope S_Plain_row) (He.ma K (He.ga K "Plain") "row") cdv A outer s H E).xe := passes_of rfl
  have qq : QB (cxOf (L2.CX P wd) P wd K mg base NN_Plain_row "Plain.row" (defScope S_Plain_row) (He.ma K (He.ga K "Plain") "row") cdv A outer s H E) (fun _ => E) (defBody S_Plain_row) _ (m_Plain_row g_Plain_looped g_Plain_tried g_Plain_called (f_Plain_worth 10) g_Plain_all_rows) :=
  (qb_cons (qs_set 3 nd (q_sub1 (q_var 1) q_int))
  (qb_cons (qs_if (qt_cmp (q_eq hr.units) (q_var 3) q_str) (qb_one (qs_ret (q_tup (qa_cons q_str qa_nil)))) qb_nil)
  (qb_cons (qs_if (qt_cmp (q_eq hr.units) (q_var 3) q_str) (qb_one (qs_ret (q_meth C_Plain_looped (hr.mono (by omega)) hx (q_var 0) (qa_cons (q_var 1) (qa_cons (q_var 2) qa_nil))))) qb_nil)
  (qb_cons (qs_if (qt_cmp (q_eq hr.units) (q_var 3) q_str) (qb_one (qs_ret (q_meth C_Plain_tried (hr.mono (by omega)) hx (q_var 0) (qa_cons (q_var 1) (qa_cons (q_var 2) qa_nil))))) qb_nil)
  (qb_cons (qs_if (qt_cmp (q_eq hr.units) (q_var 3) q_str) (qb_one (qs_ret (q_meth C_Plain_called (hr.mono (by omega)) hx (q_var 0) (qa_cons (q_var 1) (qa_cons (q_var 2) qa_nil))))) qb_nil)
  (qb_cons (qs_set 4 nd (q_meth C_Plain_worth (hr.mono (by omega)) hx (q_var 0) (qa_cons (q_ifx (qt_cmp (q_inU (room1 hr)) (q_var 3) (q_tup (qa_cons q_str (qa_cons q_str qa_nil)))) (q_sub1 (q_var 1) q_int) (q_sub1 (q_var 1) q_int)) (qa_cons (q_var 2) qa_nil))))
  (qb_cons (qs_if (qt_cmp (q_ne hr.units) (q_sub1 (q_var 4) q_int) q_str) (qb_one (qs_ret (q_var 4))) qb_nil)
  (qb_cons (qs_if (qt_cmp (q_eq hr.units) (q_var 3) q_str) (qb_one (qs_setI (q_sub1 (q_var 4) q_int) (q_var 2) (q_sub1 (q_var 1) q_int))) (qb_one (qs_if (qt_cmp (q_eq hr.units) (q_var 3) q_str) (qb_one (qs_expr (q_app (q_fld T.q_Plain_told (q_var 0)) (q_sub1 (q_var 4) q_int)))) (qb_one (qs_if (qt_cmp (q_eq hr.units) (q_var 3) q_str) (qb_one (qs_ret (q_tup (qa_cons q_str (qa_cons (q_sub1 (q_var 1) q_int) (qa_cons (q_sub1 (q_var 4) q_int) qa_nil)))))) (qb_one (qs_if (qt_cmp (q_eq hr.units) (q_var 3) q_str) (qb_one (qs_ret (q_tup (qa_cons q_str (qa_cons (q_sub1 (q_var 4) q_int) qa_nil))))) (qb_one (qs_ret (q_meth C_Plain_all_rows (hr.mono (by omega)) hx (q_var 0) (qa_cons (q_ifx (qt_cmp (q_ne hr.units) (q_sub1 (q_var 4) q_int) q_int) (q_sub1 (q_var 1) q_int) (q_sub1 (q_var 1) q_int)) (qa_cons (q_var 2) qa_nil))))))))))))
  (qb_one (qs_ret (q_gdat T.c_ON T.r_ON)))))))))))
  exact ⟨_, qq.ps, qq.ss⟩
theorem ok_Plain_row (T : Tx K mg) {k : Nat} (hk : 11 ≤ k) {g_Plain_looped : List Da → Mo Da} {g_Plain_tried : List Da → Mo Da} {g_Plain_called : List Da → Mo Da} {g_Plain_all_rows : List Da → Mo Da} (C_Plain_looped : CalM P wd K mg base k "Plain" "looped" 3 g_Plain_looped []) (C_Plain_tried : CalM P wd K mg base k "Plain" "tried" 3 g_Plain_tried []) (C_Plain_called : CalM P wd K mg base k "Plain" "called" 3 g_Plain_called []) (C_Plain_worth : CalM P wd K mg base 11 "Plain" "worth" 3 (f_Plain_worth 10) []) (C_Plain_all_rows : CalM P wd K mg base k "Plain" "all_rows" 3 g_Plain_all_rows []) : CalM P wd K mg base (k + 1) "Plain" "row" 3 (fnM 5 (m_Plain_row g_Plain_looped g_Plain_tried g_Plain_called (f_Plain_worth 10) g_Plain_all_rows)) [] := by
  obtain ⟨⟨h1, h2⟩, fd, F⟩ := T.d_Plain_row
  exact ⟨⟨_, fd, _, [], h1, h2, F.bindsN (ps := ["self", "row", "boxes"]) fun _ _ _ _ _ _ us hl => match us, hl with | [_, _, _], _ => rfl, .nil, okf_Plain_row T F hk C_Plain_looped C_Plain_tried C_Plain_called C_Plain_worth C_Plain_all_rows⟩⟩
theorem okf_Plain_looped (T : Tx K mg) {fd : FuncData} (F : FunD K "looped" "Plain.looped" (defArgs S_Plain_looped) (defBody S_Plain_looped) (defScope S_Plain_looped) [] [] (He.ma K (He.ga K "Plain") "looped") fd) {k : Nat} (hk : 11 ≤ k) {g_Plain_all_rows : List Da → Mo Da} (C_Plain_all_rows : CalM P wd K mg base k "Plain" "all_rows" 3 g_Plain_all_rows []) : FnOk P wd K mg base (L2.CX P wd) (k + 1) (He.ma K (He.ga K "Plain") "looped") fd ["self", "row", "boxes"] (SpOf K 3 (fnM 5 (m_Plain_looped g_Plain_all_rows))) := by
  refine ok_of F sc_Plain_looped rfl rfl fun cdv A outer s H E hr => ?_
  have nd := sc_Plain_looped.nd
  have hx : ∀ σ, PassesAt (L2.CX P wd) (cxOf (L2.CX P wd) P wd K mg base NN_Plain_looped "Plain.looped" (defScope S_Plain_looped) (He.ma K (He.ga K "Plain") "looped") cdv A outer s H E) σ E := fun σ => passAt (W := fun cls d _ H => E cls d H) (takes_of rfl rfl rfl rfl) σ
  have hx0 : ∀ {X : Cx} (σ : L2.St), PassesAt (L2.CX X.prog X.w) X σ E0 := fun σ pins H s e s' I c => passL pins σ H s e s' I c
  have po : PassesOwn (model P wd) (cxOf (L2.CX P wd) P wd K mg base NN_Plain_looped "Plain.looped" (defScope S_Plain_looped) (He.ma K (He.ga K "Plain") "looped") cdv A outer s H E).A (cxOf (L2.CX P wd) P wd K mg base NN_Plain_looped "Plain.looped" (defScope S_Plain_looped) (He.ma K (He.ga K "Plain") "looped") cdv A outer s H E).env (cxOf (L2.CX P wd) P wd K mg base NN_Plain_looped "Plain.looped" (defScope S_Plain_looped) (He.ma K (He.ga K "Plain") "looped") cdv A outer s H E).xe := passes_of rfl
  have qq : QB (cxOf (L2.CX P wd) P wd K mg base NN_Plain_looped "Plain.looped" (defScope S_Plain_looped) (He.ma K (He.ga K "Plain") "looped") cdv A outer s H E) (fun _ => E) (defBody S_Plain_looped) _ (m_Plain_looped g_Plain_all_rows) :=
  (qb_cons (qs_for po (by rfl) (qi_r1 T.n_range (qa_cons (q_sub1 (q_var 1) q_int) qa_nil)) (qg_name 3 nd) (qb_cons (qs_set 4 nd (q_meth C_Plain_all_rows (hr.mono (by omega)) hx (q_var 0) (qa_cons (q_sub1 (q_var 1) q_int) (qa_cons (q_var 2) qa_nil))))
  (qb_cons (qs_if (qt_cmp (q_eq hr.units) (q_sub1 (q_var 4) q_int) q_str) (qb_one (qs_ret (q_gdat T.c_ON T.r_ON))) qb_nil)
  (qb_one (qs_if (qt_cmp (q_ne hr.units) (q_sub1 (q_var 4) q_int) q_str) (qb_one (qs_ret (q_var 4))) qb_nil)))))
  (qb_one (qs_ret (q_gdat T.c_ON T.r_ON))))
  exact ⟨_, qq.ps, qq.ss⟩
theorem ok_Plain_looped (T : Tx K mg) {k : Nat} (hk : 11 ≤ k) {g_Plain_all_rows : List Da → Mo Da} (C_Plain_all_rows : CalM P wd K mg base k "Plain" "all_rows" 3 g_Plain_all_rows []) : CalM P wd K mg base (k + 1) "Plain" "looped" 3 (fnM 5 (m_Plain_looped g_Plain_all_rows)) [] := by
  obtain ⟨⟨h1, h2⟩, fd, F⟩ := T.d_Plain_looped
  exact ⟨⟨_, fd, _, [], h1, h2, F.bindsN (ps := ["self", "row", "boxes"]) fun _ _ _ _ _ _ us hl => match us, hl with | [_, _, _], _ => rfl, .nil, okf_Plain_looped T F hk C_Plain_all_rows⟩⟩
theorem okf_Plain_tried (T : Tx K mg) {fd : FuncData} (F : FunD K "tried" "Plain.tried" (defArgs S_Plain_tried) (defBody S_Plain_tried) (defScope S_Plain_tried) [] [] (He.ma K (He.ga K "Plain") "tried") fd) {k : Nat} (hk : 11 ≤ k) {g_Plain_all_rows : List Da → Mo Da} (C_Plain_all_rows : CalM P wd K mg base k "Plain" "all_rows" 3 g_Plain_all_rows []) : FnOk P wd K mg base (L2.CX P wd) (k + 1) (He.ma K (He.ga K "Plain") "tried") fd ["self", "row", "boxes"] (SpOf K 3 (fnM 14 (m_Plain_tried g_Plain_all_rows))) := by
  refine ok_of F sc_Plain_tried rfl rfl fun cdv A outer s H E hr => ?_
  have nd := sc_Plain_tried.nd
  have hx : ∀ σ, PassesAt (L2.CX P wd) (cxOf (L2.CX P wd) P wd K mg base NN_Plain_tried "Plain.tried" (defScope S_Plain_tried) (He.ma K (He.ga K "Plain") "tried") cdv A outer s H E) σ E := fun σ => passAt (W := fun cls d _ H => E cls d H) (takes_of rfl rfl rfl rfl) σ
  have hx0 : ∀ {X : Cx} (σ : L2.St), PassesAt (L2.CX X.prog X.w) X σ E0 := fun σ pins H s e s' I c => passL pins σ H s e s' I c
  have po : PassesOwn (model P wd) (cxOf (L2.CX P wd) P wd K mg base NN_Plain_tried "Plain.tried" (defScope S_Plain_tried) (He.ma K (He.ga K "Plain") "tried") cdv A outer s H E).A (cxOf (L2.CX P wd) P wd K mg base NN_Plain_tried "Plain.tried" (defScope S_Plain_tried) (He.ma K (He.ga K "Plain") "tried") cdv A outer s H E).env (cxOf (L2.CX P wd) P wd K mg base NN_Plain_tried "Plain.tried" (defScope S_Plain_tried) (He.ma K (He.ga K "Plain") "tried") cdv A outer s H E).xe := passes_of rfl
  have qq : QB (cxOf (L2.CX P wd) P wd K mg base NN_Plain_tried "Plain.tried" (defScope S_Plain_tried) (He.ma K (He.ga K "Plain") "tried") cdv A outer s H E) (fun _ => E) (defBody S_Plain_tried) _ (m_Plain_tried g_Plain_all_rows) :=
  (qb_cons (qs_tgt (qg_tup 4 (by rfl) (qgs_cons (qg_name 3 nd) (qgs_cons (qg_name 4 nd) (qgs_cons (qg_name 5 nd) (qgs_cons (qg_name 6 nd) qgs_nil))))) (q_var 1))
  (qb_cons (qs_set 7 nd (q_meth C_Plain_all_rows (hr.mono (by omega)) hx (q_var 0) (qa_cons (q_var 4) (qa_cons (q_var 2) qa_nil))))
  (qb_cons (qs_if (qt_cmp (q_eq hr.units) (q_sub1 (q_var 7) q_int) q_str) (qb_cons (by exact qs_setLc 8 (by rfl) nd (qi_v (q_var 5)) (blkOk_by (own := [("one", 13)]) (N := NN_Plain_tried) (sc := defScope S_Plain_tried) (by decide +kernel)) (fun _ _ _ _ _ => (qg_name 13 nd)) (fun _ _ _ _ _ => (qts_one (qt_w (qw_or (qt_cmp q_is (q_sub1 (q_var 13) q_int) q_non) (qw_or1 (qt_cmp (q_eq hr.units) (q_sub1 (q_var 13) q_int) (q_sub1 (q_var 7) q_int))))))) (fun _ _ _ _ _ => (q_var 13)) eL s_L (sw_true rfl rfl rfl (by decide +kernel)))
  (qb_one (qs_if (qt_cmp (q_ne hr.units) (q_var 8) (q_L (ql_disp qa_nil))) (qb_cons (qs_tgt (qg_tup 3 (by rfl) (qgs_cons (qg_name 10 nd) (qgs_cons (qg_name 11 nd) (qgs_cons (qg_name 12 nd) qgs_nil)))) (q_sub1 (q_var 8) q_int))
  (qb_cons (qs_setI (q_sub1 (q_var 7) q_int) (q_var 2) (q_var 11))
  (qb_one (qs_set 7 nd (q_meth C_Plain_all_rows (hr.mono (by omega)) hx (q_var 0) (qa_cons (q_var 12) (qa_cons (q_var 2) qa_nil))))))) qb_nil))) qb_nil)
  (qb_cons (qs_if (qt_cmp q_isNot (q_var 6) q_non) (qb_cons (qs_set 9 nd (q_meth C_Plain_all_rows (hr.mono (by omega)) hx (q_var 0) (qa_cons (q_var 6) (qa_cons (q_var 2) qa_nil))))
  (qb_one (qs_set 7 nd (q_ifx (qt_cmp (q_eq hr.units) (q_sub1 (q_var 9) q_int) q_str) (q_var 7) (q_var 9))))) qb_nil)
  (qb_one (qs_ret (q_var 7)))))))
  exact ⟨_, qq.ps, qq.ss⟩
theorem ok_Plain_tried (T : Tx K mg) {k : Nat} (hk : 11 ≤ k) {g_Plain_all_rows : List Da → Mo Da} (C_Plain_all_rows : CalM P wd K mg base k "Plain" "all_rows" 3 g_Plain_all_rows []) : CalM P wd K mg base (k + 1) "Plain" "tried" 3 (fnM 14 (m_Plain_tried g_Plain_all_rows)) [] := by
  obtain ⟨⟨h1, h2⟩, fd, F⟩ := T.d_Plain_tried
  exact ⟨⟨_, fd, _, [], h1, h2, F.bindsN (ps := ["self", "row", "boxes"]) fun _ _ _ _ _ _ us hl => match us, hl with | [_, _, _], _ => rfl, .nil, okf_Plain_tried T F hk C_Plain_all_rows⟩⟩
theorem okf_Plain_called (T : Tx K mg) {fd : FuncData} (F : FunD K "called" "Plain.called" (defArgs S_Plain_called) (defBody S_Plain_called) (defScope S_Plain_called) [] [] (He.ma K (He.ga K "Plain") "called") fd) {k : Nat} (hk : 11 ≤ k) {g_Plain_function : List Da → Mo Da} (C_Plain_worth : CalM P wd K mg base 11 "Plain" "worth" 3 (f_Plain_worth 10) []) (C_Plain_function : CalM P wd K mg base k "Plain" "function" 3 g_Plain_function []) : FnOk P wd K mg base (L2.CX P wd) (k + 1) (He.ma K (He.ga K "Plain") "called") fd ["self", "row", "boxes"] (SpOf K 3 (fnM 10 (m_Plain_called (f_Plain_worth 10) g_Plain_function))) := by
  refine ok_of F sc_Plain_called rfl rfl fun cdv A outer s H E hr => ?_
  have nd := sc_Plain_called.nd
  have hx : ∀ σ, PassesAt (L2.CX P wd) (cxOf (L2.CX P wd) P wd K mg base NN_Plain_called "Plain.called" (defScope S_Plain_called) (He.ma K (He.ga K "Plain") "called") cdv A outer s H E) σ E := fun σ => passAt (W := fun cls d _ H => E cls d H) (takes_of rfl rfl rfl rfl) σ
  have hx0 : ∀ {X : Cx} (σ : L2.St), PassesAt (L2.CX X.prog X.w) X σ E0 := fun σ pins H s e s' I c => passL pins σ H s e s' I c
  have po : PassesOwn (model P wd) (cxOf (L2.CX P wd) P wd K mg base NN_Plain_called "Plain.called" (defScope S_Plain_called) (He.ma K (He.ga K "Plain") "called") cdv A outer s H E).A (cxOf (L2.CX P wd) P wd K mg base NN_Plain_called "Plain.called" (defScope S_Plain_called) (He.ma K (He.ga K "Plain") "called") cdv A outer s H E).env (cxOf (L2.CX P wd) P wd K mg base NN_Plain_called "Plain.called" (defScope S_Plain_called) (He.ma K (He.ga K "Plain") "called") cdv A outer s H E).xe := passes_of rfl
  have qq : QB (cxOf (L2.CX P wd) P wd K mg base NN_Plain_called "Plain.called" (defScope S_Plain_called) (He.ma K (He.ga K "Plain") "called") cdv A outer s H E) (fun _ => E) (defBody S_Plain_called) _ (m_Plain_called (f_Plain_worth 10) g_Plain_function) :=
  (qb_cons (qs_tgt (qg_tup 4 (by rfl) (qgs_cons (qg_name 3 nd) (qgs_cons (qg_name 4 nd) (qgs_cons (qg_name 5 nd) (qgs_cons (qg_name 6 nd) qgs_nil))))) (q_var 1))
  (qb_cons (qs_set 7 nd (q_H (ql_disp qa_nil)))
  (qb_cons (qs_for po (by rfl) (qi_v (q_var 6)) (qg_name 8 nd) (qb_cons (qs_set 9 nd (q_meth C_Plain_worth (hr.mono (by omega)) hx (q_var 0) (qa_cons (q_var 8) (qa_cons (q_var 2) qa_nil))))
  (qb_cons (qs_if (qt_cmp (q_ne hr.units) (q_sub1 (q_var 9) q_int) q_str) (qb_one (qs_ret (q_var 9))) qb_nil)
  (qb_one (qs_expr (q_app (q_var 7) (q_sub1 (q_var 9) q_int)))))))
  (qb_cons (qs_set 9 nd (q_meth C_Plain_function (hr.mono (by omega)) hx (q_var 0) (qa_cons (q_var 5) (qa_cons (q_var 7) qa_nil))))
  (qb_cons (qs_if (qt_cmp (q_eq hr.units) (q_sub1 (q_var 9) q_int) q_str) (qb_cons (qs_setI (q_sub1 (q_var 9) q_int) (q_var 2) (q_var 4))
  (qb_one (qs_ret (q_gdat T.c_ON T.r_ON)))) qb_nil)
  (qb_one (qs_ret (q_var 9))))))))
  exact ⟨_, qq.ps, qq.ss⟩
theorem ok_Plain_called (T : Tx K mg) {k : Nat} (hk : 11 ≤ k) {g_Plain_function : List Da → Mo Da} (C_Plain_worth : CalM P wd K mg base 11 "Plain" "worth" 3 (f_Plain_worth 10) []) (C_Plain_function : CalM P wd K mg base k "Plain" "function" 3 g_Plain_function []) : CalM P wd K mg base (k + 1) "Plain" "called" 3 (fnM 10 (m_Plain_called (f_Plain_worth 10) g_Plain_function)) [] := by
  obtain ⟨⟨h1, h2⟩, fd, F⟩ := T.d_Plain_called
  exact ⟨⟨_, fd, _, [], h1, h2, F.bindsN (ps := ["self", "row", "boxes"]) fun _ _ _ _ _ _ us hl => match us, hl with | [_, _, _], _ => rfl, .nil, okf_Plain_called T F hk C_Plain_worth C_Plain_function⟩⟩
theorem okf_Plain_function (T : Tx K mg) {fd : FuncData} (F : FunD K "function" "Plain.function" (defArgs S_Plain_function) (defBody S_Plain_function) (defScope S_Plain_function) [] [] (He.ma K (He.ga K "Plain") "function") fd) {k : Nat} (hk : 11 ≤ k) {g_Plain_all_rows : List Da → Mo Da} (C_Plain_all_rows : CalM P wd K mg base k "Plain" "all_rows" 3 g_Plain_all_rows []) : FnOk P wd K mg base (L2.CX P wd) (k + 1) (He.ma K (He.ga K "Plain") "function") fd ["self", "goal", "own"] (SpOf K 3 (fnM 5 (m_Plain_function g_Plain_all_rows))) := by
  refine ok_of F sc_Plain_function rfl rfl fun cdv A outer s H E hr => ?_
  have nd := sc_Plain_function.nd
  have hx : ∀ σ, PassesAt (L2.CX P wd) (cxOf (L2.CX P wd) P wd K mg base NN_Plain_function "Plain.function" (defScope S_Plain_function) (He.ma K (He.ga K "Plain") "function") cdv A outer s H E) σ E := fun σ => passAt (W := fun cls d _ H => E cls d H) (takes_of rfl rfl rfl rfl) σ
  have hx0 : ∀ {X : Cx} (σ : L2.St), PassesAt (L2.CX X.prog X.w) X σ E0 := fun σ pins H s e s' I c => passL pins σ H s e s' I c
  have po : PassesOwn (model P wd) (cxOf (L2.CX P wd) P wd K mg base NN_Plain_function "Plain.function" (defScope S_Plain_function) (He.ma K (He.ga K "Plain") "function") cdv A outer s H E).A (cxOf (L2.CX P wd) P wd K mg base NN_Plain_function "Plain.function" (defScope S_Plain_function) (He.ma K (He.ga K "Plain") "function") cdv A outer s H E).env (cxOf (L2.CX P wd) P wd K mg base NN_Plain_function "Plain.function" (defScope S_Plain_function) (He.ma K (He.ga K "Plain") "function") cdv A outer s H E).xe := passes_of rfl
  have qq : QB (cxOf (L2.CX P wd) P wd K mg base NN_Plain_function "Plain.function" (defScope S_Plain_function) (He.ma K (He.ga K "Plain") "function") cdv A outer s H E) (fun _ => E) (defBody S_Plain_function) _ (m_Plain_function g_Plain_all_rows) :=
  (qb_cons (qs_set 3 nd (q_H (ql_op ql_cat (q_var 2) (q_L (ql_op ql_rep (q_L (ql_disp (qa_cons q_int qa_nil))) (q_op q_sub (q_gint T.c_BOXES) (q_len T.n_len (qa_cons (q_var 2) qa_nil))))))))
  (qb_cons (qs_set 4 nd (q_meth C_Plain_all_rows (hr.mono (by omega)) hx (q_var 0) (qa_cons (q_sub1 (q_sub1 (q_fld T.q_Plain_program (q_var 0)) (q_var 1)) q_int) (qa_cons (q_var 3) qa_nil))))
  (qb_one (qs_ret (q_ifx (qt_cmp (q_eq hr.units) (q_sub1 (q_var 4) q_int) q_str) (q_tup (qa_cons q_str (qa_cons q_int qa_nil))) (q_var 4))))))
  exact ⟨_, qq.ps, qq.ss⟩
theorem ok_Plain_function (T : Tx K mg) {k : Nat} (hk : 11 ≤ k) {g_Plain_all_rows : List Da → Mo Da} (C_Plain_all_rows : CalM P wd K mg base k "Plain" "all_rows" 3 g_Plain_all_rows []) : CalM P wd K mg base (k + 1) "Plain" "function" 3 (fnM 5 (m_Plain_function g_Plain_all_rows)) [] := by
  obtain ⟨⟨h1, h2⟩, fd, F⟩ := T.d_Plain_function
  exact ⟨⟨_, fd, _, [], h1, h2, F.bindsN (ps := ["self", "goal", "own"]) fun _ _ _ _ _ _ us hl => match us, hl with | [_, _, _], _ => rfl, .nil, okf_Plain_function T F hk C_Plain_all_rows⟩⟩
theorem z_Plain_all_rows (T : Tx K mg) : CalM P wd K mg base 11 "Plain" "all_rows" 3 (f_Plain_all_rows 0) [] := by
  obtain ⟨⟨h1, h2⟩, fd, F⟩ := T.d_Plain_all_rows
  exact ⟨⟨_, fd, _, [], h1, h2, F.bindsN (ps := ["self", "body", "boxes"]) fun _ _ _ _ _ _ us hl => match us, hl with | [_, _, _], _ => rfl, .nil, fn0 (k := 10) F sc_Plain_all_rows rfl⟩⟩
theorem z_Plain_row (T : Tx K mg) : CalM P wd K mg base 11 "Plain" "row" 3 (f_Plain_row 0) [] := by
  obtain ⟨⟨h1, h2⟩, fd, F⟩ := T.d_Plain_row
  exact ⟨⟨_, fd, _, [], h1, h2, F.bindsN (ps := ["self", "row", "boxes"]) fun _ _ _ _ _ _ us hl => match us, hl with | [_, _, _], _ => rfl, .nil, fn0 (k := 10) F sc_Plain_row rfl⟩⟩
theorem z_Plain_looped (T : Tx K mg) : CalM P wd K mg base 11 "Plain" "looped" 3 (f_Plain_looped 0) [] := by
  obtain ⟨⟨h1, h2⟩, fd, F⟩ := T.d_Plain_looped
  exact ⟨⟨_, fd, _, [], h1, h2, F.bindsN (ps := ["self", "row", "boxes"]) fun _ _ _ _ _ _ us hl => match us, hl with | [_, _, _], _ => rfl, .nil, fn0 (k := 10) F sc_Plain_looped rfl⟩⟩
theorem z_Plain_tried (T : Tx K mg) : CalM P wd K mg base 11 "Plain" "tried" 3 (f_Plain_tried 0) [] := by
  obtain ⟨⟨h1, h2⟩, fd, F⟩ := T.d_Plain_tried
  exact ⟨⟨_, fd, _, [], h1, h2, F.bindsN (ps := ["self", "row", "boxes"]) fun _ _ _ _ _ _ us hl => match us, hl with | [_, _, _], _ => rfl, .nil, fn0 (k := 10) F sc_Plain_tried rfl⟩⟩
theorem z_Plain_called (T : Tx K mg) : CalM P wd K mg base 11 "Plain" "called" 3 (f_Plain_called 0) [] := by
  obtain ⟨⟨h1, h2⟩, fd, F⟩ := T.d_Plain_called
  exact ⟨⟨_, fd, _, [], h1, h2, F.bindsN (ps := ["self", "row", "boxes"]) fun _ _ _ _ _ _ us hl => match us, hl with | [_, _, _], _ => rfl, .nil, fn0 (k := 10) F sc_Plain_called rfl⟩⟩
theorem z_Plain_function (T : Tx K mg) : CalM P wd K mg base 11 "Plain" "function" 3 (f_Plain_function 0) [] := by
  obtain ⟨⟨h1, h2⟩, fd, F⟩ := T.d_Plain_function
  exact ⟨⟨_, fd, _, [], h1, h2, F.bindsN (ps := ["self", "goal", "own"]) fun _ _ _ _ _ _ us hl => match us, hl with | [_, _, _], _ => rfl, .nil, fn0 (k := 10) F sc_Plain_function rfl⟩⟩
theorem recs_Plain_all_rows (T : Tx K mg) (C_Plain_worth : CalM P wd K mg base 11 "Plain" "worth" 3 (f_Plain_worth 10) []) : ∀ n : Nat, (CalM P wd K mg base (11 + n) "Plain" "all_rows" 3 (f_Plain_all_rows n) []) ∧ (CalM P wd K mg base (11 + n) "Plain" "row" 3 (f_Plain_row n) []) ∧ (CalM P wd K mg base (11 + n) "Plain" "looped" 3 (f_Plain_looped n) []) ∧ (CalM P wd K mg base (11 + n) "Plain" "tried" 3 (f_Plain_tried n) []) ∧ (CalM P wd K mg base (11 + n) "Plain" "called" 3 (f_Plain_called n) []) ∧ (CalM P wd K mg base (11 + n) "Plain" "function" 3 (f_Plain_function n) []) := by
  intro n
  induction n with
  | zero => exact ⟨z_Plain_all_rows T, z_Plain_row T, z_Plain_looped T, z_Plain_tried T, z_Plain_called T, z_Plain_function T⟩
  | succ n ih =>
    obtain ⟨C_Plain_all_rows, C_Plain_row, C_Plain_looped, C_Plain_tried, C_Plain_called, C_Plain_function⟩ := ih
    exact ⟨ok_Plain_all_rows T (k := 11 + n) (by omega) C_Plain_row,
      ok_Plain_row T (k := 11 + n) (by omega) C_Plain_looped C_Plain_tried C_Plain_called C_Plain_worth C_Plain_all_rows,
      ok_Plain_looped T (k := 11 + n) (by omega) C_Plain_all_rows,
      ok_Plain_tried T (k := 11 + n) (by omega) C_Plain_all_rows,
      ok_Plain_called T (k := 11 + n) (by omega) C_Plain_worth C_Plain_function,
      ok_Plain_function T (k := 11 + n) (by omega) C_Plain_all_rows⟩
theorem okf_look_number (T : Tx K mg) {fd : FuncData} (F : FunD K "look_number" "look_number" (defArgs S_look_number) (defBody S_look_number) (defScope S_look_number) [] [] (He.ga K "look_number") fd)  (C_is_whole : Cal P wd K mg base 1 "is_whole" 3 f_is_whole []) : FnOk P wd K mg base (L2.CX P wd) (2) (He.ga K "look_number") fd ["thing", "low", "high"] (SpOf K 3 f_look_number) := by
  refine ok_of F sc_look_number rfl rfl fun cdv A outer s H E hr => ?_
  have nd := sc_look_number.nd
  have hx : ∀ σ, PassesAt (L2.CX P wd) (cxOf (L2.CX P wd) P wd K mg base NN_look_number "look_number" (defScope S_look_number) (He.ga K "look_number") cdv A outer s H E) σ E := fun σ => passAt (W := fun cls d _ H => E cls d H) (takes_of rfl rfl rfl rfl) σ
  have hx0 : ∀ {X : Cx} (σ : L2.St), PassesAt (L2.CX X.prog X.w) X σ E0 := fun σ pins H s e s' I c => passL pins σ H s e s' I c
  have po : PassesOwn (model P wd) (cxOf (L2.CX P wd) P wd K mg base NN_look_number "look_number" (defScope S_look_number) (He.ga K "look_number") cdv A outer s H E).A (cxOf (L2.CX P wd) P wd K mg base NN_look_number "look_number" (defScope S_look_number) (He.ga K "look_number") cdv A outer s H E).env (cxOf (L2.CX P wd) P wd K mg base NN_look_number "look_number" (defScope S_look_number) (He.ga K "look_number") cdv A outer s H E).xe := passes_of rfl
  have qq : QB (cxOf (L2.CX P wd) P wd K mg base NN_look_number "look_number" (defScope S_look_number) (He.ga K "look_number") cdv A outer s H E) (fun _ => E) (defBody S_look_number) _ (m_look_number f_is_whole) :=
  (qb_one (qs_if (qt_not (qt_val (q_call C_is_whole (hr.mono (by omega)) hx (qa_cons (q_var 0) (qa_cons (q_var 1) (qa_cons (q_var 2) qa_nil)))))) (qb_one qs_never) qb_nil))
  exact ⟨_, qq.ps, qq.ss⟩
theorem ok_look_number (T : Tx K mg)  (C_is_whole : Cal P wd K mg base 1 "is_whole" 3 f_is_whole []) : Cal P wd K mg base (2) "look_number" 3 f_look_number [] := by
  obtain ⟨h1, fd, F⟩ := T.d_look_number
  exact ⟨⟨_, fd, _, [], h1, F.kp, F.bindsN (ps := ["thing", "low", "high"]) fun _ _ _ _ _ _ us hl => match us, hl with | [_, _, _], _ => rfl, .nil, okf_look_number T F  C_is_whole⟩⟩
theorem okf_meaning (T : Tx K mg) {fd : FuncData} (F : FunD K "meaning" "meaning" (defArgs S_meaning) (defBody S_meaning) (defScope S_meaning) [] [("goal", (.int 0)), ("worths", (.ref (kwA ("meaning", none) "worths" K)))] (He.ga K "meaning") fd)  (C_Plain___init__ : CalC P wd K mg base 45 "Plain" 2 f_Plain___init__ []) (C_look_number : Cal P wd K mg base 2 "look_number" 3 f_look_number []) (C_is_whole : Cal P wd K mg base 1 "is_whole" 3 f_is_whole []) (C_Plain_function : CalM P wd K mg base 101 "Plain" "function" 3 (f_Plain_function 90) []) : FnOk P wd K mg base (L2.CX P wd) (102) (He.ga K "meaning") fd ["program", "goal", "worths"] (SpOf K 3 f_meaning) := by
  refine ok_of F sc_meaning rfl rfl fun cdv A outer s H E hr => ?_
  have nd := sc_meaning.nd
  have hx : ∀ σ, PassesAt (L2.CX P wd) (cxOf (L2.CX P wd) P wd K mg base NN_meaning "meaning" (defScope S_meaning) (He.ga K "meaning") cdv A outer s H E) σ E := fun σ => passAt (W := fun cls d _ H => E cls d H) (takes_of rfl rfl rfl rfl) σ
  have hx0 : ∀ {X : Cx} (σ : L2.St), PassesAt (L2.CX X.prog X.w) X σ E0 := fun σ pins H s e s' I c => passL pins σ H s e s' I c
  have po : PassesOwn (model P wd) (cxOf (L2.CX P wd) P wd K mg base NN_meaning "meaning" (defScope S_meaning) (He.ga K "meaning") cdv A outer s H E).A (cxOf (L2.CX P wd) P wd K mg base NN_meaning "meaning" (defScope S_meaning) (He.ga K "meaning") cdv A outer s H E).env (cxOf (L2.CX P wd) P wd K mg base NN_meaning "meaning" (defScope S_meaning) (He.ga K "meaning") cdv A outer s H E).xe := passes_of rfl
  have qq : QB (cxOf (L2.CX P wd) P wd K mg base NN_meaning "meaning" (defScope S_meaning) (He.ga K "meaning") cdv A outer s H E) (fun _ => E) (defBody S_meaning) _ (m_meaning f_Plain___init__ f_look_number f_is_whole (f_Plain_function 90)) :=
  (qb_cons (qs_set 3 nd (q_make C_Plain___init__ (hr.mono (by omega)) hx (qa_cons (q_var 0) qa_nil)))
  (qb_cons (qs_expr (q_call C_look_number (hr.mono (by omega)) hx (qa_cons (q_var 1) (qa_cons q_int (qa_cons (q_op q_sub (q_len T.n_len (qa_cons (q_var 0) qa_nil)) q_int) qa_nil)))))
  (qb_cons (qs_set 4 nd (q_and (q_isi2 .list .tuple T.n_isinstance T.n_list T.n_tuple (q_var 2)) (q_one (q_cmp (q_eq hr.units) (q_len T.n_len (qa_cons (q_var 2) qa_nil)) (q_sub1 (q_sub1 (q_var 0) (q_var 1)) q_int)))))
  (qb_cons (qs_if (qt_w (qw_or (qt_not (qt_val (q_var 4))) (qw_or1 (qt_not (qt_val (q_all (by rfl) T.n_all (qa_cons (q_L (by exact ql_comp (by rfl) nd (qi_v (q_var 2)) (blkOk_by (own := [("one", 6)]) (N := NN_meaning) (sc := defScope S_meaning) (by decide +kernel)) (fun _ _ _ _ _ => (qg_name 6 nd)) (fun _ _ _ _ _ => qts_nil) (fun _ _ _ _ _ => (q_call C_is_whole (hr.mono (by omega)) hx0 (qa_cons (q_var 6) (qa_cons q_int (qa_cons (q_gint T.c_MOST_VALUE) qa_nil))))))) qa_nil))))))) (qb_one qs_never) qb_nil)
  (qb_cons (qs_set 5 nd (q_meth C_Plain_function (hr.mono (by omega)) hx (q_var 3) (qa_cons (q_var 1) (qa_cons (q_L (ql_listOf T.n_list (qa_cons (q_var 2) qa_nil))) qa_nil))))
  (qb_one (qs_ret (q_tup (qa_cons (q_var 5) (qa_cons (q_L (ql_listOf T.n_list (qa_cons (q_fld T.q_Plain_told (q_var 3)) qa_nil))) qa_nil))))))))))
  exact ⟨_, qq.ps, qq.ss⟩
theorem ok_meaning (T : Tx K mg)  (C_Plain___init__ : CalC P wd K mg base 45 "Plain" 2 f_Plain___init__ []) (C_look_number : Cal P wd K mg base 2 "look_number" 3 f_look_number []) (C_is_whole : Cal P wd K mg base 1 "is_whole" 3 f_is_whole []) (C_Plain_function : CalM P wd K mg base 101 "Plain" "function" 3 (f_Plain_function 90) []) : Cal P wd K mg base (102) "meaning" 3 f_meaning [(.int 0), (.ref (kwA ("meaning", none) "worths" K))] := by
  obtain ⟨h1, fd, F⟩ := T.d_meaning
  obtain ⟨ds, hv, hb⟩ := F.binds0 (ps := ["program", "goal", "worths"]) 1 (by simp) rfl fun D doc pm an cdv ct us ks h1 h2 => match us, ks, h1, h2 with | [_], [_, _], _, _ => ⟨_, _, _, _, _, _, rfl, rfl, ⟨_, _, _, _, _, _, rfl, rfl, rfl⟩⟩
  exact ⟨⟨_, fd, _, ds, h1, F.kp, hb, hv, okf_meaning T F  C_Plain___init__ C_look_number C_is_whole C_Plain_function⟩⟩
theorem okf__law_town (T : Tx K mg) {fd : FuncData} (F : FunD K "_law_town" "_law_town" (defArgs S__law_town) (defBody S__law_town) (defScope S__law_town) [] [] (He.ga K "_law_town") fd)   : FnOk P wd K mg base (L2.CX P wd) (1) (He.ga K "_law_town") fd ["script"] (SpOf K 1 f__law_town) := by
  refine ok_of F sc__law_town rfl rfl fun cdv A outer s H E hr => ?_
  have nd := sc__law_town.nd
  have hx : ∀ σ, PassesAt (L2.CX P wd) (cxOf (L2.CX P wd) P wd K mg base NN__law_town "_law_town" (defScope S__law_town) (He.ga K "_law_town") cdv A outer s H E) σ E := fun σ => passAt (W := fun cls d _ H => E cls d H) (takes_of rfl rfl rfl rfl) σ
  have hx0 : ∀ {X : Cx} (σ : L2.St), PassesAt (L2.CX X.prog X.w) X σ E0 := fun σ pins H s e s' I c => passL pins σ H s e s' I c
  have po : PassesOwn (model P wd) (cxOf (L2.CX P wd) P wd K mg base NN__law_town "_law_town" (defScope S__law_town) (He.ga K "_law_town") cdv A outer s H E).A (cxOf (L2.CX P wd) P wd K mg base NN__law_town "_law_town" (defScope S__law_town) (He.ga K "_law_town") cdv A outer s H E).env (cxOf (L2.CX P wd) P wd K mg base NN__law_town "_law_town" (defScope S__law_town) (He.ga K "_law_town") cdv A outer s H E).xe := passes_of rfl
  have qq : QB (cxOf (L2.CX P wd) P wd K mg base NN__law_town "_law_town" (defScope S__law_town) (He.ga K "_law_town") cdv A outer s H E) (fun _ => E) (defBody S__law_town) _ (m__law_town ) :=
  (qb_one (qs_ret (q_H (ql_disp (qa_cons (q_ifx (qt_cmp (q_ne hr.units) (q_var 0) (q_L (ql_disp qa_nil))) (q_H (ql_listOf T.n_list (qa_cons (q_var 0) qa_nil))) (q_H (ql_disp (qa_cons q_int qa_nil)))) (qa_cons q_int qa_nil))))))
  exact ⟨_, qq.ps, qq.ss⟩
theorem ok__law_town (T : Tx K mg)   : Cal P wd K mg base (1) "_law_town" 1 f__law_town [] := by
  obtain ⟨h1, fd, F⟩ := T.d__law_town
  exact ⟨⟨_, fd, _, [], h1, F.kp, F.bindsN (ps := ["script"]) fun _ _ _ _ _ _ us hl => match us, hl with | [_], _ => rfl, .nil, okf__law_town T F  ⟩⟩
theorem okf__law_draw (T : Tx K mg) {fd : FuncData} (F : FunD K "_law_draw" "_law_draw" (defArgs S__law_draw) (defBody S__law_draw) (defScope S__law_draw) [] [] (He.ga K "_law_draw") fd)   : FnOk P wd K mg base (L2.CX P wd) (1) (He.ga K "_law_draw") fd ["town", "many"] (SpOf K 2 f__law_draw) := by
  refine ok_of F sc__law_draw rfl rfl fun cdv A outer s H E hr => ?_
  have nd := sc__law_draw.nd
  have hx : ∀ σ, PassesAt (L2.CX P wd) (cxOf (L2.CX P wd) P wd K mg base NN__law_draw "_law_draw" (defScope S__law_draw) (He.ga K "_law_draw") cdv A outer s H E) σ E := fun σ => passAt (W := fun cls d _ H => E cls d H) (takes_of rfl rfl rfl rfl) σ
  have hx0 : ∀ {X : Cx} (σ : L2.St), PassesAt (L2.CX X.prog X.w) X σ E0 := fun σ pins H s e s' I c => passL pins σ H s e s' I c
  have po : PassesOwn (model P wd) (cxOf (L2.CX P wd) P wd K mg base NN__law_draw "_law_draw" (defScope S__law_draw) (He.ga K "_law_draw") cdv A outer s H E).A (cxOf (L2.CX P wd) P wd K mg base NN__law_draw "_law_draw" (defScope S__law_draw) (He.ga K "_law_draw") cdv A outer s H E).env (cxOf (L2.CX P wd) P wd K mg base NN__law_draw "_law_draw" (defScope S__law_draw) (He.ga K "_law_draw") cdv A outer s H E).xe := passes_of rfl
  have qq : QB (cxOf (L2.CX P wd) P wd K mg base NN__law_draw "_law_draw" (defScope S__law_draw) (He.ga K "_law_draw") cdv A outer s H E) (fun _ => E) (defBody S__law_draw) _ (m__law_draw ) :=
  (qb_cons (qs_set 2 nd (q_sub1 (q_var 0) q_int))
  (qb_cons (qs_setI (q_op q_add (q_sub1 (q_var 0) q_int) q_int) (q_var 0) q_int)
  (qb_cons (qs_set 3 nd (q_op q_mod (q_sub1 (q_var 0) q_int) (q_len T.n_len (qa_cons (q_var 2) qa_nil))))
  (qb_cons (qs_set 4 nd (q_sub1 (q_var 2) (q_var 3)))
  (qb_cons (qs_if (qt_cmp q_ge (q_var 4) q_int) (qb_cons (qs_setI (q_op q_fdiv (q_var 4) (q_var 1)) (q_var 2) (q_var 3))
  (qb_one (qs_ret (q_op q_mod (q_var 4) (q_var 1))))) qb_nil)
  (qb_cons (qs_set 5 nd (q_op q_mod (q_op q_add (q_var 4) (q_op q_mul q_int (q_sub1 (q_var 0) q_int))) q_int))
  (qb_cons (qs_set 5 nd (q_op q_mod (q_op q_pow (q_var 5) q_int) q_int))
  (qb_one (qs_ret (q_op q_mod (q_op q_fdiv (q_op q_mod (q_op q_add (q_op q_mul (q_op q_fdiv (q_var 5) q_int) q_int) (q_var 5)) q_int) q_int) (q_var 1)))))))))))
  exact ⟨_, qq.ps, qq.ss⟩
theorem ok__law_draw (T : Tx K mg)   : Cal P wd K mg base (1) "_law_draw" 2 f__law_draw [] := by
  obtain ⟨h1, fd, F⟩ := T.d__law_draw
  exact ⟨⟨_, fd, _, [], h1, F.kp, F.bindsN (ps := ["town", "many"]) fun _ _ _ _ _ _ us hl => match us, hl with | [_, _], _ => rfl, .nil, okf__law_draw T F  ⟩⟩
theorem okf__law_pick (T : Tx K mg) {fd : FuncData} (F : FunD K "_law_pick" "_law_pick" (defArgs S__law_pick) (defBody S__law_pick) (defScope S__law_pick) [] [] (He.ga K "_law_pick") fd)  (C__law_draw : Cal P wd K mg base 1 "_law_draw" 2 f__law_draw []) : FnOk P wd K mg base (L2.CX P wd) (2) (He.ga K "_law_pick") fd ["town", "some"] (SpOf K 2 f__law_pick) := by
  refine ok_of F sc__law_pick rfl rfl fun cdv A outer s H E hr => ?_
  have nd := sc__law_pick.nd
  have hx : ∀ σ, PassesAt (L2.CX P wd) (cxOf (L2.CX P wd) P wd K mg base NN__law_pick "_law_pick" (defScope S__law_pick) (He.ga K "_law_pick") cdv A outer s H E) σ E := fun σ => passAt (W := fun cls d _ H => E cls d H) (takes_of rfl rfl rfl rfl) σ
  have hx0 : ∀ {X : Cx} (σ : L2.St), PassesAt (L2.CX X.prog X.w) X σ E0 := fun σ pins H s e s' I c => passL pins σ H s e s' I c
  have po : PassesOwn (model P wd) (cxOf (L2.CX P wd) P wd K mg base NN__law_pick "_law_pick" (defScope S__law_pick) (He.ga K "_law_pick") cdv A outer s H E).A (cxOf (L2.CX P wd) P wd K mg base NN__law_pick "_law_pick" (defScope S__law_pick) (He.ga K "_law_pick") cdv A outer s H E).env (cxOf (L2.CX P wd) P wd K mg base NN__law_pick "_law_pick" (defScope S__law_pick) (He.ga K "_law_pick") cdv A outer s H E).xe := passes_of rfl
  have qq : QB (cxOf (L2.CX P wd) P wd K mg base NN__law_pick "_law_pick" (defScope S__law_pick) (He.ga K "_law_pick") cdv A outer s H E) (fun _ => E) (defBody S__law_pick) _ (m__law_pick f__law_draw) :=
  (qb_one (qs_ret (q_sub1 (q_var 1) (q_call C__law_draw (hr.mono (by omega)) hx (qa_cons (q_var 0) (qa_cons (q_len T.n_len (qa_cons (q_var 1) qa_nil)) qa_nil))))))
  exact ⟨_, qq.ps, qq.ss⟩
theorem ok__law_pick (T : Tx K mg)  (C__law_draw : Cal P wd K mg base 1 "_law_draw" 2 f__law_draw []) : Cal P wd K mg base (2) "_law_pick" 2 f__law_pick [] := by
  obtain ⟨h1, fd, F⟩ := T.d__law_pick
  exact ⟨⟨_, fd, _, [], h1, F.kp, F.bindsN (ps := ["town", "some"]) fun _ _ _ _ _ _ us hl => match us, hl with | [_, _], _ => rfl, .nil, okf__law_pick T F  C__law_draw⟩⟩
theorem okf__law_whole (T : Tx K mg) {fd : FuncData} (F : FunD K "_law_whole" "_law_whole" (defArgs S__law_whole) (defBody S__law_whole) (defScope S__law_whole) [] [] (He.ga K "_law_whole") fd)   : FnOk P wd K mg base (L2.CX P wd) (1) (He.ga K "_law_whole") fd ["thing"] (SpOf K 1 f__law_whole) := by
  refine ok_of F sc__law_whole rfl rfl fun cdv A outer s H E hr => ?_
  have nd := sc__law_whole.nd
  have hx : ∀ σ, PassesAt (L2.CX P wd) (cxOf (L2.CX P wd) P wd K mg base NN__law_whole "_law_whole" (defScope S__law_whole) (He.ga K "_law_whole") cdv A outer s H E) σ E := fun σ => passAt (W := fun cls d _ H => E cls d H) (takes_of rfl rfl rfl rfl) σ
  have hx0 : ∀ {X : Cx} (σ : L2.St), PassesAt (L2.CX X.prog X.w) X σ E0 := fun σ pins H s e s' I c => passL pins σ H s e s' I c
  have po : PassesOwn (model P wd) (cxOf (L2.CX P wd) P wd K mg base NN__law_whole "_law_whole" (defScope S__law_whole) (He.ga K "_law_whole") cdv A outer s H E).A (cxOf (L2.CX P wd) P wd K mg base NN__law_whole "_law_whole" (defScope S__law_whole) (He.ga K "_law_whole") cdv A outer s H E).env (cxOf (L2.CX P wd) P wd K mg base NN__law_whole "_law_whole" (defScope S__law_whole) (He.ga K "_law_whole") cdv A outer s H E).xe := passes_of rfl
  have qq : QB (cxOf (L2.CX P wd) P wd K mg base NN__law_whole "_law_whole" (defScope S__law_whole) (He.ga K "_law_whole") cdv A outer s H E) (fun _ => E) (defBody S__law_whole) _ (m__law_whole ) :=
  (qb_one (qs_ret (q_and (q_isi .int T.n_isinstance T.n_int (q_var 0)) (q_one (q_not (q_isi .bool T.n_isinstance T.n_bool (q_var 0)))))))
  exact ⟨_, qq.ps, qq.ss⟩
theorem ok__law_whole (T : Tx K mg)   : Cal P wd K mg base (1) "_law_whole" 1 f__law_whole [] := by
  obtain ⟨h1, fd, F⟩ := T.d__law_whole
  exact ⟨⟨_, fd, _, [], h1, F.kp, F.bindsN (ps := ["thing"]) fun _ _ _ _ _ _ us hl => match us, hl with | [_], _ => rfl, .nil, okf__law_whole T F  ⟩⟩
theorem okf__law_whole_list (T : Tx K mg) {fd : FuncData} (F : FunD K "_law_whole_list" "_law_whole_list" (defArgs S__law_whole_list) (defBody S__law_whole_list) (defScope S__law_whole_list) [] [] (He.ga K "_law_whole_list") fd)  (C__law_whole : Cal P wd K mg base 1 "_law_whole" 1 f__law_whole []) : FnOk P wd K mg base (L2.CX P wd) (2) (He.ga K "_law_whole_list") fd ["thing"] (SpOf K 1 f__law_whole_list) := by
  refine ok_of F sc__law_whole_list rfl rfl fun cdv A outer s H E hr => ?_
  have nd := sc__law_whole_list.nd
  have hx : ∀ σ, PassesAt (L2.CX P wd) (cxOf (L2.CX P wd) P wd K mg base NN__law_whole_list "_law_whole_list" (defScope S__law_whole_list) (He.ga K "_law_whole_list") cdv A outer s H E) σ E := fun σ => passAt (W := fun cls d _ H => E cls d H) (takes_of rfl rfl rfl rfl) σ
  have hx0 : ∀ {X : Cx} (σ : L2.St), PassesAt (L2.CX X.prog X.w) X σ E0 := fun σ pins H s e s' I c => passL pins σ H s e s' I c
  have po : PassesOwn (model P wd) (cxOf (L2.CX P wd) P wd K mg base NN__law_whole_list "_law_whole_list" (defScope S__law_whole_list) (He.ga K "_law_whole_list") cdv A outer s H E).A (cxOf (L2.CX P wd) P wd K mg base NN__law_whole_list "_law_whole_list" (defScope S__law_whole_list) (He.ga K "_law_whole_list") cdv A outer s H E).env (cxOf (L2.CX P wd) P wd K mg base NN__law_whole_list "_law_whole_list" (defScope S__law_whole_list) (He.ga K "_law_whole_list") cdv A outer s H E).xe := passes_of rfl
  have qq : QB (cxOf (L2.CX P wd) P wd K mg base NN__law_whole_list "_law_whole_list" (defScope S__law_whole_list) (He.ga K "_law_whole_list") cdv A outer s H E) (fun _ => E) (defBody S__law_whole_list) _ (m__law_whole_list f__law_whole) :=
  (qb_one (qs_ret (q_and (q_isi .list T.n_isinstance T.n_list (q_var 0)) (q_one (q_all (by rfl) T.n_all (qa_cons (q_L (by exact ql_comp (by rfl) nd (qi_v (q_var 0)) (blkOk_by (own := [("one", 1)]) (N := NN__law_whole_list) (sc := defScope S__law_whole_list) (by decide +kernel)) (fun _ _ _ _ _ => (qg_name 1 nd)) (fun _ _ _ _ _ => qts_nil) (fun _ _ _ _ _ => (q_call C__law_whole (hr.mono (by omega)) hx0 (qa_cons (q_var 1) qa_nil))))) qa_nil))))))
  exact ⟨_, qq.ps, qq.ss⟩
theorem ok__law_whole_list (T : Tx K mg)  (C__law_whole : Cal P wd K mg base 1 "_law_whole" 1 f__law_whole []) : Cal P wd K mg base (2) "_law_whole_list" 1 f__law_whole_list [] := by
  obtain ⟨h1, fd, F⟩ := T.d__law_whole_list
  exact ⟨⟨_, fd, _, [], h1, F.kp, F.bindsN (ps := ["thing"]) fun _ _ _ _ _ _ us hl => match us, hl with | [_], _ => rfl, .nil, okf__law_whole_list T F  C__law_whole⟩⟩
theorem okf__law_worth (T : Tx K mg) {fd : FuncData} (F : FunD K "_law_worth" "_law_worth" (defArgs S__law_worth) (defBody S__law_worth) (defScope S__law_worth) [] [] (He.ga K "_law_worth") fd) {k : Nat} (hk : 2 ≤ k) {g__law_worth : List Da → Mo Da} (C__law_draw : Cal P wd K mg base 1 "_law_draw" 2 f__law_draw []) (C__law_pick : Cal P wd K mg base 2 "_law_pick" 2 f__law_pick []) (C__law_worth : Cal P wd K mg base k "_law_worth" 2 g__law_worth []) : FnOk P wd K mg base (L2.CX P wd) (k + 1) (He.ga K "_law_worth") fd ["town", "deep"] (SpOf K 2 (fnM 4 (m__law_worth f__law_draw f__law_pick g__law_worth))) := by
  refine ok_of F sc__law_worth rfl rfl fun cdv A outer s H E hr => ?_
  have nd := sc__law_worth.nd
  have hx : ∀ σ, PassesAt (L2.CX P wd) (cxOf (L2.CX P wd) P wd K mg base NN__law_worth "_law_worth" (defScope S__law_worth) (He.ga K "_law_worth") cdv A outer s H E) σ E := fun σ => passAt (W := fun cls d _ H => E cls d H) (takes_of rfl rfl rfl rfl) σ
  have hx0 : ∀ {X : Cx} (σ : L2.St), PassesAt (L2.CX X.prog X.w) X σ E0 := fun σ pins H s e s' I c => passL pins σ H s e s' I c
  have po : PassesOwn (model P wd) (cxOf (L2.CX P wd) P wd K mg base NN__law_worth "_law_worth" (defScope S__law_worth) (He.ga K "_law_worth") cdv A outer s H E).A (cxOf (L2.CX P wd) P wd K mg base NN__law_worth "_law_worth" (defScope S__law_worth) (He.ga K "_law_worth") cdv A outer s H E).env (cxOf (L2.CX P wd) P wd K mg base NN__law_worth "_law_worth" (defScope S__law_worth) (He.ga K "_law_worth") cdv A outer s H E).xe := passes_of rfl
  have qq : QB (cxOf (L2.CX P wd) P wd K mg base NN__law_worth "_law_worth" (defScope S__law_worth) (He.ga K "_law_worth") cdv A outer s H E) (fun _ => E) (defBody S__law_worth) _ (m__law_worth f__law_draw f__law_pick g__law_worth) :=
  (qb_cons (qs_set 2 nd (q_call C__law_draw (hr.mono (by omega)) hx (qa_cons (q_var 0) (qa_cons q_int qa_nil))))
  (qb_cons (qs_if (qt_w (qw_or (qt_cmp (q_eq hr.units) (q_var 1) q_int) (qw_or1 (qt_cmp q_lt (q_var 2) q_int)))) (qb_one (qs_ret (q_call C__law_pick (hr.mono (by omega)) hx (qa_cons (q_var 0) (qa_cons (q_L (ql_disp (qa_cons (q_call C__law_draw (hr.mono (by omega)) hx (qa_cons (q_var 0) (qa_cons q_int qa_nil))) (qa_cons (q_tup (qa_cons q_str (qa_cons (q_call C__law_draw (hr.mono (by omega)) hx (qa_cons (q_var 0) (qa_cons q_int qa_nil))) qa_nil))) (qa_cons (q_call C__law_draw (hr.mono (by omega)) hx (qa_cons (q_var 0) (qa_cons q_int qa_nil))) qa_nil))))) qa_nil))))) qb_nil)
  (qb_cons (qs_set 3 nd (q_call C__law_pick (hr.mono (by omega)) hx (qa_cons (q_var 0) (qa_cons (q_L (ql_disp (qa_cons q_str (qa_cons q_str (qa_cons q_str (qa_cons q_str (qa_cons q_str qa_nil))))))) qa_nil))))
  (qb_one (qs_ret (q_tup (qa_cons (q_var 3) (qa_cons (q_call C__law_worth (hr.mono (by omega)) hx (qa_cons (q_var 0) (qa_cons (q_op q_sub (q_var 1) q_int) qa_nil))) (qa_cons (q_call C__law_worth (hr.mono (by omega)) hx (qa_cons (q_var 0) (qa_cons (q_op q_sub (q_var 1) q_int) qa_nil))) qa_nil)))))))))
  exact ⟨_, qq.ps, qq.ss⟩
theorem ok__law_worth (T : Tx K mg) {k : Nat} (hk : 2 ≤ k) {g__law_worth : List Da → Mo Da} (C__law_draw : Cal P wd K mg base 1 "_law_draw" 2 f__law_draw []) (C__law_pick : Cal P wd K mg base 2 "_law_pick" 2 f__law_pick []) (C__law_worth : Cal P wd K mg base k "_law_worth" 2 g__law_worth []) : Cal P wd K mg base (k + 1) "_law_worth" 2 (fnM 4 (m__law_worth f__law_draw f__law_pick g__law_worth)) [] := by
  obtain ⟨h1, fd, F⟩ := T.d__law_worth
  exact ⟨⟨_, fd, _, [], h1, F.kp, F.bindsN (ps := ["town", "deep"]) fun _ _ _ _ _ _ us hl => match us, hl with | [_, _], _ => rfl, .nil, okf__law_worth T F hk C__law_draw C__law_pick C__law_worth⟩⟩
theorem z__law_worth (T : Tx K mg) : Cal P wd K mg base 2 "_law_worth" 2 (f__law_worth 0) [] := by
  obtain ⟨h1, fd, F⟩ := T.d__law_worth
  exact ⟨⟨_, fd, _, [], h1, F.kp, F.bindsN (ps := ["town", "deep"]) fun _ _ _ _ _ _ us hl => match us, hl with | [_, _], _ => rfl, .nil, fn0 (k := 1) F sc__law_worth rfl⟩⟩
theorem recs__law_worth (T : Tx K mg) (C__law_draw : Cal P wd K mg base 1 "_law_draw" 2 f__law_draw []) (C__law_pick : Cal P wd K mg base 2 "_law_pick" 2 f__law_pick []) : ∀ n : Nat, (Cal P wd K mg base (2 + n) "_law_worth" 2 (f__law_worth n) []) := by
  intro n
  induction n with
  | zero => exact z__law_worth T
  | succ n ih =>
    have C__law_worth := ih
    exact ok__law_worth T (k := 2 + n) (by omega) C__law_draw C__law_pick C__law_worth
theorem okf__law_body (T : Tx K mg) {fd : FuncData} (F : FunD K "_law_body" "_law_body" (defArgs S__law_body) (defBody S__law_body) (defScope S__law_body) [] [] (He.ga K "_law_body") fd) {k : Nat} (hk : 10 ≤ k) {g__law_row : List Da → Mo Da} (C__law_pick : Cal P wd K mg base 2 "_law_pick" 2 f__law_pick []) (C__law_row : Cal P wd K mg base k "_law_row" 4 g__law_row []) : FnOk P wd K mg base (L2.CX P wd) (k + 1) (He.ga K "_law_body") fd ["town", "deep", "looped", "place"] (SpOf K 4 (fnM 5 (m__law_body f__law_pick g__law_row))) := by
  refine ok_of F sc__law_body rfl rfl fun cdv A outer s H E hr => ?_
  have nd := sc__law_body.nd
  have hx : ∀ σ, PassesAt (L2.CX P wd) (cxOf (L2.CX P wd) P wd K mg base NN__law_body "_law_body" (defScope S__law_body) (He.ga K "_law_body") cdv A outer s H E) σ E := fun σ => passAt (W := fun cls d _ H => E cls d H) (takes_of rfl rfl rfl rfl) σ
  have hx0 : ∀ {X : Cx} (σ : L2.St), PassesAt (L2.CX X.prog X.w) X σ E0 := fun σ pins H s e s' I c => passL pins σ H s e s' I c
  have po : PassesOwn (model P wd) (cxOf (L2.CX P wd) P wd K mg base NN__law_body "_law_body" (defScope S__law_body) (He.ga K "_law_body") cdv A outer s H E).A (cxOf (L2.CX P wd) P wd K mg base NN__law_body "_law_body" (defScope S__law_body) (He.ga K "_law_body") cdv A outer s H E).env (cxOf (L2.CX P wd) P wd K mg base NN__law_body "_law_body" (defScope S__law_body) (He.ga K "_law_body") cdv A outer s H E).xe := passes_of rfl
  have qq : QB (cxOf (L2.CX P wd) P wd K mg base NN__law_body "_law_body" (defScope S__law_body) (He.ga K "_law_body") cdv A outer s H E) (fun _ => E) (defBody S__law_body) _ (m__law_body f__law_pick g__law_row) :=
  (qb_one (qs_ret (q_L (by exact ql_comp (by rfl) nd (qi_r1 T.n_range (qa_cons (q_call C__law_pick (hr.mono (by omega)) hx (qa_cons (q_var 0) (qa_cons (q_ifx (qt_cmp q_gt (q_var 1) q_int) (q_L (ql_disp (qa_cons q_int (qa_cons q_int (qa_cons q_int (qa_cons q_int (qa_cons q_int qa_nil))))))) (q_L (ql_disp (qa_cons q_int (qa_cons q_int qa_nil))))) qa_nil))) qa_nil)) (blkOk_by (own := [("k", 4)]) (N := NN__law_body) (sc := defScope S__law_body) (by decide +kernel)) (fun _ _ _ _ _ => (qg_name 4 nd)) (fun _ _ _ _ _ => qts_nil) (fun _ _ _ _ _ => (q_call C__law_row (hr.mono (by omega)) hx0 (qa_cons (q_var 0) (qa_cons (q_var 1) (qa_cons (q_var 2) (qa_cons (q_var 3) qa_nil))))))))))
  exact ⟨_, qq.ps, qq.ss⟩
theorem ok__law_body (T : Tx K mg) {k : Nat} (hk : 10 ≤ k) {g__law_row : List Da → Mo Da} (C__law_pick : Cal P wd K mg base 2 "_law_pick" 2 f__law_pick []) (C__law_row : Cal P wd K mg base k "_law_row" 4 g__law_row []) : Cal P wd K mg base (k + 1) "_law_body" 4 (fnM 5 (m__law_body f__law_pick g__law_row)) [] := by
  obtain ⟨h1, fd, F⟩ := T.d__law_body
  exact ⟨⟨_, fd, _, [], h1, F.kp, F.bindsN (ps := ["town", "deep", "looped", "place"]) fun _ _ _ _ _ _ us hl => match us, hl with | [_, _, _, _], _ => rfl, .nil, okf__law_body T F hk C__law_pick C__law_row⟩⟩
theorem okf__law_row (T : Tx K mg) {fd : FuncData} (F : FunD K "_law_row" "_law_row" (defArgs S__law_row) (defBody S__law_row) (defScope S__law_row) [] [] (He.ga K "_law_row") fd) {k : Nat} (hk : 10 ≤ k) {g__law_body : List Da → Mo Da} (C__law_draw : Cal P wd K mg base 1 "_law_draw" 2 f__law_draw []) (C__law_worth : Cal P wd K mg base 10 "_law_worth" 2 (f__law_worth 8) []) (C__law_pick : Cal P wd K mg base 2 "_law_pick" 2 f__law_pick []) (C__law_body : Cal P wd K mg base k "_law_body" 4 g__law_body []) : FnOk P wd K mg base (L2.CX P wd) (k + 1) (He.ga K "_law_row") fd ["town", "deep", "looped", "place"] (SpOf K 4 (fnM 9 (m__law_row f__law_draw (f__law_worth 8) f__law_pick g__law_body))) := by
  refine ok_of F sc__law_row rfl rfl fun cdv A outer s H E hr => ?_
  have nd := sc__law_row.nd
  have hx : ∀ σ, PassesAt (L2.CX P wd) (cxOf (L2.CX P wd) P wd K mg base NN__law_row "_law_row" (defScope S__law_row) (He.ga K "_law_row") cdv A outer s H E) σ E := fun σ => passAt (W := fun cls d _ H => E cls d H) (takes_of rfl rfl rfl rfl) σ
  have hx0 : ∀ {X : Cx} (σ : L2.St), PassesAt (L2.CX X.prog X.w) X σ E0 := fun σ pins H s e s' I c => passL pins σ H s e s' I c
  have po : PassesOwn (model P wd) (cxOf (L2.CX P wd) P wd K mg base NN__law_row "_law_row" (defScope S__law_row) (He.ga K "_law_row") cdv A outer s H E).A (cxOf (L2.CX P wd) P wd K mg base NN__law_row "_law_row" (defScope S__law_row) (He.ga K "_law_row") cdv A outer s H E).env (cxOf (L2.CX P wd) P wd K mg base NN__law_row "_law_row" (defScope S__law_row) (He.ga K "_law_row") cdv A outer s H E).xe := passes_of rfl
  have qq : QB (cxOf (L2.CX P wd) P wd K mg base NN__law_row "_law_row" (defScope S__law_row) (He.ga K "_law_row") cdv A outer s H E) (fun _ => E) (defBody S__law_row) _ (m__law_row f__law_draw (f__law_worth 8) f__law_pick g__law_body) :=
  (qb_cons (qs_if (qt_cmp q_lt (q_len T.n_len (qa_cons (q_var 0) qa_nil)) q_int) (qb_one (qs_expr (q_app (q_var 0) q_int))) qb_nil)
  (qb_cons (qs_setI (q_op q_add (q_sub1 (q_var 0) q_int) q_int) (q_var 0) q_int)
  (qb_cons (qs_if (qt_cmp q_gt (q_sub1 (q_var 0) q_int) q_int) (qb_one (qs_ret (q_tup (qa_cons q_str (qa_cons q_int qa_nil))))) qb_nil)
  (qb_cons (qs_set 1 nd (q_ifx (qt_cmp q_lt (q_sub1 (q_var 0) q_int) q_int) (q_var 1) q_int))
  (qb_cons (qs_set 4 nd (q_call C__law_draw (hr.mono (by omega)) hx (qa_cons (q_var 0) (qa_cons (q_ifx (qt_cmp q_gt (q_var 1) q_int) q_int q_int) qa_nil))))
  (qb_cons (qs_if (qt_cmp q_lt (q_var 4) q_int) (qb_one (qs_ret (q_tup (qa_cons q_str (qa_cons (q_call C__law_draw (hr.mono (by omega)) hx (qa_cons (q_var 0) (qa_cons q_int qa_nil))) (qa_cons (q_call C__law_worth (hr.mono (by omega)) hx (qa_cons (q_var 0) (qa_cons q_int qa_nil))) qa_nil)))))) qb_nil)
  (qb_cons (qs_if (qt_cmp q_lt (q_var 4) q_int) (qb_one (qs_ret (q_tup (qa_cons q_str (qa_cons (q_call C__law_worth (hr.mono (by omega)) hx (qa_cons (q_var 0) (qa_cons q_int qa_nil))) qa_nil))))) qb_nil)
  (qb_cons (qs_if (qt_cmp (q_eq hr.units) (q_var 4) q_int) (qb_one (qs_ret (q_tup (qa_cons q_str (qa_cons (q_op q_add q_int (q_call C__law_draw (hr.mono (by omega)) hx (qa_cons (q_var 0) (qa_cons q_int qa_nil)))) (qa_cons (q_call C__law_worth (hr.mono (by omega)) hx (qa_cons (q_var 0) (qa_cons q_int qa_nil))) qa_nil)))))) qb_nil)
  (qb_cons (qs_if (qt_cmp (q_eq hr.units) (q_var 4) q_int) (qb_one (qs_ret (q_ifx (qt_val (q_var 2)) (q_tup (qa_cons q_str qa_nil)) (q_tup (qa_cons q_str (qa_cons (q_call C__law_worth (hr.mono (by omega)) hx (qa_cons (q_var 0) (qa_cons q_int qa_nil))) qa_nil)))))) qb_nil)
  (qb_cons (qs_if (qt_cmp (q_eq hr.units) (q_var 4) q_int) (qb_cons (qs_set 8 nd (q_op q_add (q_sub1 (q_var 3) q_int) q_int))
  (qb_cons (qs_if (qt_cmp (q_eq hr.units) (q_var 8) (q_len T.n_len (qa_cons (q_sub1 (q_var 3) q_int) qa_nil))) (qb_one (qs_ret (q_call C__law_pick (hr.mono (by omega)) hx (qa_cons (q_var 0) (qa_cons (q_L (ql_disp (qa_cons (q_tup (qa_cons q_str (qa_cons (q_call C__law_worth (hr.mono (by omega)) hx (qa_cons (q_var 0) (qa_cons q_int qa_nil))) qa_nil))) (qa_cons (q_tup (qa_cons q_str (qa_cons q_int qa_nil))) qa_nil)))) qa_nil))))) qb_nil)
  (qb_cons (qs_set 8 nd (q_op q_add (q_var 8) (q_call C__law_draw (hr.mono (by omega)) hx (qa_cons (q_var 0) (qa_cons (q_op q_sub (q_len T.n_len (qa_cons (q_sub1 (q_var 3) q_int) qa_nil)) (q_var 8)) qa_nil)))))
  (qb_one (qs_ret (q_tup (qa_cons q_str (qa_cons (q_call C__law_draw (hr.mono (by omega)) hx (qa_cons (q_var 0) (qa_cons q_int qa_nil))) (qa_cons (q_var 8) (qa_cons (q_L (by exact ql_comp (by rfl) nd (qi_r1 T.n_range (qa_cons (q_sub1 (q_sub1 (q_var 3) q_int) (q_var 8)) qa_nil)) (blkOk_by (own := [("k", 6)]) (N := NN__law_row) (sc := defScope S__law_row) (by decide +kernel)) (fun _ _ _ _ _ => (qg_name 6 nd)) (fun _ _ _ _ _ => qts_nil) (fun _ _ _ _ _ => (q_call C__law_worth (hr.mono (by omega)) hx0 (qa_cons (q_var 0) (qa_cons q_int qa_nil)))))) qa_nil)))))))))) qb_nil)
  (qb_cons (qs_if (qt_cmp q_lt (q_var 4) q_int) (qb_one (qs_ret (q_tup (qa_cons q_str (qa_cons (q_call C__law_worth (hr.mono (by omega)) hx (qa_cons (q_var 0) (qa_cons q_int qa_nil))) (qa_cons (q_call C__law_body (hr.mono (by omega)) hx (qa_cons (q_var 0) (qa_cons (q_op q_sub (q_var 1) q_int) (qa_cons (q_var 2) (qa_cons (q_var 3) qa_nil))))) (qa_cons (q_call C__law_body (hr.mono (by omega)) hx (qa_cons (q_var 0) (qa_cons (q_op q_sub (q_var 1) q_int) (qa_cons (q_var 2) (qa_cons (q_var 3) qa_nil))))) qa_nil))))))) qb_nil)
  (qb_cons (qs_if (qt_cmp (q_eq hr.units) (q_var 4) q_int) (qb_one (qs_ret (q_tup (qa_cons q_str (qa_cons (q_op q_add q_int (q_call C__law_draw (hr.mono (by omega)) hx (qa_cons (q_var 0) (qa_cons q_int qa_nil)))) (qa_cons (q_call C__law_body (hr.mono (by omega)) hx (qa_cons (q_var 0) (qa_cons (q_op q_sub (q_var 1) q_int) (qa_cons q_bl (qa_cons (q_var 3) qa_nil))))) qa_nil)))))) qb_nil)
  (qb_cons (qs_set 5 nd (q_H (ql_disp qa_nil)))
  (qb_cons (qs_for po (by rfl) (qi_r1 T.n_range (qa_cons (q_call C__law_draw (hr.mono (by omega)) hx (qa_cons (q_var 0) (qa_cons q_int qa_nil))) qa_nil)) (qg_name 6 nd) (qb_one (qs_expr (q_app (q_var 5) (q_tup (qa_cons (q_call C__law_pick (hr.mono (by omega)) hx (qa_cons (q_var 0) (qa_cons (q_L (ql_disp (qa_cons q_non (qa_cons q_int (qa_cons q_int (qa_cons q_int (qa_cons q_int (qa_cons q_int (qa_cons q_int qa_nil))))))))) qa_nil))) (qa_cons (q_call C__law_draw (hr.mono (by omega)) hx (qa_cons (q_var 0) (qa_cons q_int qa_nil))) (qa_cons (q_call C__law_body (hr.mono (by omega)) hx (qa_cons (q_var 0) (qa_cons (q_op q_sub (q_var 1) q_int) (qa_cons (q_var 2) (qa_cons (q_var 3) qa_nil))))) qa_nil))))))))
  (qb_cons (qs_set 7 nd (q_call C__law_pick (hr.mono (by omega)) hx (qa_cons (q_var 0) (qa_cons (q_L (ql_disp (qa_cons q_non (qa_cons (q_call C__law_body (hr.mono (by omega)) hx (qa_cons (q_var 0) (qa_cons (q_min2 (by rfl) T.n_min (qa_cons (q_op q_sub (q_var 1) q_int) (qa_cons q_int qa_nil))) (qa_cons (q_var 2) (qa_cons (q_var 3) qa_nil))))) qa_nil)))) qa_nil))))
  (qb_one (qs_ret (q_tup (qa_cons q_str (qa_cons (q_call C__law_body (hr.mono (by omega)) hx (qa_cons (q_var 0) (qa_cons (q_op q_sub (q_var 1) q_int) (qa_cons (q_var 2) (qa_cons (q_var 3) qa_nil))))) (qa_cons (q_F (q_var 5)) (qa_cons (q_var 7) qa_nil))))))))))))))))))))))
  exact ⟨_, qq.ps, qq.ss⟩
theorem ok__law_row (T : Tx K mg) {k : Nat} (hk : 10 ≤ k) {g__law_body : List Da → Mo Da} (C__law_draw : Cal P wd K mg base 1 "_law_draw" 2 f__law_draw []) (C__law_worth : Cal P wd K mg base 10 "_law_worth" 2 (f__law_worth 8) []) (C__law_pick : Cal P wd K mg base 2 "_law_pick" 2 f__law_pick []) (C__law_body : Cal P wd K mg base k "_law_body" 4 g__law_body []) : Cal P wd K mg base (k + 1) "_law_row" 4 (fnM 9 (m__law_row f__law_draw (f__law_worth 8) f__law_pick g__law_body)) [] := by
  obtain ⟨h1, fd, F⟩ := T.d__law_row
  exact ⟨⟨_, fd, _, [], h1, F.kp, F.bindsN (ps := ["town", "deep", "looped", "place"]) fun _ _ _ _ _ _ us hl => match us, hl with | [_, _, _, _], _ => rfl, .nil, okf__law_row T F hk C__law_draw C__law_worth C__law_pick C__law_body⟩⟩
theorem z__law_body (T : Tx K mg) : Cal P wd K mg base 10 "_law_body" 4 (f__law_body 0) [] := by
  obtain ⟨h1, fd, F⟩ := T.d__law_body
  exact ⟨⟨_, fd, _, [], h1, F.kp, F.bindsN (ps := ["town", "deep", "looped", "place"]) fun _ _ _ _ _ _ us hl => match us, hl with | [_, _, _, _], _ => rfl, .nil, fn0 (k := 9) F sc__law_body rfl⟩⟩
theorem z__law_row (T : Tx K mg) : Cal P wd K mg base 10 "_law_row" 4 (f__law_row 0) [] := by
  obtain ⟨h1, fd, F⟩ := T.d__law_row
  exact ⟨⟨_, fd, _, [], h1, F.kp, F.bindsN (ps := ["town", "deep", "looped", "place"]) fun _ _ _ _ _ _ us hl => match us, hl with | [_, _, _, _], _ => rfl, .nil, fn0 (k := 9) F sc__law_row rfl⟩⟩
theorem recs__law_body (T : Tx K mg) (C__law_pick : Cal P wd K mg base 2 "_law_pick" 2 f__law_pick []) (C__law_draw : Cal P wd K mg base 1 "_law_draw" 2 f__law_draw []) (C__law_worth : Cal P wd K mg base 10 "_law_worth" 2 (f__law_worth 8) []) : ∀ n : Nat, (Cal P wd K mg base (10 + n) "_law_body" 4 (f__law_body n) []) ∧ (Cal P wd K mg base (10 + n) "_law_row" 4 (f__law_row n) []) := by
  intro n
  induction n with
  | zero => exact ⟨z__law_body T, z__law_row T⟩
  | succ n ih =>
    obtain ⟨C__law_body, C__law_row⟩ := ih
    exact ⟨ok__law_body T (k := 10 + n) (by omega) C__law_pick C__law_row,
      ok__law_row T (k := 10 + n) (by omega) C__law_draw C__law_worth C__law_pick C__law_body⟩
theorem okf__law_rows_of (T : Tx K mg) {fd : FuncData} (F : FunD K "_law_rows_of" "_law_rows_of" (defArgs S__law_rows_of) (defBody S__law_rows_of) (defScope S__law_rows_of) [] [] (He.ga K "_law_rows_of") fd) {k : Nat} (hk : 1 ≤ k) {g__law_rows_of : List Da → Mo Da} (C__law_rows_of : Cal P wd K mg base k "_law_rows_of" 1 g__law_rows_of []) : FnOk P wd K mg base (L2.CX P wd) (k + 1) (He.ga K "_law_rows_of") fd ["thing"] (SpOf K 1 (fnM 1 (m__law_rows_of g__law_rows_of))) := by
  refine ok_of F sc__law_rows_of rfl rfl fun cdv A outer s H E hr => ?_
  have nd := sc__law_rows_of.nd
  have hx : ∀ σ, PassesAt (L2.CX P wd) (cxOf (L2.CX P wd) P wd K mg base NN__law_rows_of "_law_rows_of" (defScope S__law_rows_of) (He.ga K "_law_rows_of") cdv A outer s H E) σ E := fun σ => passAt (W := fun cls d _ H => E cls d H) (takes_of rfl rfl rfl rfl) σ
  have hx0 : ∀ {X : Cx} (σ : L2.St), PassesAt (L2.CX X.prog X.w) X σ E0 := fun σ pins H s e s' I c => passL pins σ H s e s' I c
  have po : PassesOwn (model P wd) (cxOf (L2.CX P wd) P wd K mg base NN__law_rows_of "_law_rows_of" (defScope S__law_rows_of) (He.ga K "_law_rows_of") cdv A outer s H E).A (cxOf (L2.CX P wd) P wd K mg base NN__law_rows_of "_law_rows_of" (defScope S__law_rows_of) (He.ga K "_law_rows_of") cdv A outer s H E).env (cxOf (L2.CX P wd) P wd K mg base NN__law_rows_of "_law_rows_of" (defScope S__law_rows_of) (He.ga K "_law_rows_of") cdv A outer s H E).xe := passes_of rfl
  have qq : QB (cxOf (L2.CX P wd) P wd K mg base NN__law_rows_of "_law_rows_of" (defScope S__law_rows_of) (He.ga K "_law_rows_of") cdv A outer s H E) (fun _ => E) (defBody S__law_rows_of) _ (m__law_rows_of g__law_rows_of) :=
  (qb_one (qs_ret (q_ifx (qt_w (qw_or (qt_val (q_isi .int T.n_isinstance T.n_int (q_var 0))) (qw_or1 (qt_cmp (q_eq hr.units) (q_sub1 (q_var 0) q_int) q_str)))) q_int (q_op q_add (q_op q_add (q_call C__law_rows_of (hr.mono (by omega)) hx (qa_cons (q_sub1 (q_var 0) q_int) qa_nil)) (q_call C__law_rows_of (hr.mono (by omega)) hx (qa_cons (q_sub1 (q_var 0) q_int) qa_nil))) q_int))))
  exact ⟨_, qq.ps, qq.ss⟩
theorem ok__law_rows_of (T : Tx K mg) {k : Nat} (hk : 1 ≤ k) {g__law_rows_of : List Da → Mo Da} (C__law_rows_of : Cal P wd K mg base k "_law_rows_of" 1 g__law_rows_of []) : Cal P wd K mg base (k + 1) "_law_rows_of" 1 (fnM 1 (m__law_rows_of g__law_rows_of)) [] := by
  obtain ⟨h1, fd, F⟩ := T.d__law_rows_of
  exact ⟨⟨_, fd, _, [], h1, F.kp, F.bindsN (ps := ["thing"]) fun _ _ _ _ _ _ us hl => match us, hl with | [_], _ => rfl, .nil, okf__law_rows_of T F hk C__law_rows_of⟩⟩
theorem z__law_rows_of (T : Tx K mg) : Cal P wd K mg base 1 "_law_rows_of" 1 (f__law_rows_of 0) [] := by
  obtain ⟨h1, fd, F⟩ := T.d__law_rows_of
  exact ⟨⟨_, fd, _, [], h1, F.kp, F.bindsN (ps := ["thing"]) fun _ _ _ _ _ _ us hl => match us, hl with | [_], _ => rfl, .nil, fn0 (k := 0) F sc__law_rows_of rfl⟩⟩
theorem recs__law_rows_of (T : Tx K mg)  : ∀ n : Nat, (Cal P wd K mg base (1 + n) "_law_rows_of" 1 (f__law_rows_of n) []) := by
  intro n
  induction n with
  | zero => exact z__law_rows_of T
  | succ n ih =>
    have C__law_rows_of := ih
    exact ok__law_rows_of T (k := 1 + n) (by omega) C__law_rows_of
theorem okf__law_size (T : Tx K mg) {fd : FuncData} (F : FunD K "_law_size" "_law_size" (defArgs S__law_size) (defBody S__law_size) (defScope S__law_size) [] [] (He.ga K "_law_size") fd) {k : Nat} (hk : 11 ≤ k) {g__law_size : List Da → Mo Da} (C__law_rows_of : Cal P wd K mg base 11 "_law_rows_of" 1 (f__law_rows_of 10) []) (C__law_size : Cal P wd K mg base k "_law_size" 3 g__law_size []) : FnOk P wd K mg base (L2.CX P wd) (k + 1) (He.ga K "_law_size") fd ["body", "way", "out"] (SpOf K 3 (fnM 8 (m__law_size (f__law_rows_of 10) g__law_size))) := by
  refine ok_of F sc__law_size rfl rfl fun cdv A outer s H E hr => ?_
  have nd := sc__law_size.nd
  have hx : ∀ σ, PassesAt (L2.CX P wd) (cxOf (L2.CX P wd) P wd K mg base NN__law_size "_law_size" (defScope S__law_size) (He.ga K "_law_size") cdv A outer s H E) σ E := fun σ => passAt (W := fun cls d _ H => E cls d H) (takes_of rfl rfl rfl rfl) σ
  have hx0 : ∀ {X : Cx} (σ : L2.St), PassesAt (L2.CX X.prog X.w) X σ E0 := fun σ pins H s e s' I c => passL pins σ H s e s' I c
  have po : PassesOwn (model P wd) (cxOf (L2.CX P wd) P wd K mg base NN__law_size "_law_size" (defScope S__law_size) (He.ga K "_law_size") cdv A outer s H E).A (cxOf (L2.CX P wd) P wd K mg base NN__law_size "_law_size" (defScope S__law_size) (He.ga K "_law_size") cdv A outer s H E).env (cxOf (L2.CX P wd) P wd K mg base NN__law_size "_law_size" (defScope S__law_size) (He.ga K "_law_size") cdv A outer s H E).xe := passes_of rfl
  have qq : QB (cxOf (L2.CX P wd) P wd K mg base NN__law_size "_law_size" (defScope S__law_size) (He.ga K "_law_size") cdv A outer s H E) (fun _ => E) (defBody S__law_size) _ (m__law_size (f__law_rows_of 10) g__law_size) :=
  (qb_cons (qs_set 3 nd q_int)
  (qb_cons (qs_for po (by rfl) (qi_v (q_var 0)) (qg_name 4 nd) (qb_cons (qs_set 5 nd (q_sub1 (q_var 4) q_int))
  (qb_one (qs_if (qt_cmp (q_inU (room1 hr)) (q_var 5) (q_tup (qa_cons q_str (qa_cons q_str qa_nil)))) (qb_one (qs_set 3 nd (q_op q_add (q_op q_add (q_var 3) (q_call C__law_rows_of (hr.mono (by omega)) hx (qa_cons (q_sub1 (q_var 4) q_int) qa_nil))) q_int))) (qb_one (qs_if (qt_cmp (q_eq hr.units) (q_var 5) q_str) (qb_one (qs_set 3 nd (q_op q_add (q_op q_add (q_var 3) (q_call C__law_rows_of (hr.mono (by omega)) hx (qa_cons (q_sub1 (q_var 4) q_int) qa_nil))) q_int))) (qb_one (qs_if (qt_cmp (q_eq hr.units) (q_var 5) q_str) (qb_one (qs_set 3 nd (q_op q_add (q_op q_add (q_op q_add (q_var 3) (q_call C__law_rows_of (hr.mono (by omega)) hx (qa_cons (q_sub1 (q_var 4) q_int) qa_nil))) q_int) (q_var 1)))) (qb_one (qs_if (qt_cmp (q_eq hr.units) (q_var 5) q_str) (qb_one (qs_set 3 nd (q_op q_add (q_op q_add (q_var 3) q_int) (q_var 2)))) (qb_one (qs_if (qt_cmp (q_eq hr.units) (q_var 5) q_str) (qb_one (qs_set 3 nd (q_op q_add (q_op q_add (q_var 3) (q_sum1 (by rfl) T.n_sum (qa_cons (q_L (by exact ql_comp (by rfl) nd (qi_v (q_sub1 (q_var 4) q_int)) (blkOk_by (own := [("one", 7)]) (N := NN__law_size) (sc := defScope S__law_size) (by decide +kernel)) (fun _ _ _ _ _ => (qg_name 7 nd)) (fun _ _ _ _ _ => qts_nil) (fun _ _ _ _ _ => (q_call C__law_rows_of (hr.mono (by omega)) hx0 (qa_cons (q_var 7) qa_nil))))) qa_nil))) q_int))) (qb_one (qs_if (qt_cmp (q_eq hr.units) (q_var 5) q_str) (qb_one (qs_set 3 nd (q_op q_add (q_op q_add (q_op q_add (q_op q_add (q_var 3) (q_call C__law_rows_of (hr.mono (by omega)) hx (qa_cons (q_sub1 (q_var 4) q_int) qa_nil))) q_int) (q_call C__law_size (hr.mono (by omega)) hx (qa_cons (q_sub1 (q_var 4) q_int) (qa_cons (q_var 1) (qa_cons (q_var 2) qa_nil))))) (q_call C__law_size (hr.mono (by omega)) hx (qa_cons (q_sub1 (q_var 4) q_int) (qa_cons (q_var 1) (qa_cons (q_var 2) qa_nil))))))) (qb_one (qs_if (qt_cmp (q_eq hr.units) (q_var 5) q_str) (qb_one (qs_set 3 nd (q_op q_add (q_op q_add (q_var 3) q_int) (q_call C__law_size (hr.mono (by omega)) hx (qa_cons (q_sub1 (q_var 4) q_int) (qa_cons (q_var 1) (qa_cons q_int qa_nil))))))) (qb_cons (qs_set 6 nd (q_ifx (qt_cmp q_is (q_sub1 (q_var 4) q_int) q_non) q_int (q_call C__law_size (hr.mono (by omega)) hx (qa_cons (q_sub1 (q_var 4) q_int) (qa_cons (q_var 1) (qa_cons (q_var 2) qa_nil))))))
  (qb_cons (qs_set 3 nd (q_op q_add (q_op q_add (q_op q_add (q_var 3) (q_call C__law_size (hr.mono (by omega)) hx (qa_cons (q_sub1 (q_var 4) q_int) (qa_cons (q_op q_add (q_var 6) (q_var 1)) (qa_cons (q_op q_add (q_var 6) (q_var 2)) qa_nil))))) (q_op q_mul (q_var 6) (q_op q_add q_int (q_len T.n_len (qa_cons (q_sub1 (q_var 4) q_int) qa_nil))))) q_int))
  (qb_one (qs_set 3 nd (q_op q_add (q_var 3) (q_sum1 (by rfl) T.n_sum (qa_cons (q_L (by exact ql_comp (by rfl) nd (qi_v (q_sub1 (q_var 4) q_int)) (blkOk_by (own := [("one", 7)]) (N := NN__law_size) (sc := defScope S__law_size) (by decide +kernel)) (fun _ _ _ _ _ => (qg_name 7 nd)) (fun _ _ _ _ _ => qts_nil) (fun _ _ _ _ _ => (q_op q_add (q_call C__law_size (hr.mono (by omega)) hx0 (qa_cons (q_sub1 (q_var 7) q_int) (qa_cons (q_op q_add (q_var 6) (q_var 1)) (qa_cons (q_op q_add (q_var 6) (q_var 2)) qa_nil)))) q_int)))) qa_nil)))))))))))))))))))))))
  (qb_one (qs_ret (q_var 3)))))
  exact ⟨_, qq.ps, qq.ss⟩
theorem ok__law_size (T : Tx K mg) {k : Nat} (hk : 11 ≤ k) {g__law_size : List Da → Mo Da} (C__law_rows_of : Cal P wd K mg base 11 "_law_rows_of" 1 (f__law_rows_of 10) []) (C__law_size : Cal P wd K mg base k "_law_size" 3 g__law_size []) : Cal P wd K mg base (k + 1) "_law_size" 3 (fnM 8 (m__law_size (f__law_rows_of 10) g__law_size)) [] := by
  obtain ⟨h1, fd, F⟩ := T.d__law_size
  exact ⟨⟨_, fd, _, [], h1, F.kp, F.bindsN (ps := ["body", "way", "out"]) fun _ _ _ _ _ _ us hl => match us, hl with | [_, _, _], _ => rfl, .nil, okf__law_size T F hk C__law_rows_of C__law_size⟩⟩
theorem z__law_size (T : Tx K mg) : Cal P wd K mg base 11 "_law_size" 3 (f__law_size 0) [] := by
  obtain ⟨h1, fd, F⟩ := T.d__law_size
  exact ⟨⟨_, fd, _, [], h1, F.kp, F.bindsN (ps := ["body", "way", "out"]) fun _ _ _ _ _ _ us hl => match us, hl with | [_, _, _], _ => rfl, .nil, fn0 (k := 10) F sc__law_size rfl⟩⟩
theorem recs__law_size (T : Tx K mg) (C__law_rows_of : Cal P wd K mg base 11 "_law_rows_of" 1 (f__law_rows_of 10) []) : ∀ n : Nat, (Cal P wd K mg base (11 + n) "_law_size" 3 (f__law_size n) []) := by
  intro n
  induction n with
  | zero => exact z__law_size T
  | succ n ih =>
    have C__law_size := ih
    exact ok__law_size T (k := 11 + n) (by omega) C__law_rows_of C__law_size
theorem okf__law_program (T : Tx K mg) {fd : FuncData} (F : FunD K "_law_program" "_law_program" (defArgs S__law_program) (defBody S__law_program) (defScope S__law_program) [] [] (He.ga K "_law_program") fd)  (C__law_draw : Cal P wd K mg base 1 "_law_draw" 2 f__law_draw []) (C__law_body : Cal P wd K mg base 30 "_law_body" 4 (f__law_body 20) []) (C__law_pick : Cal P wd K mg base 2 "_law_pick" 2 f__law_pick []) (C__law_size : Cal P wd K mg base 31 "_law_size" 3 (f__law_size 20) []) : FnOk P wd K mg base (L2.CX P wd) (32) (He.ga K "_law_program") fd ["town"] (SpOf K 1 f__law_program) := by
  refine ok_of F sc__law_program rfl rfl fun cdv A outer s H E hr => ?_
  have nd := sc__law_program.nd
  have hx : ∀ σ, PassesAt (L2.CX P wd) (cxOf (L2.CX P wd) P wd K mg base NN__law_program "_law_program" (defScope S__law_program) (He.ga K "_law_program") cdv A outer s H E) σ E := fun σ => passAt (W := fun cls d _ H => E cls d H) (takes_of rfl rfl rfl rfl) σ
  have hx0 : ∀ {X : Cx} (σ : L2.St), PassesAt (L2.CX X.prog X.w) X σ E0 := fun σ pins H s e s' I c => passL pins σ H s e s' I c
  have po : PassesOwn (model P wd) (cxOf (L2.CX P wd) P wd K mg base NN__law_program "_law_program" (defScope S__law_program) (He.ga K "_law_program") cdv A outer s H E).A (cxOf (L2.CX P wd) P wd K mg base NN__law_program "_law_program" (defScope S__law_program) (He.ga K "_law_program") cdv A outer s H E).env (cxOf (L2.CX P wd) P wd K mg base NN__law_program "_law_program" (defScope S__law_program) (He.ga K "_law_program") cdv A outer s H E).xe := passes_of rfl
  have qq : QB (cxOf (L2.CX P wd) P wd K mg base NN__law_program "_law_program" (defScope S__law_program) (He.ga K "_law_program") cdv A outer s H E) (fun _ => E) (defBody S__law_program) _ (m__law_program f__law_draw (f__law_body 20) f__law_pick (f__law_size 20)) :=
  (qb_cons (qs_if (qt_cmp q_lt (q_len T.n_len (qa_cons (q_var 0) qa_nil)) q_int) (qb_one (qs_expr (q_app (q_var 0) q_int))) qb_nil)
  (qb_cons (qs_setI q_int (q_var 0) q_int)
  (qb_cons (qs_set 1 nd (q_L (ql_op ql_cat (q_L (ql_disp (qa_cons q_int qa_nil))) (q_L (by exact ql_comp (by rfl) nd (qi_r1 T.n_range (qa_cons (q_call C__law_draw (hr.mono (by omega)) hx (qa_cons (q_var 0) (qa_cons q_int qa_nil))) qa_nil)) (blkOk_by (own := [("k", 3)]) (N := NN__law_program) (sc := defScope S__law_program) (by decide +kernel)) (fun _ _ _ _ _ => (qg_name 3 nd)) (fun _ _ _ _ _ => qts_nil) (fun _ _ _ _ _ => (q_call C__law_draw (hr.mono (by omega)) hx0 (qa_cons (q_var 0) (qa_cons q_int qa_nil)))))))))
  (qb_cons (qs_set 2 nd (q_H (ql_disp qa_nil)))
  (qb_cons (qs_for po (by rfl) (qi_r1 T.n_range (qa_cons (q_len T.n_len (qa_cons (q_var 1) qa_nil)) qa_nil)) (qg_name 3 nd) (qb_cons (qs_set 4 nd (q_call C__law_body (hr.mono (by omega)) hx (qa_cons (q_var 0) (qa_cons q_int (qa_cons q_bl (qa_cons (q_tup (qa_cons (q_var 3) (qa_cons (q_var 1) qa_nil))) qa_nil))))))
  (qb_cons (qs_if (qt_cmp q_gt (q_call C__law_draw (hr.mono (by omega)) hx (qa_cons (q_var 0) (qa_cons q_int qa_nil))) q_int) (qb_cons (qs_set 5 nd (q_tup (qa_cons (q_call C__law_pick (hr.mono (by omega)) hx (qa_cons (q_var 0) (qa_cons (q_L (ql_disp (qa_cons q_non (qa_cons q_int (qa_cons q_int qa_nil))))) qa_nil))) (qa_cons q_int (qa_cons (q_call C__law_body (hr.mono (by omega)) hx (qa_cons (q_var 0) (qa_cons q_int (qa_cons q_bl (qa_cons (q_tup (qa_cons (q_var 3) (qa_cons (q_var 1) qa_nil))) qa_nil))))) qa_nil)))))
  (qb_cons (qs_set 6 nd (q_call C__law_pick (hr.mono (by omega)) hx (qa_cons (q_var 0) (qa_cons (q_L (ql_disp (qa_cons q_non (qa_cons (q_call C__law_body (hr.mono (by omega)) hx (qa_cons (q_var 0) (qa_cons q_int (qa_cons q_bl (qa_cons (q_tup (qa_cons (q_var 3) (qa_cons (q_var 1) qa_nil))) qa_nil))))) qa_nil)))) qa_nil))))
  (qb_one (qs_set 4 nd (q_L (ql_op ql_cat (q_L (ql_disp (qa_cons (q_tup (qa_cons q_str (qa_cons (q_var 4) (qa_cons (q_L (ql_disp (qa_cons (q_var 5) qa_nil))) (qa_cons (q_var 6) qa_nil))))) qa_nil))) (q_call C__law_body (hr.mono (by omega)) hx (qa_cons (q_var 0) (qa_cons q_int (qa_cons q_bl (qa_cons (q_tup (qa_cons (q_var 3) (qa_cons (q_var 1) qa_nil))) qa_nil))))))))))) qb_nil)
  (qb_one (qs_expr (q_app (q_var 2) (q_tup (qa_cons (q_sub1 (q_var 1) (q_var 3)) (qa_cons (q_var 4) qa_nil)))))))))
  (qb_cons (qs_if (qt_cmp q_gt (q_sum1 (by rfl) T.n_sum (qa_cons (q_L (by exact ql_comp (by rfl) nd (qi_v (q_var 2)) (blkOk_by (own := [("many_of", 8), ("body", 4)]) (N := NN__law_program) (sc := defScope S__law_program) (by decide +kernel)) (fun _ _ _ _ _ => (qg_tup 2 (by rfl) (qgs_cons (qg_name 8 nd) (qgs_cons (qg_name 4 nd) qgs_nil)))) (fun _ _ _ _ _ => qts_nil) (fun _ _ _ _ _ => (q_call C__law_size (hr.mono (by omega)) hx0 (qa_cons (q_var 4) (qa_cons q_int (qa_cons q_int qa_nil))))))) qa_nil)) q_int) (qb_one (by exact qs_setLc 2 (by rfl) nd (qi_v (q_var 1)) (blkOk_by (own := [("one", 7)]) (N := NN__law_program) (sc := defScope S__law_program) (by decide +kernel)) (fun _ _ _ _ _ => (qg_name 7 nd)) (fun _ _ _ _ _ => qts_nil) (fun _ _ _ _ _ => (q_tup (qa_cons (q_var 7) (qa_cons (q_L (ql_disp (qa_cons (q_tup (qa_cons q_str (qa_cons q_int qa_nil))) (qa_cons (q_tup (qa_cons q_str (qa_cons q_int qa_nil))) qa_nil)))) qa_nil)))) eH s_H (sw_true rfl rfl rfl (by decide +kernel)))) qb_nil)
  (qb_one (qs_ret (q_F (q_var 2))))))))))
  exact ⟨_, qq.ps, qq.ss⟩
theorem ok__law_program (T : Tx K mg)  (C__law_draw : Cal P wd K mg base 1 "_law_draw" 2 f__law_draw []) (C__law_body : Cal P wd K mg base 30 "_law_body" 4 (f__law_body 20) []) (C__law_pick : Cal P wd K mg base 2 "_law_pick" 2 f__law_pick []) (C__law_size : Cal P wd K mg base 31 "_law_size" 3 (f__law_size 20) []) : Cal P wd K mg base (32) "_law_program" 1 f__law_program [] := by
  obtain ⟨h1, fd, F⟩ := T.d__law_program
  exact ⟨⟨_, fd, _, [], h1, F.kp, F.bindsN (ps := ["town"]) fun _ _ _ _ _ _ us hl => match us, hl with | [_], _ => rfl, .nil, okf__law_program T F  C__law_draw C__law_body C__law_pick C__law_size⟩⟩
theorem okf__law_reckon (T : Tx K mg) {fd : FuncData} (F : FunD K "_law_reckon" "_law_reckon" (defArgs S__law_reckon) (defBody S__law_reckon) (defScope S__law_reckon) [] [] (He.ga K "_law_reckon") fd) {k : Nat} (hk : 1 ≤ k) {g__law_reckon : List Da → Mo Da} (C__law_reckon : Cal P wd K mg base k "_law_reckon" 3 g__law_reckon []) : FnOk P wd K mg base (L2.CX P wd) (k + 1) (He.ga K "_law_reckon") fd ["own", "thing", "boxes"] (SpOf K 3 (fnM 6 (m__law_reckon g__law_reckon))) := by
  refine ok_of F sc__law_reckon rfl rfl fun cdv A outer s H E hr => ?_
  have nd := sc__law_reckon.nd
  have hx : ∀ σ, PassesAt (L2.CX P wd) (cxOf (L2.CX P wd) P wd K mg base NN__law_reckon "_law_reckon" (defScope S__law_reckon) (He.ga K "_law_reckon") cdv A outer s H E) σ E := fun σ => passAt (W := fun cls d _ H => E cls d H) (takes_of rfl rfl rfl rfl) σ
  have hx0 : ∀ {X : Cx} (σ : L2.St), PassesAt (L2.CX X.prog X.w) X σ E0 := fun σ pins H s e s' I c => passL pins σ H s e s' I c
  have po : PassesOwn (model P wd) (cxOf (L2.CX P wd) P wd K mg base NN__law_reckon "_law_reckon" (defScope S__law_reckon) (He.ga K "_law_reckon") cdv A outer s H E).A (cxOf (L2.CX P wd) P wd K mg base NN__law_reckon "_law_reckon" (defScope S__law_reckon) (He.ga K "_law_reckon") cdv A outer s H E).env (cxOf (L2.CX P wd) P wd K mg base NN__law_reckon "_law_reckon" (defScope S__law_reckon) (He.ga K "_law_reckon") cdv A outer s H E).xe := passes_of rfl
  have qq : QB (cxOf (L2.CX P wd) P wd K mg base NN__law_reckon "_law_reckon" (defScope S__law_reckon) (He.ga K "_law_reckon") cdv A outer s H E) (fun _ => E) (defBody S__law_reckon) _ (m__law_reckon g__law_reckon) :=
  (qb_cons (qs_if (qt_val (q_isi .int T.n_isinstance T.n_int (q_var 1))) (qb_one (qs_ret (q_tup (qa_cons q_str (qa_cons (q_var 1) qa_nil))))) qb_nil)
  (qb_cons (qs_if (qt_cmp (q_eq hr.units) (q_sub1 (q_var 1) q_int) q_str) (qb_one (qs_ret (q_tup (qa_cons q_str (qa_cons (q_sub1 (q_var 2) (q_sub1 (q_var 1) q_int)) qa_nil))))) qb_nil)
  (qb_cons (qs_set 3 nd (q_call C__law_reckon (hr.mono (by omega)) hx (qa_cons (q_var 0) (qa_cons (q_sub1 (q_var 1) q_int) (qa_cons (q_var 2) qa_nil)))))
  (qb_cons (qs_if (qt_cmp (q_ne hr.units) (q_sub1 (q_var 3) q_int) q_str) (qb_one (qs_ret (q_var 3))) qb_nil)
  (qb_cons (qs_set 4 nd (q_call C__law_reckon (hr.mono (by omega)) hx (qa_cons (q_var 0) (qa_cons (q_sub1 (q_var 1) q_int) (qa_cons (q_var 2) qa_nil)))))
  (qb_cons (qs_if (qt_cmp (q_ne hr.units) (q_sub1 (q_var 4) q_int) q_str) (qb_one (qs_ret (q_var 4))) qb_nil)
  (qb_cons (qs_if (qt_cmp (q_eq hr.units) (q_sub1 (q_var 1) q_int) q_str) (qb_one (qs_ret (q_ifx (qt_cmp (q_eq hr.units) (q_sub1 (q_var 4) q_int) q_int) (q_tup (qa_cons q_str (qa_cons q_int (qa_cons (q_sub1 (q_var 3) q_int) qa_nil)))) (q_tup (qa_cons q_str (qa_cons (q_op q_fdiv (q_sub1 (q_var 3) q_int) (q_sub1 (q_var 4) q_int)) qa_nil)))))) qb_nil)
  (qb_cons (qs_set 5 nd (q_ifx (qt_cmp (q_eq hr.units) (q_sub1 (q_var 1) q_int) q_str) (q_op q_add (q_sub1 (q_var 3) q_int) (q_sub1 (q_var 4) q_int)) (q_ifx (qt_cmp (q_eq hr.units) (q_sub1 (q_var 1) q_int) q_str) (q_op q_sub (q_sub1 (q_var 3) q_int) (q_sub1 (q_var 4) q_int)) (q_op q_mul (q_sub1 (q_var 3) q_int) (q_sub1 (q_var 4) q_int)))))
  (qb_one (qs_ret (q_tup (qa_cons q_str (qa_cons (q_op q_mod (q_var 5) q_int) qa_nil)))))))))))))
  exact ⟨_, qq.ps, qq.ss⟩
theorem ok__law_reckon (T : Tx K mg) {k : Nat} (hk : 1 ≤ k) {g__law_reckon : List Da → Mo Da} (C__law_reckon : Cal P wd K mg base k "_law_reckon" 3 g__law_reckon []) : Cal P wd K mg base (k + 1) "_law_reckon" 3 (fnM 6 (m__law_reckon g__law_reckon)) [] := by
  obtain ⟨h1, fd, F⟩ := T.d__law_reckon
  exact ⟨⟨_, fd, _, [], h1, F.kp, F.bindsN (ps := ["own", "thing", "boxes"]) fun _ _ _ _ _ _ us hl => match us, hl with | [_, _, _], _ => rfl, .nil, okf__law_reckon T F hk C__law_reckon⟩⟩
theorem z__law_reckon (T : Tx K mg) : Cal P wd K mg base 1 "_law_reckon" 3 (f__law_reckon 0) [] := by
  obtain ⟨h1, fd, F⟩ := T.d__law_reckon
  exact ⟨⟨_, fd, _, [], h1, F.kp, F.bindsN (ps := ["own", "thing", "boxes"]) fun _ _ _ _ _ _ us hl => match us, hl with | [_, _, _], _ => rfl, .nil, fn0 (k := 0) F sc__law_reckon rfl⟩⟩
theorem recs__law_reckon (T : Tx K mg)  : ∀ n : Nat, (Cal P wd K mg base (1 + n) "_law_reckon" 3 (f__law_reckon n) []) := by
  intro n
  induction n with
  | zero => exact z__law_reckon T
  | succ n ih =>
    have C__law_reckon := ih
    exact ok__law_reckon T (k := 1 + n) (by omega) C__law_reckon
theorem okf__law_rows (T : Tx K mg) {fd : FuncData} (F : FunD K "_law_rows" "_law_rows" (defArgs S__law_rows) (defBody S__law_rows) (defScope S__law_rows) [] [] (He.ga K "_law_rows") fd) {k : Nat} (hk : 11 ≤ k) {g__law_do : List Da → Mo Da} (C__law_do : Cal P wd K mg base k "_law_do" 3 g__law_do []) : FnOk P wd K mg base (L2.CX P wd) (k + 1) (He.ga K "_law_rows") fd ["own", "rows", "boxes"] (SpOf K 3 (fnM 5 (m__law_rows g__law_do))) := by
  refine ok_of F sc__law_rows rfl rfl fun cdv A outer s H E hr => ?_
  have nd := sc__law_rows.nd
  have hx : ∀ σ, PassesAt (L2.CX P wd) (cxOf (L2.CX P wd) P wd K mg base NN__law_rows "_law_rows" (defScope S__law_rows) (He.ga K "_law_rows") cdv A outer s H E) σ E := fun σ => passAt (W := fun cls d _ H => E cls d H) (takes_of rfl rfl rfl rfl) σ
  have hx0 : ∀ {X : Cx} (σ : L2.St), PassesAt (L2.CX X.prog X.w) X σ E0 := fun σ pins H s e s' I c => passL pins σ H s e s' I c
  have po : PassesOwn (model P wd) (cxOf (L2.CX P wd) P wd K mg base NN__law_rows "_law_rows" (defScope S__law_rows) (He.ga K "_law_rows") cdv A outer s H E).A (cxOf (L2.CX P wd) P wd K mg base NN__law_rows "_law_rows" (defScope S__law_rows) (He.ga K "_law_rows") cdv A outer s H E).env (cxOf (L2.CX P wd) P wd K mg base NN__law_rows "_law_rows" (defScope S__law_rows) (He.ga K "_law_rows") cdv A outer s H E).xe := passes_of rfl
  have qq : QB (cxOf (L2.CX P wd) P wd K mg base NN__law_rows "_law_rows" (defScope S__law_rows) (He.ga K "_law_rows") cdv A outer s H E) (fun _ => E) (defBody S__law_rows) _ (m__law_rows g__law_do) :=
  (qb_cons (qs_for po (by rfl) (qi_v (q_var 1)) (qg_name 3 nd) (qb_cons (qs_setI (q_op q_add (q_sub1 (q_var 0) q_int) q_int) (q_var 0) q_int)
  (qb_cons (qs_if (qt_cmp q_gt (q_sub1 (q_var 0) q_int) q_int) (qb_one (qs_ret (q_tup (qa_cons q_str qa_nil)))) qb_nil)
  (qb_cons (qs_set 4 nd (q_call C__law_do (hr.mono (by omega)) hx (qa_cons (q_var 0) (qa_cons (q_var 3) (qa_cons (q_var 2) qa_nil)))))
  (qb_one (qs_if (qt_cmp (q_ne hr.units) (q_sub1 (q_var 4) q_int) q_str) (qb_one (qs_ret (q_var 4))) qb_nil))))))
  (qb_one (qs_ret (q_tup (qa_cons q_str qa_nil)))))
  exact ⟨_, qq.ps, qq.ss⟩
theorem ok__law_rows (T : Tx K mg) {k : Nat} (hk : 11 ≤ k) {g__law_do : List Da → Mo Da} (C__law_do : Cal P wd K mg base k "_law_do" 3 g__law_do []) : Cal P wd K mg base (k + 1) "_law_rows" 3 (fnM 5 (m__law_rows g__law_do)) [] := by
  obtain ⟨h1, fd, F⟩ := T.d__law_rows
  exact ⟨⟨_, fd, _, [], h1, F.kp, F.bindsN (ps := ["own", "rows", "boxes"]) fun _ _ _ _ _ _ us hl => match us, hl with | [_, _, _], _ => rfl, .nil, okf__law_rows T F hk C__law_do⟩⟩
theorem okf__law_do (T : Tx K mg) {fd : FuncData} (F : FunD K "_law_do" "_law_do" (defArgs S__law_do) (defBody S__law_do) (defScope S__law_do) [] [] (He.ga K "_law_do") fd) {k : Nat} (hk : 11 ≤ k) {g__law_rows : List Da → Mo Da} {g__law_try : List Da → Mo Da} {g__law_call : List Da → Mo Da} (C__law_rows : Cal P wd K mg base k "_law_rows" 3 g__law_rows []) (C__law_try : Cal P wd K mg base k "_law_try" 3 g__law_try []) (C__law_call : Cal P wd K mg base k "_law_call" 3 g__law_call []) (C__law_reckon : Cal P wd K mg base 11 "_law_reckon" 3 (f__law_reckon 10) []) : FnOk P wd K mg base (L2.CX P wd) (k + 1) (He.ga K "_law_do") fd ["own", "row", "boxes"] (SpOf K 3 (fnM 6 (m__law_do g__law_rows g__law_try g__law_call (f__law_reckon 10)))) := by
  refine ok_of F sc__law_do rfl rfl fun cdv A outer s H E hr => ?_
  have nd := sc__law_do.nd
  have hx : ∀ σ, PassesAt (L2.CX P wd) (cxOf (L2.CX P wd) P wd K mg base NN__law_do "_law_do" (defScope S__law_do) (He.ga K "_law_do") cdv A outer s H E) σ E := fun σ => passAt (W := fun cls d _ H => E cls d H) (takes_of rfl rfl rfl rfl) σ
  have hx0 : ∀ {X : Cx} (σ : L2.St), PassesAt (L2.CX X.prog X.w) X σ E0 := fun σ pins H s e s' I c => passL pins σ H s e s' I c
  have po : PassesOwn (model P wd) (cxOf (L2.CX P wd) P wd K mg base NN__law_do "_law_do" (defScope S__law_do) (He.ga K "_law_do") cdv A outer s H E).A (cxOf (L2.CX P wd) P wd K mg base NN__law_do "_law_do" (defScope S__law_do) (He.ga K "_law_do") cdv A outer s H E).env (cxOf (L2.CX P wd) P wd K mg base NN__law_do "_law_do" (defScope S__law_do) (He.ga K "_law_do") cdv A outer s H E).xe := passes_of rfl
  have qq : QB (cxOf (L2.CX P wd) P wd K mg base NN__law_do "_law_do" (defScope S__law_do) (He.ga K "_law_do") cdv A outer s H E) (fun _ => E) (defBody S__law_do) _ (m__law_do g__law_rows g__law_try g__law_call (f__law_reckon 10)) :=
  (qb_cons (qs_set 3 nd (q_sub1 (q_var 1) q_int))
  (qb_cons (qs_if (qt_cmp (q_eq hr.units) (q_var 3) q_str) (qb_one (qs_ret (q_tup (qa_cons q_str qa_nil)))) qb_nil)
  (qb_cons (qs_if (qt_cmp (q_eq hr.units) (q_var 3) q_str) (qb_cons (qs_for po (by rfl) (qi_r1 T.n_range (qa_cons (q_sub1 (q_var 1) q_int) qa_nil)) (qg_name 5 nd) (qb_cons (qs_set 4 nd (q_call C__law_rows (hr.mono (by omega)) hx (qa_cons (q_var 0) (qa_cons (q_sub1 (q_var 1) q_int) (qa_cons (q_var 2) qa_nil)))))
  (qb_one (qs_if (qt_cmp (q_ne hr.units) (q_sub1 (q_var 4) q_int) q_str) (qb_one (qs_ret (q_ifx (qt_cmp (q_eq hr.units) (q_sub1 (q_var 4) q_int) q_str) (q_tup (qa_cons q_str qa_nil)) (q_var 4)))) qb_nil))))
  (qb_one (qs_ret (q_tup (qa_cons q_str qa_nil))))) qb_nil)
  (qb_cons (qs_if (qt_cmp (q_eq hr.units) (q_var 3) q_str) (qb_one (qs_ret (q_call C__law_try (hr.mono (by omega)) hx (qa_cons (q_var 0) (qa_cons (q_var 1) (qa_cons (q_var 2) qa_nil)))))) qb_nil)
  (qb_cons (qs_if (qt_cmp (q_eq hr.units) (q_var 3) q_str) (qb_one (qs_ret (q_call C__law_call (hr.mono (by omega)) hx (qa_cons (q_var 0) (qa_cons (q_var 1) (qa_cons (q_var 2) qa_nil)))))) qb_nil)
  (qb_cons (qs_set 4 nd (q_call C__law_reckon (hr.mono (by omega)) hx (qa_cons (q_var 0) (qa_cons (q_ifx (qt_cmp (q_inU (room1 hr)) (q_var 3) (q_tup (qa_cons q_str (qa_cons q_str qa_nil)))) (q_sub1 (q_var 1) q_int) (q_sub1 (q_var 1) q_int)) (qa_cons (q_var 2) qa_nil)))))
  (qb_cons (qs_if (qt_cmp (q_ne hr.units) (q_sub1 (q_var 4) q_int) q_str) (qb_one (qs_ret (q_var 4))) qb_nil)
  (qb_cons (qs_if (qt_cmp (q_eq hr.units) (q_var 3) q_str) (qb_one (qs_setI (q_sub1 (q_var 4) q_int) (q_var 2) (q_sub1 (q_var 1) q_int))) qb_nil)
  (qb_cons (qs_if (qt_cmp (q_eq hr.units) (q_var 3) q_str) (qb_one (qs_setI (q_L (ql_op ql_cat (q_sub1 (q_var 0) q_int) (q_L (ql_disp (qa_cons (q_sub1 (q_var 4) q_int) qa_nil))))) (q_var 0) q_int)) qb_nil)
  (qb_cons (qs_if (qt_cmp (q_eq hr.units) (q_var 3) q_str) (qb_one (qs_ret (q_tup (qa_cons q_str (qa_cons (q_sub1 (q_var 1) q_int) (qa_cons (q_sub1 (q_var 4) q_int) qa_nil)))))) qb_nil)
  (qb_cons (qs_if (qt_cmp (q_eq hr.units) (q_var 3) q_str) (qb_one (qs_ret (q_tup (qa_cons q_str (qa_cons (q_sub1 (q_var 4) q_int) qa_nil))))) qb_nil)
  (qb_cons (qs_if (qt_cmp (q_eq hr.units) (q_var 3) q_str) (qb_one (qs_ret (q_call C__law_rows (hr.mono (by omega)) hx (qa_cons (q_var 0) (qa_cons (q_ifx (qt_cmp (q_ne hr.units) (q_sub1 (q_var 4) q_int) q_int) (q_sub1 (q_var 1) q_int) (q_sub1 (q_var 1) q_int)) (qa_cons (q_var 2) qa_nil)))))) qb_nil)
  (qb_one (qs_ret (q_tup (qa_cons q_str qa_nil))))))))))))))))
  exact ⟨_, qq.ps, qq.ss⟩
theorem ok__law_do (T : Tx K mg) {k : Nat} (hk : 11 ≤ k) {g__law_rows : List Da → Mo Da} {g__law_try : List Da → Mo Da} {g__law_call : List Da → Mo Da} (C__law_rows : Cal P wd K mg base k "_law_rows" 3 g__law_rows []) (C__law_try : Cal P wd K mg base k "_law_try" 3 g__law_try []) (C__law_call : Cal P wd K mg base k "_law_call" 3 g__law_call []) (C__law_reckon : Cal P wd K mg base 11 "_law_reckon" 3 (f__law_reckon 10) []) : Cal P wd K mg base (k + 1) "_law_do" 3 (fnM 6 (m__law_do g__law_rows g__law_try g__law_call (f__law_reckon 10))) [] := by
  obtain ⟨h1, fd, F⟩ := T.d__law_do
  exact ⟨⟨_, fd, _, [], h1, F.kp, F.bindsN (ps := ["own", "row", "boxes"]) fun _ _ _ _ _ _ us hl => match us, hl with | [_, _, _], _ => rfl, .nil, okf__law_do T F hk C__law_rows C__law_try C__law_call C__law_reckon⟩⟩
theorem okf__law_try (T : Tx K mg) {fd : FuncData} (F : FunD K "_law_try" "_law_try" (defArgs S__law_try) (defBody S__law_try) (defScope S__law_try) [] [] (He.ga K "_law_try") fd) {k : Nat} (hk : 11 ≤ k) {g__law_rows : List Da → Mo Da} (C__law_rows : Cal P wd K mg base k "_law_rows" 3 g__law_rows []) : FnOk P wd K mg base (L2.CX P wd) (k + 1) (He.ga K "_law_try") fd ["own", "row", "boxes"] (SpOf K 3 (fnM 11 (m__law_try g__law_rows))) := by
  refine ok_of F sc__law_try rfl rfl fun cdv A outer s H E hr => ?_
  have nd := sc__law_try.nd
  have hx : ∀ σ, PassesAt (L2.CX P wd) (cxOf (L2.CX P wd) P wd K mg base NN__law_try "_law_try" (defScope S__law_try) (He.ga K "_law_try") cdv A outer s H E) σ E := fun σ => passAt (W := fun cls d _ H => E cls d H) (takes_of rfl rfl rfl rfl) σ
  have hx0 : ∀ {X : Cx} (σ : L2.St), PassesAt (L2.CX X.prog X.w) X σ E0 := fun σ pins H s e s' I c => passL pins σ H s e s' I c
  have po : PassesOwn (model P wd) (cxOf (L2.CX P wd) P wd K mg base NN__law_try "_law_try" (defScope S__law_try) (He.ga K "_law_try") cdv A outer s H E).A (cxOf (L2.CX P wd) P wd K mg base NN__law_try "_law_try" (defScope S__law_try) (He.ga K "_law_try") cdv A outer s H E).env (cxOf (L2.CX P wd) P wd K mg base NN__law_try "_law_try" (defScope S__law_try) (He.ga K "_law_try") cdv A outer s H E).xe := passes_of rfl
  have qq : QB (cxOf (L2.CX P wd) P wd K mg base NN__law_try "_law_try" (defScope S__law_try) (He.ga K "_law_try") cdv A outer s H E) (fun _ => E) (defBody S__law_try) _ (m__law_try g__law_rows) :=
  (qb_cons (qs_tgt (qg_tup 4 (by rfl) (qgs_cons (qg_name 3 nd) (qgs_cons (qg_name 4 nd) (qgs_cons (qg_name 5 nd) (qgs_cons (qg_name 6 nd) qgs_nil))))) (q_var 1))
  (qb_cons (qs_set 7 nd (q_call C__law_rows (hr.mono (by omega)) hx (qa_cons (q_var 0) (qa_cons (q_var 4) (qa_cons (q_var 2) qa_nil)))))
  (qb_cons (qs_if (qt_cmp (q_eq hr.units) (q_sub1 (q_var 7) q_int) q_str) (qb_cons (by exact qs_setLc 8 (by rfl) nd (qi_v (q_var 5)) (blkOk_by (own := [("one", 10)]) (N := NN__law_try) (sc := defScope S__law_try) (by decide +kernel)) (fun _ _ _ _ _ => (qg_name 10 nd)) (fun _ _ _ _ _ => (qts_one (qt_cmp (q_inU (room1 hr)) (q_sub1 (q_var 10) q_int) (q_tup (qa_cons q_non (qa_cons (q_sub1 (q_var 7) q_int) qa_nil)))))) (fun _ _ _ _ _ => (q_var 10)) eL s_L (sw_true rfl rfl rfl (by decide +kernel)))
  (qb_one (qs_if (qt_cmp (q_ne hr.units) (q_var 8) (q_L (ql_disp qa_nil))) (qb_cons (qs_setI (q_sub1 (q_var 7) q_int) (q_var 2) (q_sub1 (q_sub1 (q_var 8) q_int) q_int))
  (qb_one (qs_set 7 nd (q_call C__law_rows (hr.mono (by omega)) hx (qa_cons (q_var 0) (qa_cons (q_sub1 (q_sub1 (q_var 8) q_int) q_int) (qa_cons (q_var 2) qa_nil))))))) qb_nil))) qb_nil)
  (qb_cons (qs_if (qt_w (qw_and (qt_cmp q_isNot (q_var 6) q_non) (qw_and1 (qt_cmp (q_ne hr.units) (q_sub1 (q_var 7) q_int) q_str)))) (qb_cons (qs_set 9 nd (q_call C__law_rows (hr.mono (by omega)) hx (qa_cons (q_var 0) (qa_cons (q_var 6) (qa_cons (q_var 2) qa_nil)))))
  (qb_one (qs_set 7 nd (q_ifx (qt_cmp (q_eq hr.units) (q_sub1 (q_var 9) q_int) q_str) (q_var 7) (q_var 9))))) qb_nil)
  (qb_one (qs_ret (q_var 7)))))))
  exact ⟨_, qq.ps, qq.ss⟩
theorem ok__law_try (T : Tx K mg) {k : Nat} (hk : 11 ≤ k) {g__law_rows : List Da → Mo Da} (C__law_rows : Cal P wd K mg base k "_law_rows" 3 g__law_rows []) : Cal P wd K mg base (k + 1) "_law_try" 3 (fnM 11 (m__law_try g__law_rows)) [] := by
  obtain ⟨h1, fd, F⟩ := T.d__law_try
  exact ⟨⟨_, fd, _, [], h1, F.kp, F.bindsN (ps := ["own", "row", "boxes"]) fun _ _ _ _ _ _ us hl => match us, hl with | [_, _, _], _ => rfl, .nil, okf__law_try T F hk C__law_rows⟩⟩
theorem okf__law_call (T : Tx K mg) {fd : FuncData} (F : FunD K "_law_call" "_law_call" (defArgs S__law_call) (defBody S__law_call) (defScope S__law_call) [] [] (He.ga K "_law_call") fd) {k : Nat} (hk : 11 ≤ k) {g__law_rows : List Da → Mo Da} (C__law_reckon : Cal P wd K mg base 11 "_law_reckon" 3 (f__law_reckon 10) []) (C__law_rows : Cal P wd K mg base k "_law_rows" 3 g__law_rows []) : FnOk P wd K mg base (L2.CX P wd) (k + 1) (He.ga K "_law_call") fd ["own", "row", "boxes"] (SpOf K 3 (fnM 10 (m__law_call (f__law_reckon 10) g__law_rows))) := by
  refine ok_of F sc__law_call rfl rfl fun cdv A outer s H E hr => ?_
  have nd := sc__law_call.nd
  have hx : ∀ σ, PassesAt (L2.CX P wd) (cxOf (L2.CX P wd) P wd K mg base NN__law_call "_law_call" (defScope S__law_call) (He.ga K "_law_call") cdv A outer s H E) σ E := fun σ => passAt (W := fun cls d _ H => E cls d H) (takes_of rfl rfl rfl rfl) σ
  have hx0 : ∀ {X : Cx} (σ : L2.St), PassesAt (L2.CX X.prog X.w) X σ E0 := fun σ pins H s e s' I c => passL pins σ H s e s' I c
  have po : PassesOwn (model P wd) (cxOf (L2.CX P wd) P wd K mg base NN__law_call "_law_call" (defScope S__law_call) (He.ga K "_law_call") cdv A outer s H E).A (cxOf (L2.CX P wd) P wd K mg base NN__law_call "_law_call" (defScope S__law_call) (He.ga K "_law_call") cdv A outer s H E).env (cxOf (L2.CX P wd) P wd K mg base NN__law_call "_law_call" (defScope S__law_call) (He.ga K "_law_call") cdv A outer s H E).xe := passes_of rfl
  have qq : QB (cxOf (L2.CX P wd) P wd K mg base NN__law_call "_law_call" (defScope S__law_call) (He.ga K "_law_call") cdv A outer s H E) (fun _ => E) (defBody S__law_call) _ (m__law_call (f__law_reckon 10) g__law_rows) :=
  (qb_cons (qs_tgt (qg_tup 4 (by rfl) (qgs_cons (qg_name 3 nd) (qgs_cons (qg_name 4 nd) (qgs_cons (qg_name 5 nd) (qgs_cons (qg_name 6 nd) qgs_nil))))) (q_var 1))
  (qb_cons (qs_set 7 nd (q_H (ql_disp qa_nil)))
  (qb_cons (qs_for po (by rfl) (qi_v (q_var 6)) (qg_name 8 nd) (qb_cons (qs_set 9 nd (q_call C__law_reckon (hr.mono (by omega)) hx (qa_cons (q_var 0) (qa_cons (q_var 8) (qa_cons (q_var 2) qa_nil)))))
  (qb_cons (qs_if (qt_cmp (q_ne hr.units) (q_sub1 (q_var 9) q_int) q_str) (qb_one (qs_ret (q_var 9))) qb_nil)
  (qb_one (qs_expr (q_app (q_var 7) (q_sub1 (q_var 9) q_int)))))))
  (qb_cons (qs_set 9 nd (q_call C__law_rows (hr.mono (by omega)) hx (qa_cons (q_var 0) (qa_cons (q_sub1 (q_sub1 (q_sub1 (q_var 0) q_int) (q_var 5)) q_int) (qa_cons (q_H (ql_op ql_cat (q_var 7) (q_L (ql_op ql_rep (q_L (ql_disp (qa_cons q_int qa_nil))) (q_op q_sub q_int (q_len T.n_len (qa_cons (q_var 7) qa_nil))))))) qa_nil)))))
  (qb_cons (qs_if (qt_cmp (q_inU (room1 hr)) (q_sub1 (q_var 9) q_int) (q_tup (qa_cons q_str (qa_cons q_str qa_nil)))) (qb_cons (qs_setI (q_ifx (qt_cmp (q_eq hr.units) (q_sub1 (q_var 9) q_int) q_str) (q_sub1 (q_var 9) q_int) q_int) (q_var 2) (q_var 4))
  (qb_one (qs_ret (q_tup (qa_cons q_str qa_nil))))) qb_nil)
  (qb_one (qs_ret (q_var 9))))))))
  exact ⟨_, qq.ps, qq.ss⟩
theorem ok__law_call (T : Tx K mg) {k : Nat} (hk : 11 ≤ k) {g__law_rows : List Da → Mo Da} (C__law_reckon : Cal P wd K mg base 11 "_law_reckon" 3 (f__law_reckon 10) []) (C__law_rows : Cal P wd K mg base k "_law_rows" 3 g__law_rows []) : Cal P wd K mg base (k + 1) "_law_call" 3 (fnM 10 (m__law_call (f__law_reckon 10) g__law_rows)) [] := by
  obtain ⟨h1, fd, F⟩ := T.d__law_call
  exact ⟨⟨_, fd, _, [], h1, F.kp, F.bindsN (ps := ["own", "row", "boxes"]) fun _ _ _ _ _ _ us hl => match us, hl with | [_, _, _], _ => rfl, .nil, okf__law_call T F hk C__law_reckon C__law_rows⟩⟩
theorem z__law_rows (T : Tx K mg) : Cal P wd K mg base 11 "_law_rows" 3 (f__law_rows 0) [] := by
  obtain ⟨h1, fd, F⟩ := T.d__law_rows
  exact ⟨⟨_, fd, _, [], h1, F.kp, F.bindsN (ps := ["own", "rows", "boxes"]) fun _ _ _ _ _ _ us hl => match us, hl with | [_, _, _], _ => rfl, .nil, fn0 (k := 10) F sc__law_rows rfl⟩⟩
theorem z__law_do (T : Tx K mg) : Cal P wd K mg base 11 "_law_do" 3 (f__law_do 0) [] := by
  obtain ⟨h1, fd, F⟩ := T.d__law_do
  exact ⟨⟨_, fd, _, [], h1, F.kp, F.bindsN (ps := ["own", "row", "boxes"]) fun _ _ _ _ _ _ us hl => match us, hl with | [_, _, _], _ => rfl, .nil, fn0 (k := 10) F sc__law_do rfl⟩⟩
theorem z__law_try (T : Tx K mg) : Cal P wd K mg base 11 "_law_try" 3 (f__law_try 0) [] := by
  obtain ⟨h1, fd, F⟩ := T.d__law_try
  exact ⟨⟨_, fd, _, [], h1, F.kp, F.bindsN (ps := ["own", "row", "boxes"]) fun _ _ _ _ _ _ us hl => match us, hl with | [_, _, _], _ => rfl, .nil, fn0 (k := 10) F sc__law_try rfl⟩⟩
theorem z__law_call (T : Tx K mg) : Cal P wd K mg base 11 "_law_call" 3 (f__law_call 0) [] := by
  obtain ⟨h1, fd, F⟩ := T.d__law_call
  exact ⟨⟨_, fd, _, [], h1, F.kp, F.bindsN (ps := ["own", "row", "boxes"]) fun _ _ _ _ _ _ us hl => match us, hl with | [_, _, _], _ => rfl, .nil, fn0 (k := 10) F sc__law_call rfl⟩⟩
theorem recs__law_rows (T : Tx K mg) (C__law_reckon : Cal P wd K mg base 11 "_law_reckon" 3 (f__law_reckon 10) []) : ∀ n : Nat, (Cal P wd K mg base (11 + n) "_law_rows" 3 (f__law_rows n) []) ∧ (Cal P wd K mg base (11 + n) "_law_do" 3 (f__law_do n) []) ∧ (Cal P wd K mg base (11 + n) "_law_try" 3 (f__law_try n) []) ∧ (Cal P wd K mg base (11 + n) "_law_call" 3 (f__law_call n) []) := by
  intro n
  induction n with
  | zero => exact ⟨z__law_rows T, z__law_do T, z__law_try T, z__law_call T⟩
  | succ n ih =>
    obtain ⟨C__law_rows, C__law_do, C__law_try, C__law_call⟩ := ih
    exact ⟨ok__law_rows T (k := 11 + n) (by omega) C__law_do,
      ok__law_do T (k := 11 + n) (by omega) C__law_rows C__law_try C__law_call C__law_reckon,
      ok__law_try T (k := 11 + n) (by omega) C__law_rows,
      ok__law_call T (k := 11 + n) (by omega) C__law_reckon C__law_rows⟩
theorem okf__law_meaning (T : Tx K mg) {fd : FuncData} (F : FunD K "_law_meaning" "_law_meaning" (defArgs S__law_meaning) (defBody S__law_meaning) (defScope S__law_meaning) [] [] (He.ga K "_law_meaning") fd)  (C__law_rows : Cal P wd K mg base 101 "_law_rows" 3 (f__law_rows 90) []) : FnOk P wd K mg base (L2.CX P wd) (102) (He.ga K "_law_meaning") fd ["program"] (SpOf K 1 f__law_meaning) := by
  refine ok_of F sc__law_meaning rfl rfl fun cdv A outer s H E hr => ?_
  have nd := sc__law_meaning.nd
  have hx : ∀ σ, PassesAt (L2.CX P wd) (cxOf (L2.CX P wd) P wd K mg base NN__law_meaning "_law_meaning" (defScope S__law_meaning) (He.ga K "_law_meaning") cdv A outer s H E) σ E := fun σ => passAt (W := fun cls d _ H => E cls d H) (takes_of rfl rfl rfl rfl) σ
  have hx0 : ∀ {X : Cx} (σ : L2.St), PassesAt (L2.CX X.prog X.w) X σ E0 := fun σ pins H s e s' I c => passL pins σ H s e s' I c
  have po : PassesOwn (model P wd) (cxOf (L2.CX P wd) P wd K mg base NN__law_meaning "_law_meaning" (defScope S__law_meaning) (He.ga K "_law_meaning") cdv A outer s H E).A (cxOf (L2.CX P wd) P wd K mg base NN__law_meaning "_law_meaning" (defScope S__law_meaning) (He.ga K "_law_meaning") cdv A outer s H E).env (cxOf (L2.CX P wd) P wd K mg base NN__law_meaning "_law_meaning" (defScope S__law_meaning) (He.ga K "_law_meaning") cdv A outer s H E).xe := passes_of rfl
  have qq : QB (cxOf (L2.CX P wd) P wd K mg base NN__law_meaning "_law_meaning" (defScope S__law_meaning) (He.ga K "_law_meaning") cdv A outer s H E) (fun _ => E) (defBody S__law_meaning) _ (m__law_meaning (f__law_rows 90)) :=
  (qb_cons (qs_set 1 nd (q_H (ql_disp (qa_cons (q_var 0) (qa_cons (q_L (ql_disp qa_nil)) (qa_cons q_int qa_nil))))))
  (qb_cons (qs_set 2 nd (q_call C__law_rows (hr.mono (by omega)) hx (qa_cons (q_var 1) (qa_cons (q_sub1 (q_sub1 (q_var 0) q_int) q_int) (qa_cons (q_H (ql_op ql_rep (q_L (ql_disp (qa_cons q_int qa_nil))) q_int)) qa_nil)))))
  (qb_cons (qs_if (qt_cmp (q_eq hr.units) (q_sub1 (q_var 2) q_int) q_str) (qb_one (qs_ret q_non)) qb_nil)
  (qb_one (qs_ret (q_tup (qa_cons (q_ifx (qt_cmp (q_eq hr.units) (q_sub1 (q_var 2) q_int) q_str) (q_tup (qa_cons q_str (qa_cons q_int qa_nil))) (q_var 2)) (qa_cons (q_sub1 (q_var 1) q_int) qa_nil))))))))
  exact ⟨_, qq.ps, qq.ss⟩
theorem ok__law_meaning (T : Tx K mg)  (C__law_rows : Cal P wd K mg base 101 "_law_rows" 3 (f__law_rows 90) []) : Cal P wd K mg base (102) "_law_meaning" 1 f__law_meaning [] := by
  obtain ⟨h1, fd, F⟩ := T.d__law_meaning
  exact ⟨⟨_, fd, _, [], h1, F.kp, F.bindsN (ps := ["program"]) fun _ _ _ _ _ _ us hl => match us, hl with | [_], _ => rfl, .nil, okf__law_meaning T F  C__law_rows⟩⟩
theorem okf_law (T : Tx K mg) {fd : FuncData} (F : FunD K "law" "law" (defArgs S_law) (defBody S_law) (defScope S_law) [] [] (He.ga K "law") fd)  (C__law_town : Cal P wd K mg base 1 "_law_town" 1 f__law_town []) (C__law_program : Cal P wd K mg base 32 "_law_program" 1 f__law_program []) (C__law_meaning : Cal P wd K mg base 102 "_law_meaning" 1 f__law_meaning []) (C_is_program : Cal P wd K mg base 43 "is_program" 1 f_is_program []) (C_meaning : Cal P wd K mg base 102 "meaning" 3 f_meaning [(.int 0), (.ref (kwA ("meaning", none) "worths" K))]) (C__law_whole_list : Cal P wd K mg base 2 "_law_whole_list" 1 f__law_whole_list []) (C__law_whole : Cal P wd K mg base 1 "_law_whole" 1 f__law_whole []) : FnOk P wd K mg base (L2.CX P wd) (103) (He.ga K "law") fd ["script"] (SpOf K 1 f_law) := by
  refine ok_of F sc_law rfl rfl fun cdv A outer s H E hr => ?_
  have nd := sc_law.nd
  have hx : ∀ σ, PassesAt (L2.CX P wd) (cxOf (L2.CX P wd) P wd K mg base NN_law "law" (defScope S_law) (He.ga K "law") cdv A outer s H E) σ E := fun σ => passAt (W := fun cls d _ H => E cls d H) (takes_of rfl rfl rfl rfl) σ
  have hx0 : ∀ {X : Cx} (σ : L2.St), PassesAt (L2.CX X.prog X.w) X σ E0 := fun σ pins H s e s' I c => passL pins σ H s e s' I c
  have po : PassesOwn (model P wd) (cxOf (L2.CX P wd) P wd K mg base NN_law "law" (defScope S_law) (He.ga K "law") cdv A outer s H E).A (cxOf (L2.CX P wd) P wd K mg base NN_law "law" (defScope S_law) (He.ga K "law") cdv A outer s H E).env (cxOf (L2.CX P wd) P wd K mg base NN_law "law" (defScope S_law) (He.ga K "law") cdv A outer s H E).xe := passes_of rfl
  have qq : QB (cxOf (L2.CX P wd) P wd K mg base NN_law "law" (defScope S_law) (He.ga K "law") cdv A outer s H E) (fun _ => E) (defBody S_law) _ (m_law f__law_town f__law_program f__law_meaning f_is_program f_meaning f__law_whole_list f__law_whole) :=
  (qb_cons (qs_set 1 nd (q_call C__law_town (hr.mono (by omega)) hx (qa_cons (q_var 0) qa_nil)))
  (qb_cons (qs_for po (by rfl) (qi_r1 T.n_range (qa_cons q_int qa_nil)) (qg_name 2 nd) (qb_cons (qs_set 3 nd (q_call C__law_program (hr.mono (by omega)) hx (qa_cons (q_var 1) qa_nil)))
  (qb_cons (qs_set 4 nd (q_call C__law_meaning (hr.mono (by omega)) hx (qa_cons (q_var 3) qa_nil)))
  (qb_cons (qs_if (qt_cmp q_isNot (q_call C_is_program (hr.mono (by omega)) hx (qa_cons (q_var 3) qa_nil)) q_bl) (qb_one (qs_ret q_bl)) qb_nil)
  (qb_one (qs_if (qt_cmp q_isNot (q_var 4) q_non) (qb_cons (qs_set 5 nd (q_call C_meaning (hr.mono (by omega)) hx (qa_cons (q_var 3) qa_nil) (hdd := fun w m => (.cons (.int _) (.cons (T.w_meaning_worths w m) .nil)))))
  (qb_cons (qs_if (qt_w (qw_or (qt_cmp (q_ne hr.units) (q_var 5) (q_var 4)) (qw_or (qt_not (qt_val (q_isi .tuple T.n_isinstance T.n_tuple (q_var 5)))) (qw_or1 (qt_not (qt_val (q_isi .tuple T.n_isinstance T.n_tuple (q_sub1 (q_var 5) q_int)))))))) (qb_one (qs_ret q_bl)) qb_nil)
  (qb_one (qs_if (qt_w (qw_or (qt_not (qt_val (q_call C__law_whole_list (hr.mono (by omega)) hx (qa_cons (q_sub1 (q_var 5) q_int) qa_nil)))) (qw_or1 (qt_not (qt_val (q_call C__law_whole (hr.mono (by omega)) hx (qa_cons (q_sub1 (q_sub1 (q_var 5) q_int) (q_neg q_int)) qa_nil))))))) (qb_one (qs_ret q_bl)) qb_nil)))) qb_nil))))))
  (qb_one (qs_ret q_bl))))
  exact ⟨_, qq.ps, qq.ss⟩
end
theorem the_law {w : World} {K : PySem.W.Frag} {mg : Str → Option Value} {base : Heap} {fd : FuncData} (T : Tx K mg) (F : FunD K "law" "law" (defArgs S_law) (defBody S_law) (defScope S_law) [] [] (He.ga K "law") fd) :
    FnOk (PySem.Challenge.rw_coldlanes_k01_whole_meaning).prog w K mg base (L2.CX (PySem.Challenge.rw_coldlanes_k01_whole_meaning).prog w) 103 (He.ga K "law") fd ["script"] (SpOf K 1 f_law) := by
    have C_is_whole := ok_is_whole (P := PySem.Challenge.rw_coldlanes_k01_whole_meaning.prog) (wd := w) (base := base) T 
    obtain ⟨C_is_worth, C_is_worth_d1⟩ := recs_is_worth (P := PySem.Challenge.rw_coldlanes_k01_whole_meaning.prog) (wd := w) (base := base) T C_is_whole 10
    have C_is_call := ok_is_call (P := PySem.Challenge.rw_coldlanes_k01_whole_meaning.prog) (wd := w) (base := base) T C_is_whole C_is_worth_d1
    obtain ⟨C_is_body, C_is_row, C_is_try⟩ := recs_is_body (P := PySem.Challenge.rw_coldlanes_k01_whole_meaning.prog) (wd := w) (base := base) T C_is_worth_d1 C_is_whole C_is_call 30
    have C_is_program := ok_is_program (P := PySem.Challenge.rw_coldlanes_k01_whole_meaning.prog) (wd := w) (base := base) T C_is_whole C_is_body
    have C_look_program := ok_look_program (P := PySem.Challenge.rw_coldlanes_k01_whole_meaning.prog) (wd := w) (base := base) T C_is_program
    have C_Plain___init__ := ok_Plain___init__ (P := PySem.Challenge.rw_coldlanes_k01_whole_meaning.prog) (wd := w) (base := base) T C_look_program
    have C_reckoned := ok_reckoned (P := PySem.Challenge.rw_coldlanes_k01_whole_meaning.prog) (wd := w) (base := base) T 
    obtain C_Plain_worth := recs_Plain_worth (P := PySem.Challenge.rw_coldlanes_k01_whole_meaning.prog) (wd := w) (base := base) T C_reckoned 10
    obtain ⟨C_Plain_all_rows, C_Plain_row, C_Plain_looped, C_Plain_tried, C_Plain_called, C_Plain_function⟩ := recs_Plain_all_rows (P := PySem.Challenge.rw_coldlanes_k01_whole_meaning.prog) (wd := w) (base := base) T C_Plain_worth 90
    have C_look_number := ok_look_number (P := PySem.Challenge.rw_coldlanes_k01_whole_meaning.prog) (wd := w) (base := base) T C_is_whole
    have C_meaning := ok_meaning (P := PySem.Challenge.rw_coldlanes_k01_whole_meaning.prog) (wd := w) (base := base) T C_Plain___init__ C_look_number C_is_whole C_Plain_function
    have C__law_town := ok__law_town (P := PySem.Challenge.rw_coldlanes_k01_whole_meaning.prog) (wd := w) (base := base) T 
    have C__law_draw := ok__law_draw (P := PySem.Challenge.rw_coldlanes_k01_whole_meaning.prog) (wd := w) (base := base) T 
    have C__law_pick := ok__law_pick (P := PySem.Challenge.rw_coldlanes_k01_whole_meaning.prog) (wd := w) (base := base) T C__law_draw
    have C__law_whole := ok__law_whole (P := PySem.Challenge.rw_coldlanes_k01_whole_meaning.prog) (wd := w) (base := base) T 
    have C__law_whole_list := ok__law_whole_list (P := PySem.Challenge.rw_coldlanes_k01_whole_meaning.prog) (wd := w) (base := base) T C__law_whole
    obtain C__law_worth := recs__law_worth (P := PySem.Challenge.rw_coldlanes_k01_whole_meaning.prog) (wd := w) (base := base) T C__law_draw C__law_pick 8
    obtain ⟨C__law_body, C__law_row⟩ := recs__law_body (P := PySem.Challenge.rw_coldlanes_k01_whole_meaning.prog) (wd := w) (base := base) T C__law_pick C__law_draw C__law_worth 20
    obtain C__law_rows_of := recs__law_rows_of (P := PySem.Challenge.rw_coldlanes_k01_whole_meaning.prog) (wd := w) (base := base) T  10
    obtain C__law_size := recs__law_size (P := PySem.Challenge.rw_coldlanes_k01_whole_meaning.prog) (wd := w) (base := base) T C__law_rows_of 20
    have C__law_program := ok__law_program (P := PySem.Challenge.rw_coldlanes_k01_whole_meaning.prog) (wd := w) (base := base) T C__law_draw C__law_body C__law_pick C__law_size
    obtain C__law_reckon := recs__law_reckon (P := PySem.Challenge.rw_coldlanes_k01_whole_meaning.prog) (wd := w) (base := base) T  10
    obtain ⟨C__law_rows, C__law_do, C__law_try, C__law_call⟩ := recs__law_rows (P := PySem.Challenge.rw_coldlanes_k01_whole_meaning.prog) (wd := w) (base := base) T C__law_reckon 90
    have C__law_meaning := ok__law_meaning (P := PySem.Challenge.rw_coldlanes_k01_whole_meaning.prog) (wd := w) (base := base) T C__law_rows
    exact okf_law T F C__law_town C__law_program C__law_meaning C_is_program C_meaning C__law_whole_list C__law_whole
def hd_is_whole : He.DefD := ⟨("is_whole", none), "is_whole", "is_whole", defArgs S_is_whole, defBody S_is_whole, defScope S_is_whole, [], []⟩
def hd_is_worth : He.DefD := ⟨("is_worth", none), "is_worth", "is_worth", defArgs S_is_worth, defBody S_is_worth, defScope S_is_worth, [(.int 0)], []⟩
def hd_is_call : He.DefD := ⟨("is_call", none), "is_call", "is_call", defArgs S_is_call, defBody S_is_call, defScope S_is_call, [], []⟩
def hd_is_body : He.DefD := ⟨("is_body", none), "is_body", "is_body", defArgs S_is_body, defBody S_is_body, defScope S_is_body, [], []⟩
def hd_is_row : He.DefD := ⟨("is_row", none), "is_row", "is_row", defArgs S_is_row, defBody S_is_row, defScope S_is_row, [], []⟩
def hd_is_try : He.DefD := ⟨("is_try", none), "is_try", "is_try", defArgs S_is_try, defBody S_is_try, defScope S_is_try, [], []⟩
def hd_is_program : He.DefD := ⟨("is_program", none), "is_program", "is_program", defArgs S_is_program, defBody S_is_program, defScope S_is_program, [], []⟩
def hd_look_program : He.DefD := ⟨("look_program", none), "look_program", "look_program", defArgs S_look_program, defBody S_look_program, defScope S_look_program, [], []⟩
def hd_Plain___init__ : He.DefD := ⟨("Plain", some "__init__"), "__init__", "Plain.__init__", defArgs S_Plain___init__, defBody S_Plain___init__, defScope S_Plain___init__, [], []⟩
def hd_reckoned : He.DefD := ⟨("reckoned", none), "reckoned", "reckoned", defArgs S_reckoned, defBody S_reckoned, defScope S_reckoned, [], []⟩
def hd_Plain_worth : He.DefD := ⟨("Plain", some "worth"), "worth", "Plain.worth", defArgs S_Plain_worth, defBody S_Plain_worth, defScope S_Plain_worth, [], []⟩
def hd_Plain_all_rows : He.DefD := ⟨("Plain", some "all_rows"), "all_rows", "Plain.all_rows", defArgs S_Plain_all_rows, defBody S_Plain_all_rows, defScope S_Plain_all_rows, [], []⟩
def hd_Plain_row : He.DefD := ⟨("Plain", some "row"), "row", "Plain.row", defArgs S_Plain_row, defBody S_Plain_row, defScope S_Plain_row, [], []⟩
def hd_Plain_looped : He.DefD := ⟨("Plain", some "looped"), "looped", "Plain.looped", defArgs S_Plain_looped, defBody S_Plain_looped, defScope S_Plain_looped, [], []⟩
def hd_Plain_tried : He.DefD := ⟨("Plain", some "tried"), "tried", "Plain.tried", defArgs S_Plain_tried, defBody S_Plain_tried, defScope S_Plain_tried, [], []⟩
def hd_Plain_called : He.DefD := ⟨("Plain", some "called"), "called", "Plain.called", defArgs S_Plain_called, defBody S_Plain_called, defScope S_Plain_called, [], []⟩
def hd_Plain_function : He.DefD := ⟨("Plain", some "function"), "function", "Plain.function", defArgs S_Plain_function, defBody S_Plain_function, defScope S_Plain_function, [], []⟩
def hd_look_number : He.DefD := ⟨("look_number", none), "look_number", "look_number", defArgs S_look_number, defBody S_look_number, defScope S_look_number, [], []⟩
def hd_meaning : He.DefD := ⟨("meaning", none), "meaning", "meaning", defArgs S_meaning, defBody S_meaning, defScope S_meaning, [], [("goal", (.int 0)), ("worths", (.adr (kwA ("meaning", none) "worths")))]⟩
def hd__law_town : He.DefD := ⟨("_law_town", none), "_law_town", "_law_town", defArgs S__law_town, defBody S__law_town, defScope S__law_town, [], []⟩
def hd__law_draw : He.DefD := ⟨("_law_draw", none), "_law_draw", "_law_draw", defArgs S__law_draw, defBody S__law_draw, defScope S__law_draw, [], []⟩
def hd__law_pick : He.DefD := ⟨("_law_pick", none), "_law_pick", "_law_pick", defArgs S__law_pick, defBody S__law_pick, defScope S__law_pick, [], []⟩
def hd__law_whole : He.DefD := ⟨("_law_whole", none), "_law_whole", "_law_whole", defArgs S__law_whole, defBody S__law_whole, defScope S__law_whole, [], []⟩
def hd__law_whole_list : He.DefD := ⟨("_law_whole_list", none), "_law_whole_list", "_law_whole_list", defArgs S__law_whole_list, defBody S__law_whole_list, defScope S__law_whole_list, [], []⟩
def hd__law_worth : He.DefD := ⟨("_law_worth", none), "_law_worth", "_law_worth", defArgs S__law_worth, defBody S__law_worth, defScope S__law_worth, [], []⟩
def hd__law_body : He.DefD := ⟨("_law_body", none), "_law_body", "_law_body", defArgs S__law_body, defBody S__law_body, defScope S__law_body, [], []⟩
def hd__law_row : He.DefD := ⟨("_law_row", none), "_law_row", "_law_row", defArgs S__law_row, defBody S__law_row, defScope S__law_row, [], []⟩
def hd__law_rows_of : He.DefD := ⟨("_law_rows_of", none), "_law_rows_of", "_law_rows_of", defArgs S__law_rows_of, defBody S__law_rows_of, defScope S__law_rows_of, [], []⟩
def hd__law_size : He.DefD := ⟨("_law_size", none), "_law_size", "_law_size", defArgs S__law_size, defBody S__law_size, defScope S__law_size, [], []⟩
def hd__law_program : He.DefD := ⟨("_law_program", none), "_law_program", "_law_program", defArgs S__law_program, defBody S__law_program, defScope S__law_program, [], []⟩
def hd__law_reckon : He.DefD := ⟨("_law_reckon", none), "_law_reckon", "_law_reckon", defArgs S__law_reckon, defBody S__law_reckon, defScope S__law_reckon, [], []⟩
def hd__law_rows : He.DefD := ⟨("_law_rows", none), "_law_rows", "_law_rows", defArgs S__law_rows, defBody S__law_rows, defScope S__law_rows, [], []⟩
def hd__law_do : He.DefD := ⟨("_law_do", none), "_law_do", "_law_do", defArgs S__law_do, defBody S__law_do, defScope S__law_do, [], []⟩
def hd__law_try : He.DefD := ⟨("_law_try", none), "_law_try", "_law_try", defArgs S__law_try, defBody S__law_try, defScope S__law_try, [], []⟩
def hd__law_call : He.DefD := ⟨("_law_call", none), "_law_call", "_law_call", defArgs S__law_call, defBody S__law_call, defScope S__law_call, [], []⟩
def hd__law_meaning : He.DefD := ⟨("_law_meaning", none), "_law_meaning", "_law_meaning", defArgs S__law_meaning, defBody S__law_meaning, defScope S__law_meaning, [], []⟩
def hd_law : He.DefD := ⟨("law", none), "law", "law", defArgs S_law, defBody S_law, defScope S_law, [], []⟩
def hfn : List He.DefD := [hd_is_whole, hd_is_worth, hd_is_call, hd_is_body, hd_is_row, hd_is_try, hd_is_program, hd_look_program, hd_Plain___init__, hd_reckoned, hd_Plain_worth, hd_Plain_all_rows, hd_Plain_row, hd_Plain_looped, hd_Plain_tried, hd_Plain_called, hd_Plain_function, hd_look_number, hd_meaning, hd__law_town, hd__law_draw, hd__law_pick, hd__law_whole, hd__law_whole_list, hd__law_worth, hd__law_body, hd__law_row, hd__law_rows_of, hd__law_size, hd__law_program, hd__law_reckon, hd__law_rows, hd__law_do, hd__law_try, hd__law_call, hd__law_meaning, hd_law]
def hfa0 : List He.Fa := [.glo "is_whole", .glo "is_worth", .glo "is_call", .glo "is_body", .glo "is_row", .glo "is_try", .glo "is_program", .glo "look_program", .glo "reckoned", .glo "look_number", .glo "meaning", .glo "_law_town", .glo "_law_draw", .glo "_law_pick", .glo "_law_whole", .glo "_law_whole_list", .glo "_law_worth", .glo "_law_body", .glo "_law_row", .glo "_law_rows_of", .glo "_law_size", .glo "_law_program", .glo "_law_reckon", .glo "_law_rows", .glo "_law_do"]
def hfa1 : List He.Fa := [.glo "_law_try", .glo "_law_call", .glo "_law_meaning", .glo "law", .free "all", .free "bool", .free "int", .free "isinstance", .free "len", .free "list", .free "min", .free "range", .free "str", .free "sum", .free "tuple", .glo "Plain", .mkr "Plain", .cls "Plain", .meth "Plain" "worth", .meth "Plain" "all_rows", .meth "Plain" "row", .meth "Plain" "looped", .meth "Plain" "tried", .meth "Plain" "called", .meth "Plain" "function"]
def hfa2 : List He.Fa := [.noat "Plain" "told", .noat "Plain" "program", .int "MOST_VALUE" 999, .int "BOXES" 8, .int "KINDS" 5, .int "FAULT" 0, .int "MOST_FUNCTIONS" 5, .int "MOST_ROWS" 8, .int "MOST_DEEP" 6, .glo "SIGNS", .glo "LONGS", .glo "ON"]
def hfa : List He.Fa := hfa0 ++ hfa1 ++ hfa2
def hex (K : PySem.W.Frag) : Bool := dB K (.ref (He.ga K "SIGNS")) (.tup [(.str "+"), (.str "-"), (.str "*"), (.str "/")]) && (dB K (.ref (He.ga K "LONGS")) (.tup [(.tup [(.str "set"), (.int 3)]), (.tup [(.str "out"), (.int 2)]), (.tup [(.str "throw"), (.int 3)]), (.tup [(.str "call"), (.int 4)]), (.tup [(.str "if"), (.int 4)]), (.tup [(.str "loop"), (.int 3)]), (.tup [(.str "break"), (.int 1)]), (.tup [(.str "return"), (.int 2)]), (.tup [(.str "try"), (.int 4)])]) && (dB K (.ref (He.ga K "ON")) (.tup [(.str "on")]) && (dB K (.ref (kwA ("meaning", none) "worths" K)) (.tup []) && (true))))
abbrev RR : PySem.W.OpenRow := PySem.W.OpenLaw.row PySem.Challenge.rw_coldlanes_k01_whole_meaning
abbrev hk : PySem.W.Hook := He.hookX 5 hfa hfn [] [] hex
def hob (s : PySem.W.SharedT) : He.AlX := He.obsX 5 hfa hfn [] [] hex (HandSHeadRun.getT s)
theorem hob_eq (s : PySem.W.SharedT) : hob s = hk.obs s.abs := He.obsX_eq (HandSHeadRun.getT_eq s)
def loose0 : List PySem.Str := ["LaneError", "BadNumber", "BadTree", "is_whole", "look_number", "MOST_VALUE", "BOXES", "KINDS", "FAULT", "MOST_FUNCTIONS", "MOST_ROWS", "MOST_DEEP", "SIGNS", "LONGS", "is_worth", "is_body", "is_row", "is_call", "is_try", "is_program", "look_program", "reckoned", "ON", "Plain", "meaning", "_law_town", "_law_draw", "_law_pick", "_law_whole", "_law_whole_list"]
def loose1 : List PySem.Str := ["_law_worth", "_law_body", "_law_row", "_law_rows_of", "_law_size", "_law_program", "_law_reckon", "_law_rows", "_law_do", "_law_try", "_law_call", "_law_meaning"]
def loose : List PySem.Str := loose0 ++ loose1
theorem hrun (w : World) : HandSHeadRun.RunEq RR (PySem.W.view RR.prog [46]) hk hob 6000 loose w := by
  intro os
  kernel_rfl
theorem tx_of {w : World} {K : PySem.W.Frag} {h : Heap} {mg : Str → Option Value} (X : K.In h) (G : h.Ns mainGlobals mg) (c : He.SaysX hfa hfn [] [] hex w h K) : Tx K mg := by
  have e0 : hex K = true := c.more
  unfold hex at e0
  obtain ⟨z0, e1⟩ := He.ba e0
  obtain ⟨z1, e2⟩ := He.ba e1
  obtain ⟨z2, e3⟩ := He.ba e2
  obtain ⟨z3, e4⟩ := He.ba e3
  exact {
n_all := He.free_ok X G (c.t.d.fact 29 (f := .free "all") rfl),
    n_bool := He.free_ok X G (c.t.d.fact 30 (f := .free "bool") rfl),
    n_int := He.free_ok X G (c.t.d.fact 31 (f := .free "int") rfl),
    n_isinstance := He.free_ok X G (c.t.d.fact 32 (f := .free "isinstance") rfl),
    n_len := He.free_ok X G (c.t.d.fact 33 (f := .free "len") rfl),
    n_list := He.free_ok X G (c.t.d.fact 34 (f := .free "list") rfl),
    n_min := He.free_ok X G (c.t.d.fact 35 (f := .free "min") rfl),
    n_range := He.free_ok X G (c.t.d.fact 36 (f := .free "range") rfl),
    n_str := He.free_ok X G (c.t.d.fact 37 (f := .free "str") rfl),
    n_sum := He.free_ok X G (c.t.d.fact 38 (f := .free "sum") rfl),
    n_tuple := He.free_ok X G (c.t.d.fact 39 (f := .free "tuple") rfl),
    c_MOST_VALUE := He.int_ok X G (c.t.d.fact 52 (f := .int "MOST_VALUE" 999) rfl),
    c_BOXES := He.int_ok X G (c.t.d.fact 53 (f := .int "BOXES" 8) rfl),
    c_KINDS := He.int_ok X G (c.t.d.fact 54 (f := .int "KINDS" 5) rfl),
    c_FAULT := He.int_ok X G (c.t.d.fact 55 (f := .int "FAULT" 0) rfl),
    c_MOST_FUNCTIONS := He.int_ok X G (c.t.d.fact 56 (f := .int "MOST_FUNCTIONS" 5) rfl),
    c_MOST_ROWS := He.int_ok X G (c.t.d.fact 57 (f := .int "MOST_ROWS" 8) rfl),
    c_MOST_DEEP := He.int_ok X G (c.t.d.fact 58 (f := .int "MOST_DEEP" 6) rfl),
    c_SIGNS := He.glo_ok X G (c.t.d.fact 59 (f := .glo "SIGNS") rfl),
    c_LONGS := He.glo_ok X G (c.t.d.fact 60 (f := .glo "LONGS") rfl),
    c_ON := He.glo_ok X G (c.t.d.fact 61 (f := .glo "ON") rfl),
    r_SIGNS := dB_ref z0,
    r_LONGS := dB_ref z1,
    r_ON := dB_ref z2,
    w_meaning_worths := dB_ref z3,
    q_Plain_told := (clsF_cons (He.cls_ok (c.t.d.fact 42 (f := .cls "Plain") rfl)) (He.noat_ok (c.t.d.fact 50 (f := .noat "Plain" "told") rfl)) clsF_nil),
    q_Plain_program := (clsF_cons (He.cls_ok (c.t.d.fact 42 (f := .cls "Plain") rfl)) (He.noat_ok (c.t.d.fact 51 (f := .noat "Plain" "program") rfl)) clsF_nil),
    d_is_whole := ⟨He.glo_ok X G (c.t.d.fact 0 (f := .glo "is_whole") rfl), c.t.d.def_ 0 (d := hd_is_whole) rfl⟩,
    d_is_worth := ⟨He.glo_ok X G (c.t.d.fact 1 (f := .glo "is_worth") rfl), c.t.d.def_ 1 (d := hd_is_worth) rfl⟩,
    d_is_call := ⟨He.glo_ok X G (c.t.d.fact 2 (f := .glo "is_call") rfl), c.t.d.def_ 2 (d := hd_is_call) rfl⟩,
    d_is_body := ⟨He.glo_ok X G (c.t.d.fact 3 (f := .glo "is_body") rfl), c.t.d.def_ 3 (d := hd_is_body) rfl⟩,
    d_is_row := ⟨He.glo_ok X G (c.t.d.fact 4 (f := .glo "is_row") rfl), c.t.d.def_ 4 (d := hd_is_row) rfl⟩,
    d_is_try := ⟨He.glo_ok X G (c.t.d.fact 5 (f := .glo "is_try") rfl), c.t.d.def_ 5 (d := hd_is_try) rfl⟩,
    d_is_program := ⟨He.glo_ok X G (c.t.d.fact 6 (f := .glo "is_program") rfl), c.t.d.def_ 6 (d := hd_is_program) rfl⟩,
    d_look_program := ⟨He.glo_ok X G (c.t.d.fact 7 (f := .glo "look_program") rfl), c.t.d.def_ 7 (d := hd_look_program) rfl⟩,
    d_Plain___init__ := ⟨⟨He.glo_ok X G (c.t.d.fact 40 (f := .glo "Plain") rfl), He.mkr_ok (c.t.d.fact 41 (f := .mkr "Plain") rfl)⟩, c.t.d.def_ 8 (d := hd_Plain___init__) rfl⟩,
    d_reckoned := ⟨He.glo_ok X G (c.t.d.fact 8 (f := .glo "reckoned") rfl), c.t.d.def_ 9 (d := hd_reckoned) rfl⟩,
    d_Plain_worth := ⟨⟨He.cls_ok (c.t.d.fact 42 (f := .cls "Plain") rfl), He.meth_ok (c.t.d.fact 43 (f := .meth "Plain" "worth") rfl)⟩, c.t.d.def_ 10 (d := hd_Plain_worth) rfl⟩,
    d_Plain_all_rows := ⟨⟨He.cls_ok (c.t.d.fact 42 (f := .cls "Plain") rfl), He.meth_ok (c.t.d.fact 44 (f := .meth "Plain" "all_rows") rfl)⟩, c.t.d.def_ 11 (d := hd_Plain_all_rows) rfl⟩,
    d_Plain_row := ⟨⟨He.cls_ok (c.t.d.fact 42 (f := .cls "Plain") rfl), He.meth_ok (c.t.d.fact 45 (f := .meth "Plain" "row") rfl)⟩, c.t.d.def_ 12 (d := hd_Plain_row) rfl⟩,
    d_Plain_looped := ⟨⟨He.cls_ok (c.t.d.fact 42 (f := .cls "Plain") rfl), He.meth_ok (c.t.d.fact 46 (f := .meth "Plain" "looped") rfl)⟩, c.t.d.def_ 13 (d := hd_Plain_looped) rfl⟩,
    d_Plain_tried := ⟨⟨He.cls_ok (c.t.d.fact 42 (f := .cls "Plain") rfl), He.meth_ok (c.t.d.fact 47 (f := .meth "Plain" "tried") rfl)⟩, c.t.d.def_ 14 (d := hd_Plain_tried) rfl⟩,
    d_Plain_called := ⟨⟨He.cls_ok (c.t.d.fact 42 (f := .cls "Plain") rfl), He.meth_ok (c.t.d.fact 48 (f := .meth "Plain" "called") rfl)⟩, c.t.d.def_ 15 (d := hd_Plain_called) rfl⟩,
    d_Plain_function := ⟨⟨He.cls_ok (c.t.d.fact 42 (f := .cls "Plain") rfl), He.meth_ok (c.t.d.fact 49 (f := .meth "Plain" "function") rfl)⟩, c.t.d.def_ 16 (d := hd_Plain_function) rfl⟩,
    d_look_number := ⟨He.glo_ok X G (c.t.d.fact 9 (f := .glo "look_number") rfl), c.t.d.def_ 17 (d := hd_look_number) rfl⟩,
    d_meaning := ⟨He.glo_ok X G (c.t.d.fact 10 (f := .glo "meaning") rfl), c.t.d.def_ 18 (d := hd_meaning) rfl⟩,
    d__law_town := ⟨He.glo_ok X G (c.t.d.fact 11 (f := .glo "_law_town") rfl), c.t.d.def_ 19 (d := hd__law_town) rfl⟩,
    d__law_draw := ⟨He.glo_ok X G (c.t.d.fact 12 (f := .glo "_law_draw") rfl), c.t.d.def_ 20 (d := hd__law_draw) rfl⟩,
    d__law_pick := ⟨He.glo_ok X G (c.t.d.fact 13 (f := .glo "_law_pick") rfl), c.t.d.def_ 21 (d := hd__law_pick) rfl⟩,
    d__law_whole := ⟨He.glo_ok X G (c.t.d.fact 14 (f := .glo "_law_whole") rfl), c.t.d.def_ 22 (d := hd__law_whole) rfl⟩,
    d__law_whole_list := ⟨He.glo_ok X G (c.t.d.fact 15 (f := .glo "_law_whole_list") rfl), c.t.d.def_ 23 (d := hd__law_whole_list) rfl⟩,
    d__law_worth := ⟨He.glo_ok X G (c.t.d.fact 16 (f := .glo "_law_worth") rfl), c.t.d.def_ 24 (d := hd__law_worth) rfl⟩,
    d__law_body := ⟨He.glo_ok X G (c.t.d.fact 17 (f := .glo "_law_body") rfl), c.t.d.def_ 25 (d := hd__law_body) rfl⟩,
    d__law_row := ⟨He.glo_ok X G (c.t.d.fact 18 (f := .glo "_law_row") rfl), c.t.d.def_ 26 (d := hd__law_row) rfl⟩,
    d__law_rows_of := ⟨He.glo_ok X G (c.t.d.fact 19 (f := .glo "_law_rows_of") rfl), c.t.d.def_ 27 (d := hd__law_rows_of) rfl⟩,
    d__law_size := ⟨He.glo_ok X G (c.t.d.fact 20 (f := .glo "_law_size") rfl), c.t.d.def_ 28 (d := hd__law_size) rfl⟩,
    d__law_program := ⟨He.glo_ok X G (c.t.d.fact 21 (f := .glo "_law_program") rfl), c.t.d.def_ 29 (d := hd__law_program) rfl⟩,
    d__law_reckon := ⟨He.glo_ok X G (c.t.d.fact 22 (f := .glo "_law_reckon") rfl), c.t.d.def_ 30 (d := hd__law_reckon) rfl⟩,
    d__law_rows := ⟨He.glo_ok X G (c.t.d.fact 23 (f := .glo "_law_rows") rfl), c.t.d.def_ 31 (d := hd__law_rows) rfl⟩,
    d__law_do := ⟨He.glo_ok X G (c.t.d.fact 24 (f := .glo "_law_do") rfl), c.t.d.def_ 32 (d := hd__law_do) rfl⟩,
    d__law_try := ⟨He.glo_ok X G (c.t.d.fact 25 (f := .glo "_law_try") rfl), c.t.d.def_ 33 (d := hd__law_try) rfl⟩,
    d__law_call := ⟨He.glo_ok X G (c.t.d.fact 26 (f := .glo "_law_call") rfl), c.t.d.def_ 34 (d := hd__law_call) rfl⟩,
    d__law_meaning := ⟨He.glo_ok X G (c.t.d.fact 27 (f := .glo "_law_meaning") rfl), c.t.d.def_ 35 (d := hd__law_meaning) rfl⟩,
    d_law := ⟨He.glo_ok X G (c.t.d.fact 28 (f := .glo "law") rfl), c.t.d.def_ 36 (d := hd_law) rfl⟩ }
end CL
open PySem PySem.W PySem.Calls PyProof.Rows
theorem PySem.Challenge.cw_coldlanes_k01_whole_meaning_holds : PySem.Challenge.rw_coldlanes_k01_whole_meaning.Holds := by
  w_on; o_law
  refine HandSHeadRun.head_any (r := OpenLaw.row PySem.Challenge.rw_coldlanes_k01_whole_meaning) (q := view (OpenLaw.row PySem.Challenge.rw_coldlanes_k01_whole_meaning).prog [46]) (H := CL.hk) (ob := CL.hob) (M := 6000) (loose := CL.loose) (d := HandSHeadRun.topDef (OpenLaw.row PySem.Challenge.rw_coldlanes_k01_whole_meaning).prog 46) (kwd := []) CL.hob_eq
    (by kernel_rfl) (fun s => by kernel_rfl) CL.hrun (by kernel_rfl) (by kernel_rfl) (by kernel_rfl) (by rfl) (by first | assumption | decide +kernel) (by decide +kernel) ⟨rfl, rfl, rfl, rfl, rfl, by decide +kernel⟩ ?hw ?hc
  case hw => w_witness2
  case hc =>
    refine CL.walkE (l := PySem.Challenge.rw_coldlanes_k01_whole_meaning) (n := 63) (k := 103) (x := "script") rfl (by decide) (by kernel_rfl) ⟨rfl, by decide, by decide⟩ ?F
    intro w mg fa h Y G hmg0
    obtain ⟨K, KX, c⟩ := Y
    have T : CL.Tx K mg := CL.tx_of KX G c
    have hmg : mg ("law" : PySem.Str) = some (.ref fa) := by
      have e : (HandSHeadRun.topDef (OpenLaw.row PySem.Challenge.rw_coldlanes_k01_whole_meaning).prog 46).name = ("law" : PySem.Str) := by kernel_rfl
      rw [← e]
      exact hmg0
    obtain ⟨hl, fd, F⟩ := T.d_law
    rw [hmg] at hl
    cases hl
    have b := L2.FunD.bindsA (ps := ["script"]) F fun _ _ _ _ _ _ us hl => match us, hl with | [_], _ => rfl
    exact ⟨K, fd, CL.SpOf K 1 CL.f_law, KX, fun s v => b s [v] rfl, fun H a ns hl hO hS => CL.law_start hO hS (CL.law_true ns hl), fun base _ _ => CL.the_law T F⟩
