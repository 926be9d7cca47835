import PyProof.Rows.All
import Wide.All
import OpenK.AllK
import Wide.FinOn
import HandS.ForMost
import HandS.ForExc
import HandS.HeadHook1
import HandS.CallSlots
import HandS.TupAny
import HandS.TupLe
import HandS.Deep
import HandS.IsInst
import HandS.Defaults
import HandS.Strs
import HandS.SetFor
import HandS.MakeKwOnly
import HandS.ExcOwn
import KE.KExcIs
import KE.KDictZip
import HandS.Iter
import PyProof.NeKinds
import HandS.Head0
import HandS.Head1
import HandS.Head2
import HandS.HeadEnd
import HandS.HeadHook2
import HandS.HeadHook3
import HandS.HeadHook4
import PySem.Challenge.RW_coldlanes_k27_whole_moved
set_option Elab.async false
set_option linter.all false
set_option maxRecDepth 100000
set_option maxHeartbeats 4000000
namespace CL
open PySem PySem.Spec L2
/-- data without addresses; han: a thing that may change, by its number in the store; fro: the script -/
inductive Da where
  | non | bl (b : Bool) | int (i : Int) | str (s : Str) | tup (xs : List Da) | lst (xs : List Da) | fro (xs : List Da) | han (n : Nat)
inductive Cell where
  | lst (xs : List Da) | ins (c : Str) (fs : List (Str × Da)) | dK (kvs : List (Key × Da)) | exn (c : Str) | dead
abbrev Store := List Cell
/-- a world: where the things stand, what they hold, the heap; pv: lists that are being made -/
structure Wd where
  io : List Addr
  st : Store
  H : Hp
  pv : List Addr
def LiveS (w : Wd) (a : Addr) : Prop := ∃ (n : Nat) (c : Cell), w.io[n]? = some a ∧ w.st[n]? = some c ∧ c ≠ .dead
def Live (w : Wd) (a : Addr) : Prop := a ∈ w.pv ∨ LiveS w a
/-- a list of the written part -/
def KLst (K : PySem.W.Frag) (a : Addr) (xs : List V) : Prop := ∃ (o : Obj) (its : Array Value) (n : Nat), K.lookup a = some o ∧ o.cls = .type "list" ∧ o.dict = none ∧ o.data = .seq its n ∧ its.size ≤ sizeLine ∧ Vals xs its.toList
def FrL (K : PySem.W.Frag) (H : Hp) (a : Addr) (xs : List V) : Prop := (∃ o, H a = some (.frz o (.lst xs))) ∨ KLst K a xs
theorem FrL.sq {K : PySem.W.Frag} {H : Hp} {a : Addr} {xs : List V} (h : FrL K H a xs) : SqL K H a xs := by
  rcases h with h | h
  · exact .inl (.inr h)
  · exact .inr h
mutual
inductive Rep (K : PySem.W.Frag) (w : Wd) : V → Da → Prop
  | non : Rep K w .non .non
  | bl (b : Bool) : Rep K w (.bl b) (.bl b)
  | int (i : Int) : Rep K w (.int i) (.int i)
  | str (s : Str) : Rep K w (.str s) (.str s)
  | tup {a : Addr} {vs : List V} {ds : List Da} : SqT K w.H a vs → RepL K w vs ds → Rep K w (.ref a) (.tup ds)
  | lst {a : Addr} {vs : List V} {ds : List Da} : w.H a = some (.lst vs) → ¬ Live w a → RepL K w vs ds → Rep K w (.ref a) (.lst ds)
  | fro {a : Addr} {vs : List V} {ds : List Da} : FrL K w.H a vs → RepL K w vs ds → Rep K w (.ref a) (.fro ds)
  | han {a : Addr} {n : Nat} : w.io[n]? = some a → Rep K w (.ref a) (.han n)
inductive RepL (K : PySem.W.Frag) (w : Wd) : List V → List Da → Prop
  | nil : RepL K w [] []
  | cons {v : V} {vs : List V} {d : Da} {ds : List Da} : Rep K w v d → RepL K w vs ds → RepL K w (v :: vs) (d :: ds)
end
inductive RepF (K : PySem.W.Frag) (w : Wd) : List (Str × V) → List (Str × Da) → Prop
  | nil : RepF K w [] []
  | cons {f : Str} {v : V} {vs : List (Str × V)} {d : Da} {ds : List (Str × Da)} : Rep K w v d → RepF K w vs ds → RepF K w ((f, v) :: vs) ((f, d) :: ds)
inductive RepK (K : PySem.W.Frag) (w : Wd) : List (Key × V) → List (Key × Da) → Prop
  | nil : RepK K w [] []
  | cons {f : Key} {v : V} {vs : List (Key × V)} {d : Da} {ds : List (Key × Da)} : Rep K w v d → RepK K w vs ds → RepK K w ((f, v) :: vs) ((f, d) :: ds)
/-- a caught error of a class of one's own, at a -/
def XO (cls : Value) (dd : Option Addr) (a : Addr) : HO := .ext fun h => ∃ oe, h.get? a = some oe ∧ Zc cls dd oe ∧ ∃ vs, oe.data = .fields vs
def CellOk (K : PySem.W.Frag) (ga : Str → Addr) (w : Wd) (a : Addr) : Cell → Prop
  | .lst ds => ∃ vs, w.H a = some (.lst vs) ∧ RepL K w vs ds
  | .ins c fs => ∃ dx vfs, w.H a = some (.ins (ga c) dx vfs) ∧ RepF K w vfs fs
  | .dK kvs => ∃ vs, w.H a = some (.dK vs) ∧ RepK K w vs kvs
  | .exn c => w.H a = some (XO (.ref (ga c)) none a)
  | .dead => True
structure Emb (K : PySem.W.Frag) (ga : Str → Addr) (w : Wd) : Prop where
  len : w.io.length = w.st.length
  nd : w.io.Nodup
  dom : ∀ a ∈ w.io, ∃ o, w.H a = some o
  cell : ∀ (n : Nat) (a : Addr) (c : Cell), w.io[n]? = some a → w.st[n]? = some c → CellOk K ga w a c
  pvo : ∀ a ∈ w.pv, a ∉ w.io ∧ ∃ vs, w.H a = some (.lst vs)
structure Ext (w w' : Wd) : Prop where
  io : ∃ t, w'.io = w.io ++ t
  keep : ∀ a o, w.H a = some o → ¬ Live w a → w'.H a = some o ∧ ¬ Live w' a
  pvk : ∀ a ∈ w.pv, a ∈ w'.pv ∧ w'.H a = w.H a
theorem Ext.refl (w : Wd) : Ext w w := ⟨⟨[], by simp⟩, fun _ _ h n => ⟨h, n⟩, fun _ h => ⟨h, rfl⟩⟩
theorem Ext.trans {a b c : Wd} (x : Ext a b) (y : Ext b c) : Ext a c := by
  obtain ⟨t, ht⟩ := x.io
  obtain ⟨u, hu⟩ := y.io
  refine ⟨⟨t ++ u, by rw [hu, ht, List.append_assoc]⟩, fun p o h n => ?_, fun p hp => ?_⟩
  · obtain ⟨h1, n1⟩ := x.keep p o h n
    exact y.keep p o h1 n1
  · obtain ⟨h1, e1⟩ := x.pvk p hp
    obtain ⟨h2, e2⟩ := y.pvk p h1
    exact ⟨h2, e2.trans e1⟩
theorem Ext.at {w w' : Wd} (x : Ext w w') {n : Nat} {a : Addr} (h : w.io[n]? = some a) : w'.io[n]? = some a := by
  obtain ⟨t, ht⟩ := x.io
  rw [ht, List.getElem?_append_left (List.getElem?_eq_some_iff.mp h).1]
  exact h
/-- what is alive is of a kind that changes -/
theorem Emb.live {K : PySem.W.Frag} {ga : Str → Addr} {w : Wd} (m : Emb K ga w) {a : Addr} (h : Live w a) :
    (∃ vs, w.H a = some (.lst vs)) ∨ (∃ C dx fs, w.H a = some (.ins C dx fs)) ∨ (∃ kvs, w.H a = some (.dK kvs)) ∨ ∃ φ, w.H a = some (.ext φ) := by
  rcases h with h | ⟨n, c, h1, h2, h3⟩
  · exact .inl (m.pvo a h).2
  have q := m.cell n a c h1 h2
  cases c with
  | lst ds => obtain ⟨vs, e, _⟩ := q; exact .inl ⟨vs, e⟩
  | ins c fs => obtain ⟨dx, vfs, e, _⟩ := q; exact .inr (.inl ⟨_, dx, vfs, e⟩)
  | dK kvs => obtain ⟨vs, e, _⟩ := q; exact .inr (.inr (.inl ⟨vs, e⟩))
  | exn c => exact .inr (.inr (.inr ⟨_, q⟩))
  | dead => exact absurd rfl h3
theorem Emb.noTup {K : PySem.W.Frag} {ga : Str → Addr} {w : Wd} (m : Emb K ga w) {a : Addr} {vs : List V} (h : w.H a = some (.tup vs)) : ¬ Live w a := fun l => by
  rcases m.live l with ⟨_, e⟩ | ⟨_, _, _, e⟩ | ⟨_, e⟩ | ⟨_, e⟩ <;> rw [h] at e <;> cases e
theorem Emb.noFrz {K : PySem.W.Frag} {ga : Str → Addr} {w : Wd} (m : Emb K ga w) {a : Addr} {o : Obj} {u : HO} (h : w.H a = some (.frz o u)) : ¬ Live w a := fun l => by
  rcases m.live l with ⟨_, e⟩ | ⟨_, _, _, e⟩ | ⟨_, e⟩ | ⟨_, e⟩ <;> rw [h] at e <;> cases e
section
variable {K : PySem.W.Frag} {ga : Str → Addr} {w w' : Wd}
theorem sqT_mono (m : Emb K ga w) (x : Ext w w') {a : Addr} {vs : List V} (h : SqT K w.H a vs) : SqT K w'.H a vs := by
  rcases h with (h | ⟨o, h⟩) | h
  · exact .inl (.inl (x.keep a _ h (m.noTup h)).1)
  · exact .inl (.inr ⟨o, (x.keep a _ h (m.noFrz h)).1⟩)
  · exact .inr h
mutual
theorem Rep.mono (m : Emb K ga w) (x : Ext w w') : ∀ {v : V} {d : Da}, Rep K w v d → Rep K w' v d
  | _, _, .non => .non
  | _, _, .bl b => .bl b
  | _, _, .int i => .int i
  | _, _, .str s => .str s
  | _, _, .tup h r => .tup (sqT_mono m x h) (RepL.mono m x r)
  | _, _, .lst h n r => .lst (x.keep _ _ h n).1 (x.keep _ _ h n).2 (RepL.mono m x r)
  | _, _, .fro h r => .fro (by
      rcases h with ⟨o, h⟩ | h
      · exact .inl ⟨o, (x.keep _ _ h (m.noFrz h)).1⟩
      · exact .inr h) (RepL.mono m x r)
  | _, _, .han h => .han (x.at h)
theorem RepL.mono (m : Emb K ga w) (x : Ext w w') : ∀ {vs : List V} {ds : List Da}, RepL K w vs ds → RepL K w' vs ds
  | _, _, .nil => .nil
  | _, _, .cons h r => .cons (Rep.mono m x h) (RepL.mono m x r)
end
theorem RepF.mono (m : Emb K ga w) (x : Ext w w') : ∀ {vs : List (Str × V)} {ds : List (Str × Da)}, RepF K w vs ds → RepF K w' vs ds
  | _, _, .nil => .nil
  | _, _, .cons h r => .cons (h.mono m x) (r.mono m x)
theorem RepK.mono (m : Emb K ga w) (x : Ext w w') : ∀ {vs : List (Key × V)} {ds : List (Key × Da)}, RepK K w vs ds → RepK K w' vs ds
  | _, _, .nil => .nil
  | _, _, .cons h r => .cons (h.mono m x) (r.mono m x)
theorem RepL.length {vs : List V} {ds : List Da} (r : RepL K w vs ds) : vs.length = ds.length := by
  induction vs generalizing ds with
  | nil => cases r; rfl
  | cons v vs ih => cases r with | cons h t => simp [ih t]
theorem RepL.get : ∀ {vs : List V} {ds : List Da} {i : Nat} {d : Da}, RepL K w vs ds → ds[i]? = some d → ∃ v, vs[i]? = some v ∧ Rep K w v d
  | _, _, i, d, .nil, e => by simp at e
  | _, _, 0, d, .cons h _, e => by simp at e; subst e; exact ⟨_, rfl, h⟩
  | _, _, i + 1, d, .cons _ t, e => by
    obtain ⟨v, h1, h2⟩ := RepL.get (i := i) (d := d) t (by simpa using e)
    exact ⟨v, by simpa using h1, h2⟩
theorem RepL.append : ∀ {vs us : List V} {ds es : List Da}, RepL K w vs ds → RepL K w us es → RepL K w (vs ++ us) (ds ++ es)
  | _, _, _, _, .nil, r => r
  | _, _, _, _, .cons h t, r => .cons h (t.append r)
theorem RepL.set {x : V} {d : Da} (h : Rep K w x d) : ∀ {vs : List V} {ds : List Da} (i : Nat), RepL K w vs ds → RepL K w (vs.set i x) (ds.set i d)
  | _, _, _, .nil => .nil
  | _, _, 0, .cons _ t => .cons h t
  | _, _, i + 1, .cons q t => .cons q (RepL.set h i t)
theorem RepL.take : ∀ {vs : List V} {ds : List Da} (n : Nat), RepL K w vs ds → RepL K w (vs.take n) (ds.take n)
  | _, _, 0, _ => .nil
  | _, _, _ + 1, .nil => .nil
  | _, _, n + 1, .cons r t => .cons r (RepL.take n t)
theorem RepL.drop : ∀ {vs : List V} {ds : List Da} (n : Nat), RepL K w vs ds → RepL K w (vs.drop n) (ds.drop n)
  | _, _, 0, r => r
  | _, _, _ + 1, .nil => .nil
  | _, _, n + 1, .cons _ t => RepL.drop n t
theorem RepL.dropLast : ∀ {vs : List V} {ds : List Da}, RepL K w vs ds → RepL K w vs.dropLast ds.dropLast := fun {vs ds} r => by
  rw [List.dropLast_eq_take, List.dropLast_eq_take, r.length]
  exact r.take _
theorem RepF.lookup : ∀ {vs : List (Str × V)} {ds : List (Str × Da)} {f : Str} {d : Da}, RepF K w vs ds → ds.lookup f = some d → ∃ v, vs.lookup f = some v ∧ Rep K w v d
  | _, _, f, d, .nil, e => by simp at e
  | _, _, f, d, .cons (f := g) h t, e => by
    by_cases q : (f == g) = true
    · simp only [List.lookup, q] at e ⊢
      cases e
      exact ⟨_, rfl, h⟩
    · have q' : (f == g) = false := by simpa using q
      simp only [List.lookup, q'] at e ⊢
      exact RepF.lookup t e
theorem RepF.length : ∀ {vs : List (Str × V)} {ds : List (Str × Da)}, RepF K w vs ds → vs.length = ds.length
  | _, _, .nil => rfl
  | _, _, .cons _ t => by simp [t.length]
def putD (f : Str) (v : Da) : List (Str × Da) → List (Str × Da)
  | [] => [(f, v)]
  | (g, x) :: r => if g = f then (g, v) :: r else (g, x) :: putD f v r
theorem RepF.put {f : Str} {x : V} {d : Da} (h : Rep K w x d) : ∀ {vs : List (Str × V)} {ds : List (Str × Da)}, RepF K w vs ds → RepF K w (putF f x vs) (putD f d ds)
  | _, _, .nil => .cons h .nil
  | _, _, .cons (f := g) q t => by
    unfold putF putD
    by_cases e : g = f
    · rw [if_pos e, if_pos e]
      exact .cons h t
    · rw [if_neg e, if_neg e]
      exact .cons q (RepF.put h t)
theorem CellOk.mono (m : Emb K ga w) (x : Ext w w') {a : Addr} {c : Cell} (hH : c ≠ .dead → w'.H a = w.H a) (h : CellOk K ga w a c) : CellOk K ga w' a c := by
  cases c with
  | lst ds => obtain ⟨vs, e, r⟩ := h; exact ⟨vs, (hH (by intro z; cases z)).trans e, r.mono m x⟩
  | ins c fs => obtain ⟨dx, vs, e, r⟩ := h; exact ⟨dx, vs, (hH (by intro z; cases z)).trans e, r.mono m x⟩
  | dK ds => obtain ⟨vs, e, r⟩ := h; exact ⟨vs, (hH (by intro z; cases z)).trans e, r.mono m x⟩
  | exn c => exact (hH (by intro z; cases z)).trans h
  | dead => trivial
theorem io_inj (nd : w.io.Nodup) {i j : Nat} {a : Addr} (h1 : w.io[i]? = some a) (h2 : w.io[j]? = some a) : i = j := nd_ix nd h1 h2
/-- a new thing that never changes -/
def Wd.new (w : Wd) (p : Addr) (o : HO) : Wd := ⟨w.io, w.st, upd w.H p o, w.pv⟩
theorem Emb.fresh (m : Emb K ga w) {p : Addr} (hp : w.H p = none) : p ∉ w.io := fun h => by
  obtain ⟨o, e⟩ := m.dom p h
  rw [hp] at e; cases e
theorem Emb.freshP (m : Emb K ga w) {p : Addr} (hp : w.H p = none) : p ∉ w.pv := fun h => by
  obtain ⟨_, vs, e⟩ := m.pvo p h
  rw [hp] at e; cases e
theorem Emb.notLive (m : Emb K ga w) {p : Addr} (hp : w.H p = none) : ¬ Live w p := fun h => by
  rcases h with h | ⟨n, c, h1, _, _⟩
  · exact m.freshP hp h
  · exact m.fresh hp (List.mem_of_getElem? h1)
theorem Ext.new (m : Emb K ga w) {p : Addr} {o : HO} (hp : w.H p = none) : Ext w (w.new p o) := by
  refine ⟨⟨[], by simp [Wd.new]⟩, fun a u h n => ⟨?_, n⟩, fun a ha => ⟨ha, ?_⟩⟩
  · show upd w.H p o a = some u
    rw [upd_ne (ne_of_none h hp)]
    exact h
  · show upd w.H p o a = w.H a
    rw [upd_ne (show a ≠ p from fun z => m.freshP hp (z ▸ ha))]
theorem Emb.new (m : Emb K ga w) {p : Addr} {o : HO} (hp : w.H p = none) : Emb K ga (w.new p o) := by
  refine ⟨m.len, m.nd, fun a ha => ?_, fun n a c h1 h2 => ?_, fun a ha => ?_⟩
  · obtain ⟨u, e⟩ := m.dom a ha
    refine ⟨u, ?_⟩
    show upd w.H p o a = some u
    rw [upd_ne (ne_of_none e hp)]
    exact e
  · refine (m.cell n a c h1 h2).mono m (Ext.new m hp) fun _ => ?_
    have ne : a ≠ p := fun z => m.fresh hp (z ▸ List.mem_of_getElem? h1)
    show upd w.H p o a = w.H a
    rw [upd_ne ne]
  · obtain ⟨h1, vs, h2⟩ := m.pvo a ha
    refine ⟨h1, vs, ?_⟩
    show upd w.H p o a = some (.lst vs)
    rw [upd_ne (ne_of_none h2 hp)]
    exact h2
theorem Rep.newTup (m : Emb K ga w) {p : Addr} {vs : List V} {ds : List Da} (hp : w.H p = none) (r : RepL K w vs ds) : Rep K (w.new p (.tup vs)) (.ref p) (.tup ds) :=
  .tup (.inl (.inl upd_same)) (r.mono m (Ext.new m hp))
theorem Rep.newLst (m : Emb K ga w) {p : Addr} {vs : List V} {ds : List Da} (hp : w.H p = none) (r : RepL K w vs ds) : Rep K (w.new p (.lst vs)) (.ref p) (.lst ds) :=
  .lst upd_same (fun l => m.notLive hp l) (r.mono m (Ext.new m hp))
/-- a new thing that may change -/
def Wd.push (w : Wd) (p : Addr) (o : HO) (c : Cell) : Wd := ⟨w.io ++ [p], w.st ++ [c], upd w.H p o, w.pv⟩
theorem push_at (m : Emb K ga w) {p : Addr} {o : HO} {c : Cell} : (w.push p o c).io[w.st.length]? = some p := by
  show (w.io ++ [p])[w.st.length]? = some p
  rw [← m.len]
  simp
theorem Ext.push (m : Emb K ga w) {p : Addr} {o : HO} {c : Cell} (hp : w.H p = none) : Ext w (w.push p o c) := by
  refine ⟨⟨[p], rfl⟩, fun a u h n => ⟨?_, fun l => ?_⟩, fun a ha => ⟨ha, ?_⟩⟩
  · show upd w.H p o a = some u
    rw [upd_ne (ne_of_none h hp)]
    exact h
  · rcases l with l | l
    · exact n (.inl l)
    obtain ⟨i, k, h1, h2, h3⟩ := l
    have h1' : (w.io ++ [p])[i]? = some a := h1
    have h2' : (w.st ++ [c])[i]? = some k := h2
    have ne : a ≠ p := ne_of_none h hp
    by_cases hi : i < w.io.length
    · rw [List.getElem?_append_left hi] at h1'
      rw [List.getElem?_append_left (m.len ▸ hi)] at h2'
      exact n (.inr ⟨i, k, h1', h2', h3⟩)
    · rw [List.getElem?_append_right (by omega)] at h1'
      have : i - w.io.length = 0 := by
        have := (List.getElem?_eq_some_iff.mp h1').1
        simp at this
        omega
      rw [this] at h1'
      simp at h1'
      exact ne h1'.symm
  · show upd w.H p o a = w.H a
    rw [upd_ne (show a ≠ p from fun z => m.freshP hp (z ▸ ha))]
theorem Emb.push (m : Emb K ga w) {p : Addr} {o : HO} {c : Cell} (hp : w.H p = none) (hc : CellOk K ga (w.push p o c) p c) : Emb K ga (w.push p o c) := by
  refine ⟨?_, ?_, fun a ha => ?_, fun n a k h1 h2 => ?_, fun a ha => ?_⟩
  · show (w.io ++ [p]).length = (w.st ++ [c]).length
    simp [m.len]
  · show (w.io ++ [p]).Nodup
    rw [List.nodup_append]
    refine ⟨m.nd, by simp, fun a ha b hb => ?_⟩
    have e : b = p := by simpa using hb
    rw [e]
    exact fun z => m.fresh hp (z ▸ ha)
  · have ha' : a ∈ w.io ++ [p] := ha
    rcases List.mem_append.mp ha' with ha | ha
    · obtain ⟨u, e⟩ := m.dom a ha
      refine ⟨u, ?_⟩
      show upd w.H p o a = some u
      rw [upd_ne (ne_of_none e hp)]
      exact e
    · have e : a = p := by simpa using ha
      rw [e]
      exact ⟨o, upd_same⟩
  · have h1' : (w.io ++ [p])[n]? = some a := h1
    have h2' : (w.st ++ [c])[n]? = some k := h2
    by_cases hi : n < w.io.length
    · rw [List.getElem?_append_left hi] at h1'
      rw [List.getElem?_append_left (m.len ▸ hi)] at h2'
      refine (m.cell n a k h1' h2').mono m (Ext.push m hp) fun _ => ?_
      have ne : a ≠ p := fun z => m.fresh hp (z ▸ List.mem_of_getElem? h1')
      show upd w.H p o a = w.H a
      rw [upd_ne ne]
    · rw [List.getElem?_append_right (by omega)] at h1'
      rw [List.getElem?_append_right (by rw [← m.len]; omega)] at h2'
      have z : n - w.io.length = 0 := by
        have := (List.getElem?_eq_some_iff.mp h1').1
        simp at this
        omega
      rw [← m.len, z] at h2'
      rw [z] at h1'
      simp at h1' h2'
      subst h1' h2'
      exact hc
  · obtain ⟨h1, vs, h2⟩ := m.pvo a ha
    have ne : a ≠ p := fun z => m.freshP hp (z ▸ ha)
    refine ⟨fun z => ?_, vs, ?_⟩
    · have z' : a ∈ w.io ++ [p] := z
      rcases List.mem_append.mp z' with z | z
      · exact h1 z
      · exact ne (by simpa using z)
    · show upd w.H p o a = some (.lst vs)
      rw [upd_ne ne]
      exact h2
/-- a thing changes -/
def Wd.put (w : Wd) (n : Nat) (a : Addr) (o : HO) (c : Cell) : Wd := ⟨w.io, w.st.set n c, upd w.H a o, w.pv⟩
theorem put_live {n : Nat} {a b : Addr} {o : HO} {c : Cell} (h : Live (w.put n a o c) b) (hb : b ≠ a ∨ c = .dead) (ha : w.io[n]? = some a) : Live w b := by
  rcases h with h | ⟨i, k, h1, h2, h3⟩
  · exact .inl h
  have h1' : w.io[i]? = some b := h1
  have h2' : (w.st.set n c)[i]? = some k := h2
  by_cases e : i = n
  · subst e
    rw [ha] at h1'
    cases h1'
    rcases hb with hb | hb
    · exact absurd rfl hb
    · rw [List.getElem?_set] at h2'
      simp only [if_true] at h2'
      split at h2'
      · cases h2'
        exact absurd hb h3
      · cases h2'
  · rw [List.getElem?_set_ne (Ne.symm e)] at h2'
    exact .inr ⟨i, k, h1', h2', h3⟩
theorem Ext.put (m : Emb K ga w) {n : Nat} {a : Addr} {o : HO} {c c0 : Cell} (ha : w.io[n]? = some a) (hc0 : w.st[n]? = some c0) (hl : c0 ≠ .dead) : Ext w (w.put n a o c) := by
  refine ⟨⟨[], by simp [Wd.put]⟩, fun b u h nl => ?_, fun b hb => ⟨hb, ?_⟩⟩
  · have ne : b ≠ a := fun z => nl (z ▸ .inr ⟨n, c0, ha, hc0, hl⟩)
    refine ⟨?_, fun l => nl (put_live l (.inl ne) ha)⟩
    show upd w.H a o b = some u
    rw [upd_ne ne]
    exact h
  · show upd w.H a o b = w.H b
    rw [upd_ne (show b ≠ a from fun z => (m.pvo b hb).1 (z ▸ List.mem_of_getElem? ha))]
theorem Emb.put (m : Emb K ga w) {n : Nat} {a : Addr} {o : HO} {c c0 : Cell} (ha : w.io[n]? = some a) (hc0 : w.st[n]? = some c0) (hl : c0 ≠ .dead) (hc : CellOk K ga (w.put n a o c) a c) : Emb K ga (w.put n a o c) := by
  refine ⟨?_, m.nd, fun b hb => ?_, fun i b k h1 h2 => ?_, fun b hb => ?_⟩
  · show w.io.length = (w.st.set n c).length
    rw [List.length_set]; exact m.len
  · by_cases e : b = a
    · rw [e]; exact ⟨o, upd_same⟩
    · obtain ⟨u, q⟩ := m.dom b hb
      refine ⟨u, ?_⟩
      show upd w.H a o b = some u
      rw [upd_ne e]; exact q
  · have h1' : w.io[i]? = some b := h1
    have h2' : (w.st.set n c)[i]? = some k := h2
    by_cases e : i = n
    · subst e
      rw [ha] at h1'; cases h1'
      have hlt : i < w.st.length := (List.getElem?_eq_some_iff.mp hc0).1
      rw [List.getElem?_set_self hlt] at h2'
      cases h2'
      exact hc
    · rw [List.getElem?_set_ne (Ne.symm e)] at h2'
      refine (m.cell i b k h1' h2').mono m (Ext.put m ha hc0 hl) fun _ => ?_
      have ne : b ≠ a := fun z => e (io_inj m.nd h1' (z ▸ ha))
      show upd w.H a o b = w.H b
      rw [upd_ne ne]
  · obtain ⟨h1, vs, h2⟩ := m.pvo b hb
    refine ⟨h1, vs, ?_⟩
    show upd w.H a o b = some (.lst vs)
    rw [upd_ne (show b ≠ a from fun z => h1 (z ▸ List.mem_of_getElem? ha))]
    exact h2
/-- a thing stops changing -/
def Wd.kill (w : Wd) (n : Nat) : Wd := ⟨w.io, w.st.set n .dead, w.H, w.pv⟩
theorem kill_live {n : Nat} {b : Addr} (h : Live (w.kill n) b) : b ∈ w.pv ∨ Live w b ∧ ∃ i, i ≠ n ∧ w.io[i]? = some b := by
  rcases h with h | ⟨i, k, h1, h2, h3⟩
  · exact .inl h
  have h1' : w.io[i]? = some b := h1
  have h2' : (w.st.set n .dead)[i]? = some k := h2
  by_cases e : i = n
  · subst e
    rw [List.getElem?_set] at h2'
    simp only [if_true] at h2'
    split at h2'
    · cases h2'
      exact absurd rfl h3
    · cases h2'
  · rw [List.getElem?_set_ne (Ne.symm e)] at h2'
    exact .inr ⟨.inr ⟨i, k, h1', h2', h3⟩, i, e, h1'⟩
theorem kill_live' {n : Nat} {b : Addr} (h : Live (w.kill n) b) : Live w b := by
  rcases kill_live h with h | h
  · exact .inl h
  · exact h.1
theorem Ext.kill {n : Nat} : Ext w (w.kill n) := ⟨⟨[], by simp [Wd.kill]⟩, fun _ _ h nl => ⟨h, fun l => nl (kill_live' l)⟩, fun _ h => ⟨h, rfl⟩⟩
theorem Emb.kill (m : Emb K ga w) {n : Nat} : Emb K ga (w.kill n) := by
  refine ⟨?_, m.nd, m.dom, fun i b k h1 h2 => ?_, m.pvo⟩
  · show w.io.length = (w.st.set n .dead).length
    rw [List.length_set]; exact m.len
  · have h1' : w.io[i]? = some b := h1
    have h2' : (w.st.set n .dead)[i]? = some k := h2
    by_cases e : i = n
    · subst e
      rw [List.getElem?_set] at h2'
      simp only [if_true] at h2'
      split at h2'
      · cases h2'; trivial
      · cases h2'
    · rw [List.getElem?_set_ne (Ne.symm e)] at h2'
      exact (m.cell i b k h1' h2').mono m Ext.kill fun _ => rfl
theorem Rep.killed (m : Emb K ga w) {n : Nat} {a : Addr} {vs : List V} {ds : List Da} (ha : w.io[n]? = some a) (hH : w.H a = some (.lst vs)) (r : RepL K w vs ds) : Rep K (w.kill n) (.ref a) (.lst ds) := by
  refine .lst hH (fun l => ?_) (r.mono m Ext.kill)
  rcases kill_live l with h | ⟨_, i, hi, h⟩
  · exact (m.pvo a h).1 (List.mem_of_getElem? ha)
  · exact hi (io_inj m.nd h ha)
def Wd.hid (w : Wd) (p : Addr) (vs : List V) : Wd := ⟨w.io, w.st, upd w.H p (.lst vs), p :: w.pv⟩
theorem Ext.hid (m : Emb K ga w) {p : Addr} {vs : List V} (hp : w.H p = none) : Ext w (w.hid p vs) := by
  refine ⟨⟨[], by simp [Wd.hid]⟩, fun a u h n => ⟨?_, fun l => ?_⟩, fun a ha => ⟨List.mem_cons_of_mem _ ha, ?_⟩⟩
  · show upd w.H p _ a = some u
    rw [upd_ne (ne_of_none h hp)]
    exact h
  · rcases l with l | l
    · have l' : a ∈ p :: w.pv := l
      rcases List.mem_cons.mp l' with l | l
      · exact ne_of_none h hp l
      · exact n (.inl l)
    · exact n (.inr l)
  · show upd w.H p _ a = w.H a
    rw [upd_ne (show a ≠ p from fun z => m.freshP hp (z ▸ ha))]
theorem Emb.hid (m : Emb K ga w) {p : Addr} {vs : List V} (hp : w.H p = none) : Emb K ga (w.hid p vs) := by
  refine ⟨m.len, m.nd, fun a ha => ?_, fun n a c h1 h2 => ?_, fun a ha => ?_⟩
  · obtain ⟨u, e⟩ := m.dom a ha
    refine ⟨u, ?_⟩
    show upd w.H p _ a = some u
    rw [upd_ne (ne_of_none e hp)]
    exact e
  · refine (m.cell n a c h1 h2).mono m (Ext.hid m hp) fun _ => ?_
    show upd w.H p _ a = w.H a
    rw [upd_ne (show a ≠ p from fun z => m.fresh hp (z ▸ List.mem_of_getElem? h1))]
  · have ha' : a ∈ p :: w.pv := ha
    rcases List.mem_cons.mp ha' with e | ha
    · rw [e]
      exact ⟨m.fresh hp, vs, upd_same⟩
    · obtain ⟨h1, us, h2⟩ := m.pvo a ha
      refine ⟨h1, us, ?_⟩
      show upd w.H p _ a = some (.lst us)
      rw [upd_ne (ne_of_none h2 hp)]
      exact h2
/-- it grows -/
def Wd.grow (w : Wd) (p : Addr) (vs : List V) : Wd := ⟨w.io, w.st, upd w.H p (.lst vs), w.pv⟩
/-- all but p -/
structure ExtP (p : Addr) (w w' : Wd) : Prop where
  io : ∃ t, w'.io = w.io ++ t
  keep : ∀ a o, w.H a = some o → ¬ Live w a → w'.H a = some o ∧ ¬ Live w' a
  pvk : ∀ a ∈ w.pv, a ∈ w'.pv ∧ (a ≠ p → w'.H a = w.H a)
theorem ExtP.grow (m : Emb K ga w) {p : Addr} {vs : List V} (hp : p ∈ w.pv) : ExtP p w (w.grow p vs) := by
  refine ⟨⟨[], by simp [Wd.grow]⟩, fun a u h n => ⟨?_, n⟩, fun a ha => ⟨ha, fun ne => ?_⟩⟩
  · show upd w.H p _ a = some u
    rw [upd_ne (show a ≠ p from fun z => n (.inl (z ▸ hp)))]
    exact h
  · show upd w.H p _ a = w.H a
    rw [upd_ne ne]
mutual
theorem Rep.monoP {p : Addr} (m : Emb K ga w) (x : ExtP p w w') : ∀ {v : V} {d : Da}, Rep K w v d → Rep K w' v d
  | _, _, .non => .non
  | _, _, .bl b => .bl b
  | _, _, .int i => .int i
  | _, _, .str s => .str s
  | _, _, .tup h r => .tup (by
      rcases h with (h | ⟨o, h⟩) | h
      · exact .inl (.inl (x.keep _ _ h (m.noTup h)).1)
      · exact .inl (.inr ⟨o, (x.keep _ _ h (m.noFrz h)).1⟩)
      · exact .inr h) (RepL.monoP m x r)
  | _, _, .lst h n r => .lst (x.keep _ _ h n).1 (x.keep _ _ h n).2 (RepL.monoP m x r)
  | _, _, .fro h r => .fro (by
      rcases h with ⟨o, h⟩ | h
      · exact .inl ⟨o, (x.keep _ _ h (m.noFrz h)).1⟩
      · exact .inr h) (RepL.monoP m x r)
  | _, _, .han h => .han (by
      obtain ⟨t, ht⟩ := x.io
      rw [ht, List.getElem?_append_left (List.getElem?_eq_some_iff.mp h).1]
      exact h)
theorem RepL.monoP {p : Addr} (m : Emb K ga w) (x : ExtP p w w') : ∀ {vs : List V} {ds : List Da}, RepL K w vs ds → RepL K w' vs ds
  | _, _, .nil => .nil
  | _, _, .cons h r => .cons (Rep.monoP m x h) (RepL.monoP m x r)
end
theorem RepF.monoP {p : Addr} (m : Emb K ga w) (x : ExtP p w w') : ∀ {vs : List (Str × V)} {ds : List (Str × Da)}, RepF K w vs ds → RepF K w' vs ds
  | _, _, .nil => .nil
  | _, _, .cons h r => .cons (h.monoP m x) (r.monoP m x)
theorem RepK.monoP {p : Addr} (m : Emb K ga w) (x : ExtP p w w') : ∀ {vs : List (Key × V)} {ds : List (Key × Da)}, RepK K w vs ds → RepK K w' vs ds
  | _, _, .nil => .nil
  | _, _, .cons h r => .cons (h.monoP m x) (r.monoP m x)
theorem Emb.grow (m : Emb K ga w) {p : Addr} {vs : List V} (hp : p ∈ w.pv) : Emb K ga (w.grow p vs) := by
  have x : ExtP p w (w.grow p vs) := ExtP.grow m hp
  have ne : ∀ a ∈ w.io, a ≠ p := fun a ha z => (m.pvo p hp).1 (z ▸ ha)
  refine ⟨m.len, m.nd, fun a ha => ?_, fun n a c h1 h2 => ?_, fun a ha => ⟨(m.pvo a ha).1, ?_⟩⟩
  · obtain ⟨u, e⟩ := m.dom a ha
    refine ⟨u, ?_⟩
    show upd w.H p _ a = some u
    rw [upd_ne (ne a ha)]
    exact e
  · have q := m.cell n a c h1 h2
    have hH : (w.grow p vs).H a = w.H a := by
      show upd w.H p _ a = w.H a
      rw [upd_ne (ne a (List.mem_of_getElem? h1))]
    cases c with
    | lst ds => obtain ⟨us, e, r⟩ := q; exact ⟨us, hH.trans e, r.monoP m x⟩
    | ins c fs => obtain ⟨dx, us, e, r⟩ := q; exact ⟨dx, us, hH.trans e, r.monoP m x⟩
    | dK ds => obtain ⟨us, e, r⟩ := q; exact ⟨us, hH.trans e, r.monoP m x⟩
    | exn c => exact hH.trans q
    | dead => trivial
  · by_cases e : a = p
    · rw [e]; exact ⟨vs, upd_same⟩
    · obtain ⟨us, h2⟩ := (m.pvo a ha).2
      refine ⟨us, ?_⟩
      show upd w.H p _ a = some (.lst us)
      rw [upd_ne e]
      exact h2
theorem Ext.thenGrow {w0 : Wd} (x : Ext w0 w) (m : Emb K ga w) {p : Addr} {vs : List V} (hp : p ∈ w.pv) (h0 : w0.H p = none) (hm0 : p ∉ w0.pv) : Ext w0 (w.grow p vs) := by
  refine ⟨x.io, fun a u h n => ?_, fun a ha => ?_⟩
  · obtain ⟨h1, n1⟩ := x.keep a u h n
    refine ⟨?_, n1⟩
    show upd w.H p _ a = some u
    rw [upd_ne (ne_of_none h h0)]
    exact h1
  · obtain ⟨h1, e1⟩ := x.pvk a ha
    refine ⟨h1, ?_⟩
    show upd w.H p _ a = w0.H a
    rw [upd_ne (show a ≠ p from fun z => hm0 (z ▸ ha))]
    exact e1
def del (H : Hp) (p : Addr) : Hp := fun a => if a = p then none else H a
theorem del_same {H : Hp} {p : Addr} : del H p p = none := by unfold del; rw [if_pos rfl]
theorem del_ne {H : Hp} {p a : Addr} (h : a ≠ p) : del H p a = H a := by unfold del; rw [if_neg h]
theorem upd_del {H : Hp} {p : Addr} {o : HO} (h : H p = some o) : upd (del H p) p o = H := by
  funext a
  by_cases e : a = p
  · rw [e, upd_same, h]
  · rw [upd_ne e, del_ne e]
def Wd.del (w : Wd) (p : Addr) (l : List Addr) : Wd := ⟨w.io, w.st, CL.del w.H p, l⟩
theorem del_live {p a : Addr} {l : List Addr} (hl : w.pv = p :: l) (h : Live (w.del p l) a) : Live w a := by
  rcases h with h | h
  · exact .inl (by rw [hl]; exact List.mem_cons_of_mem _ h)
  · exact .inr h
mutual
theorem Rep.del {p : Addr} {l : List Addr} {us : List V} (hl : w.pv = p :: l) (hp : w.H p = some (.lst us)) : ∀ {v : V} {d : Da}, Rep K w v d → Rep K (w.del p l) v d
  | _, _, .non => .non
  | _, _, .bl b => .bl b
  | _, _, .int i => .int i
  | _, _, .str s => .str s
  | _, _, .tup (a := a) h r => .tup (by
      have tr : ∀ o, w.H a = some o → (∀ zs, o ≠ .lst zs) → (w.del p l).H a = some o := fun o ho hz => by
        show CL.del w.H p a = some o
        have ne : a ≠ p := fun z => by
          rw [z, hp] at ho
          exact hz us (Option.some.inj ho).symm
        rw [del_ne ne]
        exact ho
      rcases h with (h | ⟨o, h⟩) | h
      · exact .inl (.inl (tr _ h fun _ z => nomatch z))
      · exact .inl (.inr ⟨o, tr _ h fun _ z => nomatch z⟩)
      · exact .inr h) (RepL.del hl hp r)
  | _, _, .lst (a := a) h n r => .lst (by
      have ne : a ≠ p := fun z => n (.inl (by rw [hl, z]; exact List.mem_cons_self))
      show CL.del w.H p a = _
      rw [del_ne ne]
      exact h) (fun z => n (del_live hl z)) (RepL.del hl hp r)
  | _, _, .fro (a := a) h r => .fro (by
      rcases h with ⟨o, h⟩ | h
      · have ne : a ≠ p := fun z => by
          rw [z, hp] at h
          cases h
        refine .inl ⟨o, ?_⟩
        show CL.del w.H p a = _
        rw [del_ne ne]
        exact h
      · exact .inr h) (RepL.del hl hp r)
  | _, _, .han h => .han h
theorem RepL.del {p : Addr} {l : List Addr} {us : List V} (hl : w.pv = p :: l) (hp : w.H p = some (.lst us)) : ∀ {vs : List V} {ds : List Da}, RepL K w vs ds → RepL K (w.del p l) vs ds
  | _, _, .nil => .nil
  | _, _, .cons h r => .cons (Rep.del hl hp h) (RepL.del hl hp r)
end
theorem RepF.del {p : Addr} {l : List Addr} {us : List V} (hl : w.pv = p :: l) (hp : w.H p = some (.lst us)) : ∀ {vs : List (Str × V)} {ds : List (Str × Da)}, RepF K w vs ds → RepF K (w.del p l) vs ds
  | _, _, .nil => .nil
  | _, _, .cons h r => .cons (h.del hl hp) (r.del hl hp)
theorem RepK.del {p : Addr} {l : List Addr} {us : List V} (hl : w.pv = p :: l) (hp : w.H p = some (.lst us)) : ∀ {vs : List (Key × V)} {ds : List (Key × Da)}, RepK K w vs ds → RepK K (w.del p l) vs ds
  | _, _, .nil => .nil
  | _, _, .cons h r => .cons (h.del hl hp) (r.del hl hp)
theorem Emb.del (m : Emb K ga w) {p : Addr} {l : List Addr} {us : List V} (hl : w.pv = p :: l) (hp : w.H p = some (.lst us)) (hn : p ∉ l) : Emb K ga (w.del p l) := by
  have ne : ∀ a ∈ w.io, a ≠ p := fun a ha z => (m.pvo p (by rw [hl]; exact List.mem_cons_self)).1 (z ▸ ha)
  refine ⟨m.len, m.nd, fun a ha => ?_, fun n a c h1 h2 => ?_, fun a ha => ?_⟩
  · obtain ⟨o, e⟩ := m.dom a ha
    refine ⟨o, ?_⟩
    show CL.del w.H p a = _
    rw [del_ne (ne a ha)]
    exact e
  · have q := m.cell n a c h1 h2
    have hH : (w.del p l).H a = w.H a := del_ne (ne a (List.mem_of_getElem? h1))
    cases c with
    | lst ds => obtain ⟨vs, e, r⟩ := q; exact ⟨vs, hH.trans e, r.del hl hp⟩
    | ins c fs => obtain ⟨dx, vs, e, r⟩ := q; exact ⟨dx, vs, hH.trans e, r.del hl hp⟩
    | dK ds => obtain ⟨vs, e, r⟩ := q; exact ⟨vs, hH.trans e, r.del hl hp⟩
    | exn c => exact hH.trans q
    | dead => trivial
  · obtain ⟨h1, vs, h2⟩ := m.pvo a (by rw [hl]; exact List.mem_cons_of_mem _ ha)
    refine ⟨h1, vs, ?_⟩
    show CL.del w.H p a = _
    rw [del_ne (show a ≠ p from fun z => hn (z ▸ ha))]
    exact h2
theorem Ext.del {w0 : Wd} {p : Addr} (x : Ext w0 w) (hl : w.pv = p :: w0.pv) (h0 : w0.H p = none) (hn : p ∉ w0.pv) : Ext w0 (w.del p w0.pv) := by
  refine ⟨x.io, fun a o h n => ?_, fun a ha => ⟨ha, ?_⟩⟩
  · obtain ⟨h1, n1⟩ := x.keep a o h n
    refine ⟨?_, fun z => n1 (del_live hl z)⟩
    show CL.del w.H p a = _
    rw [del_ne (ne_of_none h h0)]
    exact h1
  · show CL.del w.H p a = _
    rw [del_ne (show a ≠ p from fun z => hn (z ▸ ha))]
    exact (x.pvk a ha).2
end
structure ExtW (w w' : Wd) : Prop where
  io : ∃ t, w'.io = w.io ++ t
  keep : ∀ a o, w.H a = some o → ¬ Live w a → w'.H a = some o ∧ ¬ Live w' a
theorem Ext.w {w w' : Wd} (x : Ext w w') : ExtW w w' := ⟨x.io, x.keep⟩
theorem ExtP.w {p : Addr} {w w' : Wd} (x : ExtP p w w') : ExtW w w' := ⟨x.io, x.keep⟩
theorem ExtW.refl (w : Wd) : ExtW w w := (Ext.refl w).w
theorem ExtW.trans {a b c : Wd} (x : ExtW a b) (y : ExtW b c) : ExtW a c := by
  obtain ⟨t, ht⟩ := x.io
  obtain ⟨u, hu⟩ := y.io
  refine ⟨⟨t ++ u, by rw [hu, ht, List.append_assoc]⟩, fun p o h n => ?_⟩
  obtain ⟨h1, n1⟩ := x.keep p o h n
  exact y.keep p o h1 n1
theorem ExtW.at {w w' : Wd} (x : ExtW w w') {n : Nat} {a : Addr} (h : w.io[n]? = some a) : w'.io[n]? = some a := by
  obtain ⟨t, ht⟩ := x.io
  rw [ht, List.getElem?_append_left (List.getElem?_eq_some_iff.mp h).1]
  exact h
section
variable {K : PySem.W.Frag} {ga : Str → Addr} {w w' : Wd}
theorem sqT_monoW (m : Emb K ga w) (x : ExtW w w') {a : Addr} {vs : List V} (h : SqT K w.H a vs) : SqT K w'.H a vs := by
  rcases h with (h | ⟨o, h⟩) | h
  · exact .inl (.inl (x.keep a _ h (m.noTup h)).1)
  · exact .inl (.inr ⟨o, (x.keep a _ h (m.noFrz h)).1⟩)
  · exact .inr h
mutual
theorem Rep.monoW (m : Emb K ga w) (x : ExtW w w') : ∀ {v : V} {d : Da}, Rep K w v d → Rep K w' v d
  | _, _, .non => .non
  | _, _, .bl b => .bl b
  | _, _, .int i => .int i
  | _, _, .str s => .str s
  | _, _, .tup h r => .tup (sqT_monoW m x h) (RepL.monoW m x r)
  | _, _, .lst h n r => .lst (x.keep _ _ h n).1 (x.keep _ _ h n).2 (RepL.monoW m x r)
  | _, _, .fro h r => .fro (by
      rcases h with ⟨o, h⟩ | h
      · exact .inl ⟨o, (x.keep _ _ h (m.noFrz h)).1⟩
      · exact .inr h) (RepL.monoW m x r)
  | _, _, .han h => .han (x.at h)
theorem RepL.monoW (m : Emb K ga w) (x : ExtW w w') : ∀ {vs : List V} {ds : List Da}, RepL K w vs ds → RepL K w' vs ds
  | _, _, .nil => .nil
  | _, _, .cons h r => .cons (Rep.monoW m x h) (RepL.monoW m x r)
end
end
end CL
namespace CL
open PySem PySem.Spec L2
inductive Res (A : Type) where
  | ok (a : A) (st : Store)
  | exc (c : Str) (as : List Da) (st : Store)
  | bad
abbrev Mo (A : Type) := Store → Res A
def bnd {A B : Type} (m : Mo A) (f : A → Mo B) : Mo B := fun st => match m st with
  | .ok a st' => f a st'
  | .exc c as st' => .exc c as st'
  | .bad => .bad
def ret {A : Type} (a : A) : Mo A := fun st => .ok a st
def nop {A : Type} : Mo A := fun _ => .bad
@[simp] theorem bnd_ret {A B : Type} (a : A) (f : A → Mo B) : bnd (ret a) f = f a := rfl
@[simp] theorem bnd_nop {A B : Type} (f : A → Mo B) : bnd (nop : Mo A) f = nop := rfl
theorem bnd_assoc {A B C : Type} (m : Mo A) (f : A → Mo B) (g : B → Mo C) : bnd (bnd m f) g = bnd m fun a => bnd (f a) g := by
  funext st
  unfold bnd
  cases m st <;> rfl
abbrev Sl := List (Option Da)
abbrev Em (K : PySem.W.Frag) (w : Wd) : Prop := Emb K (He.ga K) w
/-- what a result must bring -/
def Run (K : PySem.W.Frag) {A : Type} (w : Wd) (r : Res A) (ok : A → Wd → Prop) (ex : Str → List Da → Wd → Prop) : Prop := match r with
  | .ok a st => ∀ io H, Ext w ⟨io, st, H, w.pv⟩ → Em K ⟨io, st, H, w.pv⟩ → ok a ⟨io, st, H, w.pv⟩
  | .exc c as st => ∀ io H, Ext w ⟨io, st, H, w.pv⟩ → Em K ⟨io, st, H, w.pv⟩ → ex c as ⟨io, st, H, w.pv⟩
  | .bad => False
section
variable {K : PySem.W.Frag} {A B : Type} {w w' : Wd} {ok ok' : A → Wd → Prop} {ex ex' : Str → List Da → Wd → Prop}
theorem Run.ext {r : Res A} (h : Run K w r ok ex) (x : Ext w w') (e : w'.pv = w.pv) : Run K w' r ok ex := by
  cases r with
  | ok a st =>
    intro io H x' m
    rw [e] at x' m ⊢
    exact h io H (x.trans x') m
  | exc c as st =>
    intro io H x' m
    rw [e] at x' m ⊢
    exact h io H (x.trans x') m
  | bad => exact h
theorem Run.mono {r : Res A} (h : Run K w r ok ex) (h1 : ∀ a w', Ext w w' → w'.pv = w.pv → Em K w' → ok a w' → ok' a w') (h2 : ∀ c as w', ex c as w' → ex' c as w') : Run K w r ok' ex' := by
  cases r with
  | ok a st => exact fun io H x m => h1 a _ x rfl m (h io H x m)
  | exc c as st => exact fun io H x m => h2 c as _ (h io H x m)
  | bad => exact h
theorem Run.bind {m : Mo A} {f : A → Mo B} {ok : B → Wd → Prop} (h : Run K w (bnd m f w.st) ok ex) : Run K w (m w.st) (fun a w' => Run K w' (f a w'.st) ok ex) ex := by
  unfold bnd at h
  cases q : m w.st with
  | ok a st =>
    rw [q] at h
    exact fun io H x e => Run.ext (w' := ⟨io, st, H, w.pv⟩) h x rfl
  | exc c as st =>
    rw [q] at h
    exact h
  | bad =>
    rw [q] at h
    exact h
theorem Run.here {a : A} (m : Em K w) (h : Run K w (.ok a w.st) ok ex) : ok a w := h w.io w.H (Ext.refl w) m
theorem Run.at {a : A} {st : Store} (h : Run K w (.ok a st) ok ex) (x : Ext w w') (m : Em K w') (e1 : w'.st = st) (e2 : w'.pv = w.pv) : ok a w' := by
  obtain ⟨io, st', H, pv⟩ := w'
  cases e1
  cases e2
  exact h io H x m
end
structure En (K : PySem.W.Frag) (w : Wd) (ro : Sl) (σ : St) : Prop where
  emb : Em K w
  len : σ.length = ro.length
  slot : ∀ (i : Nat) (d : Da), ro[i]? = some (some d) → ∃ v, σ[i]? = some (some v) ∧ Rep K w v d
section
variable {K : PySem.W.Frag} {w w' : Wd} {ro : Sl} {σ : St}
theorem En.mono (e : En K w ro σ) (x : Ext w w') (m : Em K w') : En K w' ro σ :=
  ⟨m, e.len, fun i d h => let ⟨v, h1, h2⟩ := e.slot i d h; ⟨v, h1, h2.mono e.emb x⟩⟩
theorem En.set (e : En K w ro σ) {i : Nat} {v : V} {d : Da} (r : Rep K w v d) : En K w (ro.set i (some d)) (σ.set i (some v)) := by
  refine ⟨e.emb, by simp [e.len], fun j x h => ?_⟩
  by_cases hj : j = i
  · subst hj
    rw [List.getElem?_set] at h
    simp only [if_true] at h
    split at h
    · rename_i hlt
      cases h
      refine ⟨v, ?_, r⟩
      rw [List.getElem?_set_self (by rw [e.len]; exact hlt)]
    · cases h
  · rw [List.getElem?_set_ne (Ne.symm hj)] at h
    obtain ⟨u, h1, h2⟩ := e.slot j x h
    exact ⟨u, by rw [List.getElem?_set_ne (Ne.symm hj)]; exact h1, h2⟩
end
def ExcD (K : PySem.W.Frag) (w : Wd) (as : List Da) (dd : Option Addr) : Prop := match as with
  | [] => dd = none
  | d :: _ => ∃ a v, dd = some a ∧ w.H a = some (.xd [(("place" : Str), v)]) ∧ Rep K w v d
def XP (K : PySem.W.Frag) (E : XK) (c : Str) (as : List Da) (w : Wd) : Prop := ∀ dd, ExcD K w as dd → E (.ref (He.ga K c)) dd w.H
abbrev OkV (K : PySem.W.Frag) (Q : VK) (d : Da) (w : Wd) : Prop := ∀ v, Rep K w v d → Q v w.H
def SE (K : PySem.W.Frag) (E : St → XK) (te : TE) (m : Sl → Mo Da) : Prop := ∀ (w : Wd) (ro : Sl) (σ : St) (Q : VK), En K w ro σ →
  Run K w (m ro w.st) (OkV K Q) (XP K (E σ)) → te σ w.H Q
def ST (K : PySem.W.Frag) (E : St → XK) (tt : TT) (m : Sl → Mo Bool) : Prop := ∀ (w : Wd) (ro : Sl) (σ : St) (Q : Bool → Hp → Prop), En K w ro σ →
  Run K w (m ro w.st) (fun b w' => Q b w'.H) (XP K (E σ)) → tt σ w.H Q
def SA (K : PySem.W.Frag) (E : St → XK) (ta : TA) (m : Sl → Mo (List Da)) : Prop := ∀ (w : Wd) (ro : Sl) (σ : St) (Q : List V → Hp → Prop), En K w ro σ →
  Run K w (m ro w.st) (fun ds w' => ∀ vs, RepL K w' vs ds → Q vs w'.H) (XP K (E σ)) → ta σ w.H Q
/-- a list that is new -/
def OkL (K : PySem.W.Frag) (Q : VK) (ds : List Da) (w : Wd) : Prop := ∀ p vs, w.H p = none → RepL K w vs ds → Q (.ref p) (upd w.H p (.lst vs))
def SL (K : PySem.W.Frag) (E : St → XK) (te : TE) (m : Sl → Mo (List Da)) : Prop := ∀ (w : Wd) (ro : Sl) (σ : St) (Q : VK), En K w ro σ →
  Run K w (m ro w.st) (OkL K Q) (XP K (E σ)) → te σ w.H Q
theorem okL_fresh {K : PySem.W.Frag} {w : Wd} {Q : VK} {ex : Str → List Da → Wd → Prop} {p : Addr} {vs : List V} {ds : List Da} {st : Store} (m : Em K w) (h : Run K w (.ok ds st) (OkL K Q) ex) (es : st = w.st) (hp : w.H p = none) (r : RepL K w vs ds) : Q (.ref p) (upd w.H p (.lst vs)) := by
  subst es
  exact h.here m p vs hp r
inductive Fl where
  | nx (ro : Sl) | rt (d : Da) | bk (ro : Sl) | ct (ro : Sl)
def OkF (K : PySem.W.Frag) (D : Ends) (f : Fl) (w : Wd) : Prop := match f with
  | .nx ro => ∀ σ, En K w ro σ → D.nx σ w.H
  | .rt d => ∀ v, Rep K w v d → D.rt v w.H
  | .bk ro => ∀ σ, En K w ro σ → D.bk σ w.H
  | .ct ro => ∀ σ, En K w ro σ → D.ct σ w.H
def SS (K : PySem.W.Frag) (E : St → XK) (ts : TS) (m : Sl → Mo Fl) : Prop := ∀ (w : Wd) (ro : Sl) (σ : St) (D : Ends), En K w ro σ →
  Run K w (m ro w.st) (OkF K D) (fun c as w' => ∀ σ', XP K (E σ') c as w') → ts D σ w.H
/-- a two-place operation by values; a one-place one; a call by values -/
def S2 (K : PySem.W.Frag) (r : R2) (f : Da → Da → Mo Da) : Prop := ∀ (w : Wd) (x y : V) (d e : Da) (Q : VK) (ex : Str → List Da → Wd → Prop), Em K w → Rep K w x d → Rep K w y e →
  Run K w (f d e w.st) (OkV K Q) ex → r x y w.H Q
def S1 (K : PySem.W.Frag) (r : V → Hp → VK → Prop) (f : Da → Mo Da) : Prop := ∀ (w : Wd) (x : V) (d : Da) (Q : VK) (ex : Str → List Da → Wd → Prop), Em K w → Rep K w x d →
  Run K w (f d w.st) (OkV K Q) ex → r x w.H Q
def SC (K : PySem.W.Frag) (r : List V → Hp → VK → Prop) (f : List Da → Mo Da) : Prop := ∀ (w : Wd) (xs : List V) (ds : List Da) (Q : VK) (ex : Str → List Da → Wd → Prop), Em K w → RepL K w xs ds →
  Run K w (f ds w.st) (OkV K Q) ex → r xs w.H Q
def SCL (K : PySem.W.Frag) (r : List V → Hp → VK → Prop) (f : List Da → Mo (List Da)) : Prop := ∀ (w : Wd) (xs : List V) (ds : List Da) (Q : VK) (ex : Str → List Da → Wd → Prop), Em K w → RepL K w xs ds →
  Run K w (f ds w.st) (OkL K Q) ex → r xs w.H Q
def eVar (i : Nat) : Sl → Mo Da := fun ro st => match ro[i]? with
  | some (some d) => .ok d st
  | _ => .bad
def eC (d : Da) : Sl → Mo Da := fun _ st => .ok d st
def e2 (f : Da → Da → Mo Da) (a b : Sl → Mo Da) : Sl → Mo Da := fun ro => bnd (a ro) fun x => bnd (b ro) fun y => f x y
def e1 (f : Da → Mo Da) (a : Sl → Mo Da) : Sl → Mo Da := fun ro => bnd (a ro) f
def toB : Da → Mo Bool
  | .bl b => ret b
  | _ => nop
def tst (a : Sl → Mo Da) : Sl → Mo Bool := fun ro => bnd (a ro) toB
def tAnd_ (a b : Sl → Mo Bool) : Sl → Mo Bool := fun ro => bnd (a ro) fun c => if c = true then b ro else ret false
def tOr_ (a b : Sl → Mo Bool) : Sl → Mo Bool := fun ro => bnd (a ro) fun c => if c = true then ret true else b ro
def tNot_ (a : Sl → Mo Bool) : Sl → Mo Bool := fun ro => bnd (a ro) fun c => ret (!c)
def vAnd (a b : Sl → Mo Da) : Sl → Mo Da := fun ro => bnd (tst a ro) fun c => if c = true then b ro else ret (.bl false)
def vOr (a b : Sl → Mo Da) : Sl → Mo Da := fun ro => bnd (tst a ro) fun c => if c = true then ret (.bl true) else b ro
def vNot (a : Sl → Mo Da) : Sl → Mo Da := fun ro => bnd (tst a ro) fun c => ret (.bl (!c))
def eIf (t : Sl → Mo Bool) (a b : Sl → Mo Da) : Sl → Mo Da := fun ro => bnd (t ro) fun c => if c = true then a ro else b ro
def aNil : Sl → Mo (List Da) := fun _ => ret []
def aCons (a : Sl → Mo Da) (r : Sl → Mo (List Da)) : Sl → Mo (List Da) := fun ro => bnd (a ro) fun x => bnd (r ro) fun xs => ret (x :: xs)
def eTup (a : Sl → Mo (List Da)) : Sl → Mo Da := fun ro => bnd (a ro) fun xs => if xs.length ≤ 1000 then ret (.tup xs) else nop
def lDisp (a : Sl → Mo (List Da)) : Sl → Mo (List Da) := fun ro => bnd (a ro) fun xs => if xs.length ≤ 1000 then ret xs else nop
def eL (a : Sl → Mo (List Da)) : Sl → Mo Da := fun ro => bnd (a ro) fun xs => ret (.lst xs)
def eH (a : Sl → Mo (List Da)) : Sl → Mo Da := fun ro => bnd (a ro) fun xs st => .ok (.han st.length) (st ++ [.lst xs])
def fz : Da → Mo Da
  | .han n => fun st => match st[n]? with
    | some (.lst ds) => .ok (.lst ds) (st.set n .dead)
    | _ => .bad
  | d => ret d
def eF (a : Sl → Mo Da) : Sl → Mo Da := fun ro => bnd (a ro) fz
def eChain (f g : Da → Da → Mo Da) (a b c : Sl → Mo Da) : Sl → Mo Da := fun ro => bnd (a ro) fun x => bnd (b ro) fun y => bnd (bnd (f x y) toB) fun k => if k = true then bnd (c ro) fun z => g y z else ret (.bl false)
def eCall (f : List Da → Mo Da) (a : Sl → Mo (List Da)) : Sl → Mo Da := fun ro => bnd (a ro) f
section
variable {K : PySem.W.Frag} {E : St → XK} {ta tb tc te : TE} {t u : TT} {a b c : Sl → Mo Da} {p q : Sl → Mo Bool} {r : R2} {f g : Da → Da → Mo Da} {tA : TA} {al : Sl → Mo (List Da)}
theorem s_var {i : Nat} : SE K E (tVar i) (eVar i) := fun w ro σ Q e h => by
  unfold eVar at h
  cases q : ro[i]? with
  | none => rw [q] at h; exact h.elim
  | some o =>
    cases o with
    | none => rw [q] at h; exact h.elim
    | some d =>
      rw [q] at h
      obtain ⟨v, h1, h2⟩ := e.slot i d q
      exact ⟨v, h1, h.here e.emb v h2⟩
theorem s_c {v : V} {d : Da} (hr : ∀ w, Em K w → Rep K w v d) : SE K E (tC v) (eC d) := fun w ro σ Q e h => h.here e.emb v (hr w e.emb)
theorem s_op (h2 : S2 K r f) (ha : SE K E ta a) (hb : SE K E tb b) : SE K E (tOp r ta tb) (e2 f a b) := fun w ro σ Q e h =>
  ha w ro σ _ e (h.bind.mono (fun d w1 x1 p1 m1 k v rv => hb w1 ro σ _ (e.mono x1 m1) (k.bind.mono (fun d2 w2 x2 p2 m2 k2 v2 rv2 =>
    h2 w2 v v2 d d2 Q _ m2 (rv.mono m1 x2) rv2 k2) fun _ _ _ z => z)) fun _ _ _ z => z)
theorem s_un {r : V → Hp → VK → Prop} {f : Da → Mo Da} (h1 : S1 K r f) (ha : SE K E ta a) : SE K E (tUn r ta) (e1 f a) := fun w ro σ Q e h =>
  ha w ro σ _ e (h.bind.mono (fun d w1 x1 p1 m1 k v rv => h1 w1 v d Q _ m1 rv k) fun _ _ _ z => z)
theorem toB_run {w : Wd} {d : Da} {ok : Bool → Wd → Prop} {ex : Str → List Da → Wd → Prop} (m : Em K w) (h : Run K w (toB d w.st) ok ex) : ∃ k, d = .bl k ∧ ok k w := by
  cases d with
  | bl k => exact ⟨k, rfl, h.here m⟩
  | non => exact h.elim
  | int i => exact h.elim
  | str s => exact h.elim
  | tup xs => exact h.elim
  | lst xs => exact h.elim
  | fro xs => exact h.elim
  | han n => exact h.elim
theorem rep_bl {w : Wd} {v : V} {k : Bool} (r : Rep K w v (.bl k)) : v = .bl k := by cases r; rfl
theorem s_tst (ha : SE K E ta a) : ST K E (tTest ta) (tst a) := fun w ro σ Q e h =>
  ha w ro σ _ e (h.bind.mono (fun d w1 x1 p1 m1 k v rv => by
    obtain ⟨c, rfl, q⟩ := toB_run m1 k
    exact ⟨c, rep_bl rv, q⟩) fun _ _ _ z => z)
theorem s_tB (ha : SE K E ta a) : ST K E (tB ta) (tst a) := s_tst ha
theorem s_and (ha : ST K E t p) (hb : ST K E u q) : ST K E (tAnd t u) (tAnd_ p q) := fun w ro σ Q e h =>
  ha w ro σ _ e (h.bind.mono (fun c w1 x1 p1 m1 k => by
    cases c with
    | true => rw [if_pos rfl] at k ⊢; exact hb w1 ro σ Q (e.mono x1 m1) k
    | false => rw [if_neg Bool.false_ne_true] at k ⊢; exact k.here m1) fun _ _ _ z => z)
theorem s_or (ha : ST K E t p) (hb : ST K E u q) : ST K E (tOr t u) (tOr_ p q) := fun w ro σ Q e h =>
  ha w ro σ _ e (h.bind.mono (fun c w1 x1 p1 m1 k => by
    cases c with
    | true => rw [if_pos rfl] at k ⊢; exact k.here m1
    | false => rw [if_neg Bool.false_ne_true] at k ⊢; exact hb w1 ro σ Q (e.mono x1 m1) k) fun _ _ _ z => z)
theorem s_not (ha : ST K E t p) : ST K E (tNot t) (tNot_ p) := fun w ro σ Q e h =>
  ha w ro σ _ e (h.bind.mono (fun c w1 x1 p1 m1 k => k.here m1) fun _ _ _ z => z)
theorem s_vAnd (ha : SE K E ta a) (hb : SE K E tb b) : SE K E (tAndV ta tb) (vAnd a b) := fun w ro σ Q e h => by
  unfold vAnd tst at h
  rw [bnd_assoc] at h
  refine ha w ro σ _ e (h.bind.mono (fun d w1 x1 p1 m1 k v rv => ?_) fun _ _ _ z => z)
  obtain ⟨c, rfl, k2⟩ := toB_run m1 k.bind
  refine ⟨c, rep_bl rv, ?_⟩
  cases c with
  | true => rw [if_pos rfl] at k2 ⊢; exact hb w1 ro σ Q (e.mono x1 m1) k2
  | false => rw [if_neg Bool.false_ne_true] at k2 ⊢; exact k2.here m1 _ (.bl false)
theorem s_vNot (ha : SE K E ta a) : SE K E (tNotV ta) (vNot a) := fun w ro σ Q e h => by
  unfold vNot tst at h
  rw [bnd_assoc] at h
  refine ha w ro σ _ e (h.bind.mono (fun d w1 x1 p1 m1 k v rv => ?_) fun _ _ _ z => z)
  obtain ⟨c, rfl, k2⟩ := toB_run m1 k.bind
  exact ⟨c, rep_bl rv, k2.here m1 _ (.bl (!c))⟩
theorem s_if (ht : ST K E t p) (ha : SE K E ta a) (hb : SE K E tb b) : SE K E (tIf t ta tb) (eIf p a b) := fun w ro σ Q e h =>
  ht w ro σ _ e (h.bind.mono (fun c w1 x1 p1 m1 k => by
    cases c with
    | true => rw [if_pos rfl] at k ⊢; exact ha w1 ro σ Q (e.mono x1 m1) k
    | false => rw [if_neg Bool.false_ne_true] at k ⊢; exact hb w1 ro σ Q (e.mono x1 m1) k) fun _ _ _ z => z)
theorem s_nil : SA K E tNil aNil := fun w ro σ Q e h => h.here e.emb [] .nil
theorem s_cons (ha : SE K E ta a) (hr : SA K E tA al) : SA K E (tCons ta tA) (aCons a al) := fun w ro σ Q e h =>
  ha w ro σ _ e (h.bind.mono (fun d w1 x1 p1 m1 k v rv => hr w1 ro σ _ (e.mono x1 m1) (k.bind.mono (fun ds w2 x2 p2 m2 k2 vs rvs =>
    k2.here m2 (v :: vs) (.cons (rv.mono m1 x2) rvs)) fun _ _ _ z => z)) fun _ _ _ z => z)
theorem le_line {n : Nat} (h : n ≤ 1000) : n ≤ sizeLine := Nat.le_of_lt (small1000 h)
theorem s_tup (ha : SA K E tA al) : SE K E (tTup tA) (eTup al) := fun w ro σ Q e h =>
  ha w ro σ _ e (h.bind.mono (fun ds w1 x1 p1 m1 k vs rvs => by
    by_cases hl : ds.length ≤ 1000
    · rw [if_pos hl] at k
      refine ⟨by rw [rvs.length]; exact le_line hl, fun p hp => ?_⟩
      exact k.at (w' := w1.new p (.tup vs)) (Ext.new m1 hp) (m1.new hp) rfl rfl _ (Rep.newTup m1 hp rvs)
    · rw [if_neg hl] at k; exact k.elim) fun _ _ _ z => z)
theorem s_lst (ha : SA K E tA al) : SL K E (tLst tA) (lDisp al) := fun w ro σ Q e h =>
  ha w ro σ _ e (h.bind.mono (fun ds w1 x1 p1 m1 k vs rvs => by
    by_cases hl : ds.length ≤ 1000
    · rw [if_pos hl] at k
      exact ⟨by rw [rvs.length]; exact le_line hl, fun p hp => okL_fresh m1 k rfl hp rvs⟩
    · rw [if_neg hl] at k; exact k.elim) fun _ _ _ z => z)
/-- a new list as data, as a thing -/
theorem s_L (ha : SL K E te al) : SE K E te (eL al) := fun w ro σ Q e h =>
  ha w ro σ _ e (h.bind.mono (fun ds w1 x1 p1 m1 k p vs hp rvs =>
    k.at (w' := w1.new p (.lst vs)) (Ext.new m1 hp) (m1.new hp) rfl rfl _ (Rep.newLst m1 hp rvs)) fun _ _ _ z => z)
theorem s_H (ha : SL K E te al) : SE K E te (eH al) := fun w ro σ Q e h =>
  ha w ro σ _ e (h.bind.mono (fun ds w1 x1 p1 m1 k p vs hp rvs => by
    have x2 : Ext w1 (w1.push p (.lst vs) (.lst ds)) := Ext.push m1 hp
    exact Run.at (w' := w1.push p (.lst vs) (.lst ds)) k x2 (m1.push hp ⟨vs, upd_same, rvs.mono m1 x2⟩) rfl rfl _ (.han (push_at m1))) fun _ _ _ z => z)
/-- a thing stops changing, where it is told -/
theorem s_F (ha : SE K E te a) : SE K E te (eF a) := fun w ro σ Q e h =>
  ha w ro σ _ e (h.bind.mono (fun d w1 x1 p1 m1 k v rv => by
    cases d with
    | han n =>
      have k' : Run K w1 (match w1.st[n]? with | some (.lst ds) => .ok (.lst ds) (w1.st.set n .dead) | _ => .bad) (OkV K Q) (XP K (E σ)) := k
      cases rv with
      | han ha =>
        cases q : w1.st[n]? with
        | none => rw [q] at k'; exact k'.elim
        | some c =>
          rw [q] at k'
          cases c with
          | lst ds =>
            obtain ⟨vs, hH, r⟩ := m1.cell n _ _ ha q
            exact Run.at (w' := w1.kill n) k' Ext.kill m1.kill rfl rfl _ (Rep.killed m1 ha hH r)
          | ins c fs => exact k'.elim
          | dK kvs => exact k'.elim
          | exn c => exact k'.elim
          | dead => exact k'.elim
    | non => exact k.here m1 v rv
    | bl b => exact k.here m1 v rv
    | int i => exact k.here m1 v rv
    | str s => exact k.here m1 v rv
    | tup xs => exact k.here m1 v rv
    | lst xs => exact k.here m1 v rv
    | fro xs => exact k.here m1 v rv) fun _ _ _ z => z)
theorem s_chain {r' : R2} (h1 : S2 K r f) (h2 : S2 K r' g) (ha : SE K E ta a) (hb : SE K E tb b) (hc : SE K E tc c) : SE K E (tChain r r' ta tb tc) (eChain f g a b c) := fun w ro σ Q e h =>
  ha w ro σ _ e (h.bind.mono (fun d w1 x1 p1 m1 k v rv => hb w1 ro σ _ (e.mono x1 m1) (k.bind.mono (fun d2 w2 x2 p2 m2 k2 v2 rv2 => by
    rw [bnd_assoc] at k2
    refine h1 w2 v v2 d d2 _ _ m2 (rv.mono m1 x2) rv2 (k2.bind.mono (fun z w3 x3 p3 m3 k3 v3 rv3 => ?_) fun _ _ _ z => z)
    obtain ⟨cc, rfl, k5⟩ := toB_run m3 k3.bind
    refine ⟨cc, rep_bl rv3, ?_⟩
    have e3 := e.mono (x1.trans (x2.trans x3)) m3
    cases cc with
    | true =>
      rw [if_pos rfl] at k5 ⊢
      exact hc w3 ro σ _ e3 (k5.bind.mono (fun d4 w4 x4 p4 m4 k4 v4 rv4 => h2 w4 v2 v4 d2 d4 Q _ m4 ((rv2.mono m2 x3).mono m3 x4) rv4 k4) fun _ _ _ z => z)
    | false => rw [if_neg Bool.false_ne_true] at k5 ⊢; exact k5.here m3 _ (.bl false)) fun _ _ _ z => z)) fun _ _ _ z => z)
theorem s_cb {r : List V → Hp → VK → Prop} {f : List Da → Mo Da} (hc : SC K r f) (ha : SA K E tA al) : SE K E (tCB r tA) (eCall f al) := fun w ro σ Q e h =>
  ha w ro σ _ e (h.bind.mono (fun ds w1 x1 p1 m1 k vs rvs => hc w1 vs ds Q _ m1 rvs k) fun _ _ _ z => z)
end
end CL
namespace CL
open PySem PySem.Spec L2
abbrev szD : Nat := 1000000
theorem szD_le {n : Nat} (h : n ≤ szD) : n ≤ sizeLine := Nat.le_trans h (by decide)
theorem szD_lt {n : Nat} (h : n < szD) : n < sizeLine := Nat.lt_of_lt_of_le h (by decide)
/-- the items of a list -/
def lsOf (st : Store) : Da → Option (List Da)
  | .lst xs => some xs
  | .han n => match st[n]? with
    | some (.lst xs) => some xs
    | _ => none
  | _ => none
/-- .. of a list or tuple, the script too -/
def sqOf (st : Store) : Da → Option (List Da)
  | .tup xs => some xs
  | .fro xs => some xs
  | d => lsOf st d
section
variable {K : PySem.W.Frag} {w : Wd}
theorem ls_rep {v : V} {d : Da} {ds : List Da} (m : Em K w) (r : Rep K w v d) (h : lsOf w.st d = some ds) : ∃ a vs, v = .ref a ∧ w.H a = some (.lst vs) ∧ RepL K w vs ds := by
  cases r with
  | lst h1 _ r1 => cases h; exact ⟨_, _, rfl, h1, r1⟩
  | @han a n ha =>
    have h' : (match w.st[n]? with | some (.lst xs) => some xs | _ => none) = some ds := h
    cases q : w.st[n]? with
    | none => rw [q] at h'; cases h'
    | some c =>
      rw [q] at h'
      cases c with
      | lst xs =>
        cases h'
        obtain ⟨vs, hH, r⟩ := m.cell n a _ ha q
        exact ⟨a, vs, rfl, hH, r⟩
      | ins c fs => cases h'
      | dK kvs => cases h'
      | exn c => cases h'
      | dead => cases h'
  | non => cases h
  | bl b => cases h
  | int i => cases h
  | str s => cases h
  | tup h1 r1 => cases h
  | fro h1 r1 => cases h
theorem sq_rep {v : V} {d : Da} {ds : List Da} (m : Em K w) (r : Rep K w v d) (h : sqOf w.st d = some ds) : ∃ a vs, v = .ref a ∧ (SqL K w.H a vs ∨ SqT K w.H a vs) ∧ RepL K w vs ds := by
  cases r with
  | tup h1 r1 => cases h; exact ⟨_, _, rfl, .inr h1, r1⟩
  | fro h1 r1 => cases h; exact ⟨_, _, rfl, .inl h1.sq, r1⟩
  | lst h1 n1 r1 =>
    obtain ⟨a, vs, e, h2, r2⟩ := ls_rep m (.lst h1 n1 r1) h
    exact ⟨a, vs, e, .inl (SqL.of h2), r2⟩
  | han ha =>
    obtain ⟨a, vs, e, h2, r2⟩ := ls_rep m (.han ha) h
    exact ⟨a, vs, e, .inl (SqL.of h2), r2⟩
  | non => cases h
  | bl b => cases h
  | int i => cases h
  | str s => cases h
end
def addD : Da → Da → Mo Da
  | .int i, .int j => ret (.int (i + j))
  | .str a, .str b => if a.length + b.length ≤ szD then ret (.str (a ++ b)) else nop
  | .tup xs, .tup ys => if xs.length + ys.length ≤ szD then ret (.tup (xs ++ ys)) else nop
  | d, e => fun st => match lsOf st d, lsOf st e with
    | some xs, some ys => if xs.length + ys.length ≤ szD then .ok (.lst (xs ++ ys)) st else .bad
    | _, _ => .bad
def catL (d e : Da) : Mo (List Da) := fun st => match lsOf st d, lsOf st e with
    | some xs, some ys => if xs.length + ys.length ≤ szD then .ok (xs ++ ys) st else .bad
    | _, _ => .bad
def subD : Da → Da → Mo Da
  | .int i, .int j => ret (.int (i - j))
  | _, _ => nop
instance (i j : Int) : Decidable (CMul i j) := by unfold CMul; infer_instance
instance (i j : Int) : Decidable (CDivN i j) := by unfold CDivN; infer_instance
instance (i j : Int) : Decidable (CPow i j) := by unfold CPow; infer_instance
def mulD : Da → Da → Mo Da
  | .int i, .int j => if CMul i j then ret (.int (i * j)) else nop
  | _, _ => nop
def repL (d : Da) (e : Da) : Mo (List Da) := fun st => match lsOf st d, e with
    | some xs, .int k => if -(2 ^ 63) ≤ k ∧ k < 2 ^ 63 ∧ xs.length * k.toNat ≤ szD then .ok (List.replicate k.toNat xs).flatten st else .bad
    | _, _ => .bad
def fdivD : Da → Da → Mo Da
  | .int i, .int j => if CDivN i j then ret (.int (i.fdiv j)) else nop
  | _, _ => nop
def modD : Da → Da → Mo Da
  | .int i, .int j => if j ≠ 0 then ret (.int (i.fmod j)) else nop
  | _, _ => nop
def powD : Da → Da → Mo Da
  | .int i, .int j => if CPow i j then ret (.int (i ^ j.toNat)) else nop
  | _, _ => nop
def cmpI (f : Int → Int → Bool) : Da → Da → Mo Da
  | .int i, .int j => ret (.bl (f i j))
  | _, _ => nop
def ltD := cmpI fun i j => decide (i < j)
def leD := cmpI fun i j => decide (i ≤ j)
def gtD := cmpI fun i j => decide (j < i)
def geD := cmpI fun i j => decide (j ≤ i)
mutual
def pyW (hf : Nat → Option PyData) : Da → Option PyData
  | .non => some .none
  | .bl b => some (.bool b)
  | .int i => some (.int i)
  | .str s => some (.str s)
  | .tup xs => (pyWL hf xs).map .tuple
  | .lst xs => (pyWL hf xs).map .list
  | .fro xs => (pyWL hf xs).map .list
  | .han n => hf n
def pyWL (hf : Nat → Option PyData) : List Da → Option (List PyData)
  | [] => some []
  | x :: xs => match pyW hf x, pyWL hf xs with
    | some d, some ds => some (d :: ds)
    | _, _ => none
end
abbrev py0L : List Da → Option (List PyData) := pyWL fun _ => none
def hfOf (st : Store) (n : Nat) : Option PyData := match st[n]? with
  | some (.lst xs) => (py0L xs).map .list
  | _ => none
abbrev pyD (st : Store) : Da → Option PyData := pyW (hfOf st)
section
variable {K : PySem.W.Frag} {w : Wd}
mutual
theorem dp_of {hf : Nat → Option PyData} (hh : ∀ n a p, hf n = some p → w.io[n]? = some a → Dp K w.H (.ref a) p) : ∀ (d : Da) (v : V) (p : PyData), Rep K w v d → pyW hf d = some p → Dp K w.H v p
  | .non, _, _, r, h => by cases r; cases h; exact .non
  | .bl b, _, _, r, h => by cases r; cases h; exact .bl b
  | .int i, _, _, r, h => by cases r; cases h; exact .int i
  | .str s, _, _, r, h => by cases r; cases h; exact .str s
  | .tup xs, _, _, r, h => by
    cases r with
    | tup h1 r1 =>
      unfold pyW at h
      cases q : pyWL hf xs with
      | none => rw [q] at h; cases h
      | some ps => rw [q] at h; cases h; exact .tup h1 (dpAll_of hh xs _ ps r1 q)
  | .lst xs, _, _, r, h => by
    cases r with
    | lst h1 _ r1 =>
      unfold pyW at h
      cases q : pyWL hf xs with
      | none => rw [q] at h; cases h
      | some ps => rw [q] at h; cases h; exact .lst (SqL.of h1) (dpAll_of hh xs _ ps r1 q)
  | .fro xs, _, _, r, h => by
    cases r with
    | fro h1 r1 =>
      unfold pyW at h
      cases q : pyWL hf xs with
      | none => rw [q] at h; cases h
      | some ps => rw [q] at h; cases h; exact .lst h1.sq (dpAll_of hh xs _ ps r1 q)
  | .han n, _, _, r, h => by
    cases r with
    | han ha => exact hh n _ _ (by unfold pyW at h; exact h) ha
theorem dpAll_of {hf : Nat → Option PyData} (hh : ∀ n a p, hf n = some p → w.io[n]? = some a → Dp K w.H (.ref a) p) : ∀ (ds : List Da) (vs : List V) (ps : List PyData), RepL K w vs ds → pyWL hf ds = some ps → DpAll K w.H vs ps
  | [], _, _, r, h => by cases r; cases h; exact .nil
  | d :: ds, _, _, r, h => by
    cases r with
    | cons r1 r2 =>
      unfold pyWL at h
      cases q1 : pyW hf d with
      | none => rw [q1] at h; cases h
      | some p =>
        cases q2 : pyWL hf ds with
        | none => rw [q1, q2] at h; cases h
        | some ps => rw [q1, q2] at h; cases h; exact .cons (dp_of hh d _ p r1 q1) (dpAll_of hh ds _ ps r2 q2)
end
theorem dp_hf (m : Em K w) : ∀ n a p, hfOf w.st n = some p → w.io[n]? = some a → Dp K w.H (.ref a) p := fun n a p h ha => by
  unfold hfOf at h
  cases q : w.st[n]? with
  | none => rw [q] at h; cases h
  | some c =>
    rw [q] at h
    cases c with
    | lst xs =>
      obtain ⟨vs, hH, r⟩ := m.cell n a _ ha q
      have h' : (py0L xs).map PyData.list = some p := h
      cases q2 : py0L xs with
      | none => rw [q2] at h'; cases h'
      | some ps =>
        rw [q2] at h'
        cases h'
        exact .lst (SqL.of hH) (dpAll_of (hf := fun _ => none) (fun _ _ _ z => nomatch z) xs vs ps r q2)
    | ins c fs => cases h
    | dK kvs => cases h
    | exn c => cases h
    | dead => cases h
theorem dp_py (m : Em K w) {d : Da} {v : V} {p : PyData} (r : Rep K w v d) (h : pyD w.st d = some p) : Dp K w.H v p := dp_of (dp_hf m) d v p r h
end
def eqB (neg : Bool) (d e : Da) : Mo Da := fun st => match pyD st d, pyD st e with
  | some p, some q => if (SeqAt.shaped p && SeqAt.shaped q) = true then .ok (.bl (if neg then !PyData.eqv p q else PyData.eqv p q)) st else .bad
  | _, _ => .bad
abbrev eqD := eqB false
abbrev neD := eqB true
def isB (neg : Bool) : Da → Da → Mo Da
  | .bl a, .bl b => ret (.bl (if neg then !decide (a = b) else decide (a = b)))
  | d, .non => ret (.bl (if neg then !(match d with | .non => true | _ => false) else match d with | .non => true | _ => false))
  | _, _ => nop
def negD : Da → Mo Da
  | .int i => ret (.int (-i))
  | _ => nop
def ixD (d e : Da) : Mo Da := fun st => match e with
  | .int i => (match d with
    | .str s => if s.length ≤ szD then (match atI s.cps.toList i with
      | some c => .ok (.str ⟨#[c]⟩) st
      | none => .bad) else .bad
    | d => (match d with
      | .fro _ => .bad
      | d => match sqOf st d with
        | some xs => (match atI xs i with
          | some x => .ok x st
          | none => .bad)
        | none => .bad))
  | _ => .bad
def cutD (xs : List Da) (lo hi : Option Int) : List Da := (xs.drop (HT.sIx xs.length 0 lo)).take (HT.sIx xs.length xs.length hi - HT.sIx xs.length 0 lo)
structure QO (X : Cx) (f : Value → Value → Sem Value) (r : R2) (g : Da → Da → Mo Da) : Prop where
  op : OpR X f r
  s2 : S2 X.K r g
def rOr (r r' : R2) : R2 := fun x y H Q => r x y H Q ∨ r' x y H Q
section
variable {X : Cx} {K : PySem.W.Frag} {w : Wd}
theorem OpR.or {f : Value → Value → Sem Value} {r r' : R2} (h : OpR X f r) (h' : OpR X f r') : OpR X f (rOr r r') := fun pins s σ H x y v u Q I rx ry q => by
  rcases q with q | q
  · exact h pins s σ H x y v u Q I rx ry q
  · exact h' pins s σ H x y v u Q I rx ry q
theorem QO.or2 {f : Value → Value → Sem Value} {g : Da → Da → Mo Da} {r r' : R2} (h : OpR X f r) (h' : OpR X f r') (s : S2 X.K (rOr r r') g) : QO X f (rOr r r') g := ⟨OpR.or h h', s⟩
theorem at_map {vs : List V} {ds : List Da} {i : Int} {x : Da} (r : RepL K w vs ds) (h : atI ds i = some x) : ∃ v, atI vs i = some v ∧ Rep K w v x := by
  unfold atI at h ⊢
  rw [r.length]
  cases q : ixN ds.length i with
  | none => rw [q] at h; cases h
  | some j =>
    rw [q] at h
    exact r.get h
theorem q_sub : QO X (binaryOp .Sub) (rI0 fun i j => .int (i - j)) subD := ⟨op_sub, fun w x y d e Q ex m rx ry h => by
  unfold subD at h
  split at h
  · cases rx; cases ry
    exact ⟨_, _, rfl, rfl, h.here m _ (.int _)⟩
  · exact h.elim⟩
theorem q_mul : QO X (binaryOp .Mult) (rI CMul fun i j => .int (i * j)) mulD := ⟨op_mul, fun w x y d e Q ex m rx ry h => by
  unfold mulD at h
  split at h
  · cases rx; cases ry
    split at h
    · rename_i hc
      exact ⟨_, _, rfl, rfl, hc, h.here m _ (.int _)⟩
    · exact h.elim
  · exact h.elim⟩
theorem q_fdiv : QO X (binaryOp .FloorDiv) (rI CDivN fun i j => .int (i.fdiv j)) fdivD := ⟨op_fdivN, fun w x y d e Q ex m rx ry h => by
  unfold fdivD at h
  split at h
  · cases rx; cases ry
    split at h
    · rename_i hc
      exact ⟨_, _, rfl, rfl, hc, h.here m _ (.int _)⟩
    · exact h.elim
  · exact h.elim⟩
theorem q_mod : QO X (binaryOp .Mod) (rI (fun _ j => j ≠ 0) fun i j => .int (i.fmod j)) modD := ⟨op_modN, fun w x y d e Q ex m rx ry h => by
  unfold modD at h
  split at h
  · cases rx; cases ry
    split at h
    · rename_i hc
      exact ⟨_, _, rfl, rfl, hc, h.here m _ (.int _)⟩
    · exact h.elim
  · exact h.elim⟩
theorem q_pow : QO X (binaryOp .Pow) (rI CPow fun i j => .int (i ^ j.toNat)) powD := ⟨op_pow, fun w x y d e Q ex m rx ry h => by
  unfold powD at h
  split at h
  · cases rx; cases ry
    split at h
    · rename_i hc
      exact ⟨_, _, rfl, rfl, hc, h.here m _ (.int _)⟩
    · exact h.elim
  · exact h.elim⟩
theorem q_cmpI {op : CmpOp} {f : Int → Int → Bool} (ho : OpR X (compareOp op) (rI0 fun i j => .bl (f i j))) : QO X (compareOp op) (rI0 fun i j => .bl (f i j)) (cmpI f) := ⟨ho, fun w x y d e Q ex m rx ry h => by
  unfold cmpI at h
  split at h
  · cases rx; cases ry
    exact ⟨_, _, rfl, rfl, h.here m _ (.bl _)⟩
  · exact h.elim⟩
theorem q_lt : QO X (compareOp .Lt) (rI0 fun i j => .bl (decide (i < j))) ltD := q_cmpI op_lt
theorem q_le : QO X (compareOp .LtE) (rI0 fun i j => .bl (decide (i ≤ j))) leD := q_cmpI op_le
theorem q_gt : QO X (compareOp .Gt) (rI0 fun i j => .bl (decide (j < i))) gtD := q_cmpI op_gt
theorem q_ge : QO X (compareOp .GtE) (rI0 fun i j => .bl (decide (j ≤ i))) geD := q_cmpI op_ge
theorem q_eqB {op : CmpOp} {neg : Bool} {r : R2} (ho : OpR X (compareOp op) r) (hr : ∀ x y H Q d e, Dp X.K H x d → Dp X.K H y e → SeqAt.shaped d = true → SeqAt.shaped e = true → Q (.bl (if neg then !PyData.eqv d e else PyData.eqv d e)) H → r x y H Q) : QO X (compareOp op) r (eqB neg) := ⟨ho, fun w x y d e Q ex m rx ry h => by
  unfold eqB at h
  split at h
  · rename_i p q h1 h2
    split at h
    · rename_i hs
      obtain ⟨s1, s2⟩ := Bool.and_eq_true_iff.mp hs
      exact hr x y w.H Q p q (dp_py m rx h1) (dp_py m ry h2) s1 s2 (h.here m _ (.bl _))
    · exact h.elim
  · exact h.elim⟩
theorem q_eq' (hu : X.A.units + 64 < cLine) : QO X (compareOp .Eq) (rEqD X.K) eqD := q_eqB (op_eqD hu) fun x y H Q d e h1 h2 h3 h4 h => ⟨d, e, h1, h2, h3, h4, h⟩
theorem q_ne' (hu : X.A.units + 64 < cLine) : QO X (compareOp .NotEq) (rNeD X.K) neD := q_eqB (op_neD hu) fun x y H Q d e h1 h2 h3 h4 h => ⟨d, e, h1, h2, h3, h4, h⟩
theorem q_isB {op : CmpOp} {neg : Bool} {r r' : R2} (ho : OpR X (compareOp op) r) (ho' : OpR X (compareOp op) r') (h1 : ∀ x H Q, Q (.bl (if neg then !decide (x = .non) else decide (x = .non))) H → r x .non H Q) (h2 : ∀ a b H Q, Q (.bl (if neg then !decide (a = b) else decide (a = b))) H → r' (.bl a) (.bl b) H Q) :
    QO X (compareOp op) (rOr r r') (isB neg) := QO.or2 ho ho' fun w x y d e Q ex m rx ry h => by
  unfold isB at h
  split at h
  · cases rx; cases ry
    exact .inr (h2 _ _ _ _ (h.here m _ (.bl _)))
  · cases ry
    refine .inl (h1 _ _ _ ?_)
    have k := h.here m _ (.bl _)
    cases rx <;> exact k
  · exact h.elim
abbrev rIs : R2 := rOr (fun x y H Q => y = .non ∧ Q (.bl (decide (x = .non))) H) (fun x y H Q => ∃ a b, x = .bl a ∧ y = .bl b ∧ Q (.bl (decide (a = b))) H)
abbrev rIsNot : R2 := rOr (fun x y H Q => y = .non ∧ Q (.bl (!decide (x = .non))) H) (fun x y H Q => ∃ a b, x = .bl a ∧ y = .bl b ∧ Q (.bl (!decide (a = b))) H)
theorem q_is : QO X (compareOp .Is) rIs (isB false) := q_isB op_isN op_is_bl (fun x H Q h => ⟨rfl, h⟩) fun a b H Q h => ⟨a, b, rfl, rfl, h⟩
theorem q_isNot : QO X (compareOp .IsNot) rIsNot (isB true) := q_isB op_notN op_isnot_bl (fun x H Q h => ⟨rfl, h⟩) fun a b H Q h => ⟨a, b, rfl, rfl, h⟩
def rAddA (K : PySem.W.Frag) : R2 := rOr (rOr (rI0 fun i j => .int (i + j)) (fun x y H Q => ∃ i j, x = .str i ∧ y = .str j ∧ i.length + j.length ≤ sizeLine ∧ Q (.str (i ++ j)) H)) (rOr (rCatA K) rCat)
theorem q_add' : QO X (binaryOp .Add) (rAddA X.K) addD := by
  refine ⟨OpR.or (OpR.or op_add op_add_str) (OpR.or op_catA op_cat), fun w x y d e Q ex m rx ry h => ?_⟩
  unfold addD at h
  split at h
  · cases rx; cases ry
    exact .inl (.inl ⟨_, _, rfl, rfl, h.here m _ (.int _)⟩)
  · cases rx; cases ry
    split at h
    · rename_i hl
      exact .inl (.inr ⟨_, _, rfl, rfl, szD_le hl, h.here m _ (.str _)⟩)
    · exact h.elim
  · split at h
    · rename_i hl
      cases rx with
      | @tup a vs _ h1 r1 =>
        cases ry with
        | @tup b us _ h2 r2 =>
          refine .inr (.inl ⟨a, b, vs, us, rfl, rfl, h1, h2, ?_, fun e => ?_, fun n1 e => ?_, fun n1 n2 p hp => ?_⟩)
          · rw [r1.length, r2.length]; exact szD_le hl
          · subst e; cases r1; exact h.here m _ (.tup h2 r2)
          · subst e; cases r2; rw [List.append_nil] at h; exact h.here m _ (.tup h1 r1)
          · exact Run.at (w' := w.new p (.tup (vs ++ us))) h (Ext.new m hp) (m.new hp) rfl rfl _ (Rep.newTup m hp (r1.append r2))
    · exact h.elim
  · dsimp only at h
    split at h
    · rename_i xs ys h1 h2
      split at h
      · rename_i hl
        obtain ⟨a, vs, rfl, hH, r1⟩ := ls_rep m rx h1
        obtain ⟨b, us, rfl, hH2, r2⟩ := ls_rep m ry h2
        refine .inr (.inr ⟨a, b, vs, us, rfl, rfl, hH, hH2, by rw [r1.length, r2.length]; exact szD_le hl, fun p hp => ?_⟩)
        exact Run.at (w' := w.new p (.lst (vs ++ us))) h (Ext.new m hp) (m.new hp) rfl rfl _ (Rep.newLst m hp (r1.append r2))
      · exact h.elim
    · exact h.elim
/-- a new list out of two operands -/
structure QOL (X : Cx) (f : Value → Value → Sem Value) (r : R2) (g : Da → Da → Mo (List Da)) : Prop where
  op : OpR X f r
  s2 : ∀ (w : Wd) (x y : V) (d e : Da) (Q : VK) (ex : Str → List Da → Wd → Prop), Em X.K w → Rep X.K w x d → Rep X.K w y e →
  Run X.K w (g d e w.st) (OkL X.K Q) ex → r x y w.H Q
theorem ql_cat : QOL X (binaryOp .Add) rCat catL := ⟨op_cat, fun w x y d e Q ex m rx ry h => by
  unfold catL at h
  split at h
  · rename_i xs ys h1 h2
    split at h
    · rename_i hl
      obtain ⟨a, vs, rfl, hH, r1⟩ := ls_rep m rx h1
      obtain ⟨b, us, rfl, hH2, r2⟩ := ls_rep m ry h2
      exact ⟨a, b, vs, us, rfl, rfl, hH, hH2, by rw [r1.length, r2.length]; exact szD_le hl, fun p hp => h.here m p _ hp (r1.append r2)⟩
    · exact h.elim
  · exact h.elim⟩
theorem RepL.flat {vs : List V} {ds : List Da} (r : RepL K w vs ds) : ∀ n, RepL K w (List.replicate n vs).flatten (List.replicate n ds).flatten
  | 0 => .nil
  | n + 1 => by
    rw [List.replicate_succ, List.replicate_succ, List.flatten_cons, List.flatten_cons]
    exact r.append (RepL.flat r n)
theorem ql_rep : QOL X (binaryOp .Mult) rRep repL := ⟨op_rep, fun w x y d e Q ex m rx ry h => by
  unfold repL at h
  split at h
  · rename_i xs k h1
    split at h
    · rename_i hl
      obtain ⟨a, vs, rfl, hH, r1⟩ := ls_rep m rx h1
      cases ry
      exact ⟨a, k, vs, rfl, rfl, hH, hl.1, hl.2.1, by rw [r1.length]; exact szD_le hl.2.2, fun p hp => h.here m p _ hp (r1.flat _)⟩
    · exact h.elim
  · exact h.elim⟩
theorem q_ix : IxR X (rIx X.K) ∧ S2 X.K (rIx X.K) ixD := by
  refine ⟨ix_seq, fun w x y d e Q ex m rx ry h => ?_⟩
  unfold ixD at h
  split at h
  · cases ry
    split at h
    · cases rx
      split at h
      · rename_i hl
        split at h
        · rename_i c hc
          exact .inr (.inr ⟨_, _, c, rfl, rfl, szD_le hl, hc, h.here m _ (.str _)⟩)
        · exact h.elim
      · exact h.elim
    · split at h
      · exact h.elim
      · rename_i hs hf
        split at h
        · rename_i xs hx
          split at h
          · rename_i z hz
            obtain ⟨a, vs, rfl, hq, rl⟩ := sq_rep m rx hx
            obtain ⟨v, hv, rv⟩ := at_map rl hz
            rcases hq with hq | hq
            · exact .inl ⟨a, vs, _, v, rfl, rfl, hq, hv, h.here m v rv⟩
            · exact .inr (.inl ⟨a, vs, _, v, rfl, rfl, hq, hv, h.here m v rv⟩)
          · exact h.elim
        · exact h.elim
  · exact h.elim
theorem cut_rep {vs : List V} {ds : List Da} (r : RepL K w vs ds) (lo hi : Option Int) : RepL K w (cutV vs lo hi) (cutD ds lo hi) := by
  unfold cutV cutD
  rw [r.length]
  exact (r.drop _).take _
def slL (d : Da) (lo hi : Option Int) : Mo (List Da) := fun st => match lsOf st d with
  | some xs => .ok (cutD xs lo hi) st
  | none => .bad
def slA : Da → Option Int → Option Int → Mo Da
  | .tup xs, lo, hi => ret (.tup (cutD xs lo hi))
  | .str s, lo, hi => if s.length ≤ szD then ret (.str (cutS s lo hi)) else nop
  | d, lo, hi => fun st => match lsOf st d with
    | some xs => .ok (.lst (cutD xs lo hi)) st
    | none => .bad
def S3 (K : PySem.W.Frag) (r : V → Option Int → Option Int → Hp → VK → Prop) (f : Da → Option Int → Option Int → Mo Da) : Prop := ∀ (w : Wd) (x : V) (d : Da) (lo hi : Option Int) (Q : VK) (ex : Str → List Da → Wd → Prop), Em K w → Rep K w x d →
  Run K w (f d lo hi w.st) (OkV K Q) ex → r x lo hi w.H Q
def rSlAll (K : PySem.W.Frag) : V → Option Int → Option Int → Hp → VK → Prop := fun x lo hi H Q => (rSlA K x lo hi H Q ∨ rSlS x lo hi H Q) ∨ rSlL K x lo hi H Q
theorem q_slA : SlR X (rSlAll X.K) ∧ S3 X.K (rSlAll X.K) slA := by
  refine ⟨SlR.or (SlR.or sl_tupA sl_str) sl_list, fun w x d lo hi Q ex m rx h => ?_⟩
  unfold slA at h
  split at h
  · rename_i ys
    cases rx with
    | @tup a vs _ h1 r1 =>
      refine .inl (.inl ⟨a, vs, rfl, h1, fun hw => ?_, fun _ p hp => ?_⟩)
      · have k := h.here m (.ref a)
        refine k (.tup h1 ?_)
        have e : cutD ys lo hi = ys := by
          unfold cutD
          rw [← r1.length, hw.1, hw.2]
          simp only [List.drop_zero, Nat.sub_zero]
          rw [r1.length, List.take_length]
        rw [e]
        exact r1
      · exact Run.at (w' := w.new p (.tup (cutV vs lo hi))) h (Ext.new m hp) (m.new hp) rfl rfl _ (Rep.newTup m hp (cut_rep r1 lo hi))
  · cases rx
    split at h
    · rename_i hl
      exact .inl (.inr ⟨_, rfl, szD_le hl, h.here m _ (.str _)⟩)
    · exact h.elim
  · dsimp only at h
    split at h
    · rename_i xs h1
      obtain ⟨a, vs, rfl, hH, r1⟩ := ls_rep m rx h1
      refine .inr ⟨a, vs, rfl, SqL.of hH, fun p hp => ?_⟩
      exact Run.at (w' := w.new p (.lst (cutV vs lo hi))) h (Ext.new m hp) (m.new hp) rfl rfl _ (Rep.newLst m hp (cut_rep r1 lo hi))
    · exact h.elim
theorem q_eq {K : PySem.W.Frag} (hu : X.A.units + 64 < cLine) (hK : X.K = K := by rfl) : QO X (compareOp .Eq) (rEqD K) eqD := by subst hK; exact q_eq' hu
theorem q_ne {K : PySem.W.Frag} (hu : X.A.units + 64 < cLine) (hK : X.K = K := by rfl) : QO X (compareOp .NotEq) (rNeD K) neD := by subst hK; exact q_ne' hu
theorem q_add {K : PySem.W.Frag} (hK : X.K = K := by rfl) : QO X (binaryOp .Add) (rAddA K) addD := by subst hK; exact q_add'
end
end CL
namespace CL
open PySem PySem.Spec L2
inductive Tn where
  | non | bool | int | str | list | tuple | dict
  deriving DecidableEq
def Tn.name : Tn → String
  | .non => "NoneType"
  | .bool => "bool"
  | .int => "int"
  | .str => "str"
  | .list => "list"
  | .tuple => "tuple"
  | .dict => "dict"
def isTn (a t : Tn) : Bool := decide (a = t) || (decide (a = .bool) && decide (t = .int))
def tyN (st : Store) : Da → Option Tn
  | .non => some .non
  | .bl _ => some .bool
  | .int _ => some .int
  | .str _ => some .str
  | .tup _ => some .tuple
  | .lst _ => some .list
  | .fro _ => some .list
  | .han n => match st[n]? with
    | some (.lst _) => some .list
    | some (.dK _) => some .dict
    | _ => none
theorem kit_tn : ∀ a t : Tn, t ≠ .non → t ≠ .dict → kitB a.name t.name = some (isTn a t) := by
  intro a t
  cases t <;> intro h1 h2 <;> first | exact absurd rfl h1 | exact absurd rfl h2 | (cases a <;> decide +kernel)
def isT (t : Tn) (d : Da) : Mo Da := fun st => match tyN st d with
  | some a => .ok (.bl (isTn a t)) st
  | none => .bad
def lenD (d : Da) : Mo Da := fun st => match d with
  | .str s => if s.length ≤ szD then .ok (.int s.length) st else .bad
  | d => match sqOf st d with
    | some xs => .ok (.int xs.length) st
    | none => .bad
def one {A : Type} (f : Da → Mo A) : List Da → Mo A
  | [d] => f d
  | _ => nop
def two {A : Type} (f : Da → Da → Mo A) : List Da → Mo A
  | [d, e] => f d e
  | _ => nop
def listD (d : Da) : Mo (List Da) := fun st => match sqOf st d with
  | some xs => .ok xs st
  | none => .bad
def tupleD (d : Da) : Mo Da := fun st => match d with
  | .fro _ => .bad
  | d => match sqOf st d with
    | some xs => .ok (.tup xs) st
    | none => .bad
def blsOf : List Da → Option (List Bool)
  | [] => some []
  | .bl b :: r => (blsOf r).map (b :: ·)
  | _ => none
def intsOf : List Da → Option (List Int)
  | [] => some []
  | .int b :: r => (intsOf r).map (b :: ·)
  | _ => none
def allD (d : Da) : Mo Da := fun st => match lsOf st d with
  | some xs => (match blsOf xs with
    | some bs => .ok (.bl (bs.all id)) st
    | none => .bad)
  | none => .bad
def maxD : Da → Da → Mo Da
  | .int i, .int j => ret (.int (if j > i then j else i))
  | _, _ => nop
def minD : Da → Da → Mo Da
  | .int i, .int j => ret (.int (if j < i then j else i))
  | _, _ => nop
section
variable {X : Cx} {K : PySem.W.Frag} {w : Wd}
theorem ty_rep {v : V} {d : Da} {a : Tn} (m : Em K w) (r : Rep K w v d) (h : tyN w.st d = some a) : TyX K w.H v (.type a.name) := by
  cases r with
  | non => cases h; exact .base .non
  | bl b => cases h; exact .base (.bl b)
  | int i => cases h; exact .base (.int i)
  | str s => cases h; exact .base (.str s)
  | tup h1 r1 =>
    cases h
    rcases h1 with (h1 | ⟨o, h1⟩) | ⟨o, its, n, h1, h2, _⟩
    · exact .base (.tup h1)
    · exact .fTuple h1
    · exact .kTuple h1 h2
  | lst h1 _ r1 => cases h; exact .base (.lst h1)
  | fro h1 r1 =>
    cases h
    rcases h1 with ⟨o, h1⟩ | ⟨o, its, n, h1, h2, _⟩
    · exact .base (.frz h1)
    · exact .kList h1 h2
  | @han a n ha =>
    have h' : (match w.st[n]? with | some (.lst _) => some Tn.list | some (.dK _) => some Tn.dict | _ => none) = some _ := h
    cases q : w.st[n]? with
    | none => rw [q] at h'; cases h'
    | some c =>
      rw [q] at h'
      have ok := m.cell n a c ha q
      cases c with
      | lst xs => cases h'; obtain ⟨vs, hH, _⟩ := ok; exact .base (.lst hH)
      | dK xs => cases h'; obtain ⟨vs, hH, _⟩ := ok; exact .base (.dK hH)
      | ins c fs => cases h'
      | exn c => cases h'
      | dead => cases h'
theorem sc_isT {t : Tn} (h1 : t ≠ .non) (h2 : t ≠ .dict) : ∀ (w : Wd) (x : V) (d : Da) (Q : VK) (ex : Str → List Da → Wd → Prop), Em K w → Rep K w x d → Run K w (isT t d w.st) (OkV K Q) ex → rIsi K [x, .ty t.name] w.H Q := fun w x d Q ex m rx h => by
  unfold isT at h
  split at h
  · rename_i a ha
    exact ⟨x, .ty t.name, .type a.name, .type t.name, isTn a t, rfl, .ty _, ty_rep m rx ha, kit_ty (kit_tn a t h1 h2), h.here m _ (.bl _)⟩
  · exact h.elim
theorem one_rep {A : Type} {vs : List V} {ds : List Da} {f : Da → Mo A} {ok : A → Wd → Prop} {ex : Str → List Da → Wd → Prop} (r : RepL K w vs ds) (h : Run K w (one f ds w.st) ok ex) : ∃ v d, vs = [v] ∧ ds = [d] ∧ Rep K w v d ∧ Run K w (f d w.st) ok ex := by
  unfold one at h
  split at h
  · cases r with
    | cons r1 r2 => cases r2; exact ⟨_, _, rfl, rfl, r1, h⟩
  · exact h.elim
theorem sc_len : SC K (fun xs H Q => ∃ x n, xs = [x] ∧ LenV K x H n ∧ Q (.int n) H) (one lenD) := fun w xs ds Q ex m r h => by
  obtain ⟨v, d, rfl, rfl, rv, h⟩ := one_rep r h
  unfold lenD at h
  split at h
  · cases rv
    split at h
    · rename_i hl
      exact ⟨_, _, rfl, ⟨szD_le hl, rfl⟩, h.here m _ (.int _)⟩
    · exact h.elim
  · split at h
    · rename_i ys hy
      obtain ⟨a, vs, rfl, hq, rl⟩ := sq_rep m rv hy
      rw [← rl.length] at h
      rcases hq with hq | hq
      · exact ⟨_, vs.length, rfl, .inl ⟨vs, hq, rfl⟩, h.here m _ (.int _)⟩
      · exact ⟨_, vs.length, rfl, .inr ⟨vs, hq, rfl⟩, h.here m _ (.int _)⟩
    · exact h.elim
theorem sc_list : SCL K (fun xs H Q => ∃ p ys, xs = [.ref p] ∧ (SqL K H p ys ∨ SqT K H p ys) ∧ ∀ l, H l = none → Q (.ref l) (upd H l (.lst ys))) (one listD) := fun w xs ds Q ex m r h => by
  obtain ⟨v, d, rfl, rfl, rv, h⟩ := one_rep r h
  unfold listD at h
  split at h
  · rename_i ys hy
    obtain ⟨a, vs, rfl, hq, rl⟩ := sq_rep m rv hy
    exact ⟨a, vs, rfl, hq, fun p hp => okL_fresh m h rfl hp rl⟩
  · exact h.elim
theorem sc_tuple : SC K (fun xs H Q => ∃ p ys, xs = [.ref p] ∧ ((SqL K H p ys ∧ ∀ l, H l = none → Q (.ref l) (upd H l (.tup ys))) ∨ (SqT K H p ys ∧ Q (.ref p) H))) (one tupleD) := fun w xs ds Q ex m r h => by
  obtain ⟨v, d, rfl, rfl, rv, h⟩ := one_rep r h
  unfold tupleD at h
  split at h
  · exact h.elim
  · split at h
    · rename_i ys hy
      obtain ⟨a, vs, rfl, hq, rl⟩ := sq_rep m rv hy
      rcases hq with hq | hq
      · exact ⟨a, vs, rfl, .inl ⟨hq, fun p hp => Run.at (w' := w.new p (.tup vs)) h (Ext.new m hp) (m.new hp) rfl rfl _ (Rep.newTup m hp rl)⟩⟩
      · exact ⟨a, vs, rfl, .inr ⟨hq, h.here m _ (.tup hq rl)⟩⟩
    · exact h.elim
theorem bls_rep : ∀ {ds : List Da} {vs : List V} {bs : List Bool}, RepL K w vs ds → blsOf ds = some bs → vs = bs.map V.bl
  | [], _, _, .nil, h => by cases h; rfl
  | .bl b :: r, _, _, .cons r1 r2, h => by
    unfold blsOf at h
    cases q : blsOf r with
    | none => rw [q] at h; cases h
    | some bs =>
      rw [q] at h
      cases h
      cases r1
      rw [bls_rep r2 q]
      rfl
  | .non :: r, _, _, _, h => by unfold blsOf at h; cases h
  | .int _ :: r, _, _, _, h => by unfold blsOf at h; cases h
  | .str _ :: r, _, _, _, h => by unfold blsOf at h; cases h
  | .tup _ :: r, _, _, _, h => by unfold blsOf at h; cases h
  | .lst _ :: r, _, _, _, h => by unfold blsOf at h; cases h
  | .fro _ :: r, _, _, _, h => by unfold blsOf at h; cases h
  | .han _ :: r, _, _, _, h => by unfold blsOf at h; cases h
theorem ints_rep : ∀ {ds : List Da} {vs : List V} {bs : List Int}, RepL K w vs ds → intsOf ds = some bs → vs = bs.map V.int
  | [], _, _, .nil, h => by cases h; rfl
  | .int b :: r, _, _, .cons r1 r2, h => by
    unfold intsOf at h
    cases q : intsOf r with
    | none => rw [q] at h; cases h
    | some bs =>
      rw [q] at h
      cases h
      cases r1
      rw [ints_rep r2 q]
      rfl
  | .non :: r, _, _, _, h => by unfold intsOf at h; cases h
  | .bl _ :: r, _, _, _, h => by unfold intsOf at h; cases h
  | .str _ :: r, _, _, _, h => by unfold intsOf at h; cases h
  | .tup _ :: r, _, _, _, h => by unfold intsOf at h; cases h
  | .lst _ :: r, _, _, _, h => by unfold intsOf at h; cases h
  | .fro _ :: r, _, _, _, h => by unfold intsOf at h; cases h
  | .han _ :: r, _, _, _, h => by unfold intsOf at h; cases h
theorem sc_all : SC K (rAll K) (one allD) := fun w xs ds Q ex m r h => by
  obtain ⟨v, d, rfl, rfl, rv, h⟩ := one_rep r h
  unfold allD at h
  split at h
  · rename_i ys hy
    obtain ⟨a, vs, rfl, hH, rl⟩ := ls_rep m rv hy
    split at h
    · rename_i bs hb
      have e := bls_rep rl hb
      subst e
      exact ⟨a, bs, rfl, SqL.of hH, h.here m _ (.bl _)⟩
    · exact h.elim
  · exact h.elim
end
def isLs (d : Da) : Mo Unit := fun st => match lsOf st d with
  | some _ => .ok () st
  | none => .bad
def appD (d x : Da) : Mo Da := fun st => match d with
  | .han n => (match st[n]? with
    | some (.lst xs) => if xs.length < szD then .ok .non (st.set n (.lst (xs ++ [x]))) else .bad
    | _ => .bad)
  | _ => .bad
def popD (d : Da) : Mo Da := fun st => match d with
  | .han n => (match st[n]? with
    | some (.lst xs) => (match xs[xs.length - 1]? with
      | some x => .ok x (st.set n (.lst xs.dropLast))
      | none => .bad)
    | _ => .bad)
  | _ => .bad
def setD (d i x : Da) : Mo Unit := fun st => match d, i with
  | .han n, .int k => (match st[n]? with
    | some (.lst xs) => (match ixN xs.length k with
      | some j => .ok () (st.set n (.lst (xs.set j x)))
      | none => .bad)
    | _ => .bad)
  | _, _ => .bad
def eApp (a b : Sl → Mo Da) : Sl → Mo Da := fun ro => bnd (a ro) fun d => bnd (isLs d) fun _ => bnd (b ro) fun x => appD d x
def ePop (a : Sl → Mo Da) : Sl → Mo Da := fun ro => bnd (a ro) fun d => bnd (isLs d) fun _ => popD d
section
variable {K : PySem.W.Frag} {E : St → XK} {ta tb te : TE} {a b : Sl → Mo Da} {w : Wd}
theorem isLs_run {d : Da} {v : V} {ok : Unit → Wd → Prop} {ex : Str → List Da → Wd → Prop} (m : Em K w) (rv : Rep K w v d) (h : Run K w (isLs d w.st) ok ex) : tyV K "list" v w.H ∧ ok () w := by
  unfold isLs at h
  split at h
  · rename_i xs hx
    obtain ⟨a, vs, rfl, hH, rl⟩ := ls_rep m rv hx
    exact ⟨.inl ⟨rfl, vs, SqL.of hH⟩, h.here m⟩
  · exact h.elim
theorem app_run {d x : Da} {v u : V} {Q : VK} {ex : Str → List Da → Wd → Prop} (m : Em K w) (rv : Rep K w v d) (ru : Rep K w u x) (h : Run K w (appD d x w.st) (OkV K Q) ex) : rAppend v [u] w.H Q := by
  unfold appD at h
  split at h
  · rename_i n
    split at h
    · rename_i xs hx
      split at h
      · rename_i hl
        cases rv with
        | @han a _ ha =>
          obtain ⟨vs, hH, rl⟩ := m.cell n a _ ha hx
          have x2 : Ext w (w.put n a (.lst (vs ++ [u])) (.lst (xs ++ [x]))) := Ext.put m ha hx (by intro z; cases z)
          refine ⟨a, vs, u, rfl, rfl, hH, by rw [rl.length]; exact szD_lt hl, ?_⟩
          exact Run.at (w' := w.put n a (.lst (vs ++ [u])) (.lst (xs ++ [x]))) h x2 (m.put ha hx (by intro z; cases z) ⟨_, upd_same, (rl.append (.cons ru .nil)).mono m x2⟩) rfl rfl _ .non
      · exact h.elim
    · exact h.elim
  · exact h.elim
theorem s_app (ha : SE K E ta a) (hb : SE K E tb b) : SE K E (tBM K "list" rAppend ta (tCons tb tNil)) (eApp a b) := fun w ro σ Q e h =>
  ha w ro σ _ e (h.bind.mono (fun d w1 x1 p1 m1 k v rv => by
    obtain ⟨ty, k2⟩ := isLs_run m1 rv k.bind
    refine ⟨ty, hb w1 ro σ _ (e.mono x1 m1) (k2.bind.mono (fun x w2 x2 p2 m2 k3 u ru => ?_) fun _ _ _ z => z)⟩
    exact app_run m2 (rv.mono m1 x2) ru k3) fun _ _ _ z => z)
theorem set_run {d i x : Da} {v k u : V} {Q : Hp → Prop} {ex : Str → List Da → Wd → Prop} (m : Em K w) (rv : Rep K w v d) (ri : Rep K w k i) (ru : Rep K w u x) (h : Run K w (setD d i x w.st) (fun _ w' => Q w'.H) ex) : rSetL v k u w.H Q := by
  unfold setD at h
  split at h
  · rename_i n k
    split at h
    · rename_i xs hx
      split at h
      · rename_i j hj
        cases rv with
        | @han a _ ha =>
          cases ri
          obtain ⟨vs, hH, rl⟩ := m.cell n a _ ha hx
          have x2 : Ext w (w.put n a (.lst (vs.set j u)) (.lst (xs.set j x))) := Ext.put m ha hx (by intro z; cases z)
          refine ⟨a, vs, k, j, rfl, rfl, hH, by rw [rl.length]; exact hj, ?_⟩
          exact Run.at (w' := w.put n a (.lst (vs.set j u)) (.lst (xs.set j x))) h x2 (m.put ha hx (by intro z; cases z) ⟨_, upd_same, (rl.set ru j).mono m x2⟩) rfl rfl
      · exact h.elim
    · exact h.elim
  · exact h.elim
end
end CL
namespace CL
open PySem PySem.Spec L2
abbrev Tg := Da → Sl → Option Sl
abbrev Tgs := List Da → Sl → Option Sl
def SameOut (ws : List Nat) (σ σ' : St) : Prop := σ'.length = σ.length ∧ ∀ i : Nat, i ∉ ws → σ'[i]? = σ[i]?
def SG (K : PySem.W.Frag) (g : TG) (t : Tg) (ws : List Nat) : Prop := ∀ (w : Wd) (v : V) (d : Da) (ro ro' : Sl) (σ : St), En K w ro σ → Rep K w v d → t d ro = some ro' →
  ∃ σ', En K w ro' σ' ∧ SameOut ws σ σ' ∧ ∀ Q : St → Hp → Prop, Q σ' w.H → g v σ w.H Q
def SGs (K : PySem.W.Frag) (g : TGs) (t : Tgs) (ws : List Nat) : Prop := ∀ (w : Wd) (vs : List V) (ds : List Da) (ro ro' : Sl) (σ : St), En K w ro σ → RepL K w vs ds → t ds ro = some ro' →
  ∃ σ', En K w ro' σ' ∧ SameOut ws σ σ' ∧ ∀ Q : St → Hp → Prop, Q σ' w.H → g vs σ w.H Q
def gN (i : Nat) : Tg := fun d ro => some (ro.set i (some d))
def gsN : Tgs := fun ds ro => match ds with
  | [] => some ro
  | _ => none
def gsC (t : Tg) (u : Tgs) : Tgs := fun ds ro => match ds with
  | d :: r => (t d ro).bind fun ro1 => u r ro1
  | _ => none
def gT (n : Nat) (t : Tgs) : Tg := fun d ro => match d with
  | .tup xs => if xs.length = n then t xs ro else none
  | _ => none
section
variable {K : PySem.W.Frag}
theorem SameOut.trans {ws us : List Nat} {σ σ1 σ2 : St} (a : SameOut ws σ σ1) (b : SameOut us σ1 σ2) : SameOut (ws ++ us) σ σ2 :=
  ⟨b.1.trans a.1, fun i h => (b.2 i fun z => h (List.mem_append_right _ z)).trans (a.2 i fun z => h (List.mem_append_left _ z))⟩
theorem sg_name {i : Nat} : SG K (gName i) (gN i) [i] := fun w v d ro ro' σ e r h => by
  cases h
  refine ⟨σ.set i (some v), e.set r, ⟨by simp, fun j hj => ?_⟩, fun Q q => q⟩
  rw [List.getElem?_set_ne fun z => hj (by simp [z])]
theorem sgs_nil : SGs K gNil gsN [] := fun w vs ds ro ro' σ e r h => by
  unfold gsN at h
  split at h
  · cases h
    cases r
    exact ⟨σ, e, ⟨rfl, fun _ _ => rfl⟩, fun Q q => ⟨rfl, q⟩⟩
  · cases h
theorem sgs_cons {g : TG} {gs : TGs} {t : Tg} {u : Tgs} {ws us : List Nat} (h1 : SG K g t ws) (h2 : SGs K gs u us) : SGs K (gCons g gs) (gsC t u) (ws ++ us) := fun w vs ds ro ro' σ e r h => by
  unfold gsC at h
  split at h
  · rename_i d rr
    cases r with
    | cons r1 r2 =>
      cases q : t d ro with
      | none => rw [q] at h; cases h
      | some ro1 =>
        rw [q] at h
        obtain ⟨σ1, e1, s1, k1⟩ := h1 w _ d ro ro1 σ e r1 q
        obtain ⟨σ2, e2, s2, k2⟩ := h2 w _ rr ro1 ro' σ1 e1 r2 h
        exact ⟨σ2, e2, s1.trans s2, fun Q q => ⟨_, _, rfl, k1 _ (k2 Q q)⟩⟩
  · cases h
theorem sg_tup {n : Nat} {gs : TGs} {t : Tgs} {ws : List Nat} (h : SGs K gs t ws) : SG K (gTup K n gs) (gT n t) ws := fun w v d ro ro' σ e r hh => by
  unfold gT at hh
  split at hh
  · rename_i xs
    split at hh
    · rename_i hl
      cases r with
      | tup h1 r1 =>
        obtain ⟨σ1, e1, s1, k1⟩ := h w _ xs ro ro' σ e r1 hh
        exact ⟨σ1, e1, s1, fun Q q => ⟨_, _, rfl, h1, by rw [r1.length]; exact hl, k1 Q q⟩⟩
    · cases hh
  · cases hh
end
mutual
def beqD : Da → Da → Bool
  | .non, .non => true
  | .bl a, .bl b => a == b
  | .int a, .int b => a == b
  | .str a, .str b => decide (a = b)
  | .tup a, .tup b => beqL a b
  | .lst a, .lst b => beqL a b
  | .fro a, .fro b => beqL a b
  | .han a, .han b => a == b
  | _, _ => false
def beqL : List Da → List Da → Bool
  | [], [] => true
  | a :: r, b :: s => beqD a b && beqL r s
  | _, _ => false
end
mutual
theorem beqD_eq : ∀ a b : Da, beqD a b = true → a = b
  | .non, b, h => by cases b <;> first | rfl | (unfold beqD at h; cases h)
  | .bl a, b, h => by cases b <;> first | (unfold beqD at h; cases h; done) | (unfold beqD at h; rw [eq_of_beq h])
  | .int a, b, h => by cases b <;> first | (unfold beqD at h; cases h; done) | (unfold beqD at h; rw [eq_of_beq h])
  | .str a, b, h => by cases b <;> first | (unfold beqD at h; cases h; done) | (unfold beqD at h; rw [of_decide_eq_true h])
  | .tup a, b, h => by cases b <;> first | (unfold beqD at h; cases h; done) | (unfold beqD at h; rw [beqL_eq _ _ h])
  | .lst a, b, h => by cases b <;> first | (unfold beqD at h; cases h; done) | (unfold beqD at h; rw [beqL_eq _ _ h])
  | .fro a, b, h => by cases b <;> first | (unfold beqD at h; cases h; done) | (unfold beqD at h; rw [beqL_eq _ _ h])
  | .han a, b, h => by cases b <;> first | (unfold beqD at h; cases h; done) | (unfold beqD at h; rw [eq_of_beq h])
theorem beqL_eq : ∀ a b : List Da, beqL a b = true → a = b
  | [], [], _ => rfl
  | [], _ :: _, h => by unfold beqL at h; cases h
  | _ :: _, [], h => by unfold beqL at h; cases h
  | a :: r, b :: s, h => by
    unfold beqL at h
    obtain ⟨h1, h2⟩ := Bool.and_eq_true_iff.mp h
    rw [beqD_eq a b h1, beqL_eq r s h2]
end
/-- a thing that is walked stands still -/
def chk (o : Option Nat) (xs : List Da) (st : Store) : Bool := match o with
  | none => true
  | some n => match st[n]? with
    | some (.lst ys) => beqL ys xs
    | _ => false
structure Src where
  xs : List Da
  o : Option Nat
def ItOk (K : PySem.W.Frag) (w : Wd) (J : It) (s : Src) : Prop := ∀ w', ExtW w w' → Em K w' → chk s.o s.xs w'.st = true →
  (∀ (i : Nat) (x : Da), s.xs[i]? = some x → J.go i w'.H ∧ ∀ v H', J.yld i w'.H v H' → ∃ w3 : Wd, w3.H = H' ∧ w3.st = w'.st ∧ w3.pv = w'.pv ∧ Ext w' w3 ∧ Em K w3 ∧ Rep K w3 v x) ∧ J.stop s.xs.length w'.H
def SI (K : PySem.W.Frag) (E : St → XK) (wi : TI) (m : Sl → Mo Src) : Prop := ∀ (w : Wd) (ro : Sl) (σ : St) (R : It → Hp → Prop), En K w ro σ →
  Run K w (m ro w.st) (fun s w' => ∀ J, ItOk K w' J s → R J w'.H) (XP K (E σ)) → wi σ w.H R
def srcV (d : Da) : Mo Src := fun st => match d with
  | .lst xs => .ok ⟨xs, none⟩ st
  | .tup xs => .ok ⟨xs, none⟩ st
  | .fro xs => .ok ⟨xs, none⟩ st
  | .han n => (match st[n]? with
    | some (.lst xs) => .ok ⟨xs, some n⟩ st
    | _ => .bad)
  | _ => .bad
def iV (a : Sl → Mo Da) : Sl → Mo Src := fun ro => bnd (a ro) srcV
def rngL (lo : Int) (n : Nat) : List Da := (List.range n).map fun (i : Nat) => Da.int (lo + (i : Int))
def big (i : Int) : Prop := -(2 ^ 62) ≤ i ∧ i < 2 ^ 62
instance (i : Int) : Decidable (big i) := by unfold big; infer_instance
def srcR1 : List Da → Mo Src
  | [.int j] => if big j then ret ⟨rngL 0 j.toNat, none⟩ else nop
  | _ => nop
def srcR2 : List Da → Mo Src
  | [.int i, .int j] => if big i ∧ big j then ret ⟨rngL i (j - i).toNat, none⟩ else nop
  | _ => nop
def iR1 (a : Sl → Mo (List Da)) : Sl → Mo Src := fun ro => bnd (a ro) srcR1
def iR2 (a : Sl → Mo (List Da)) : Sl → Mo Src := fun ro => bnd (a ro) srcR2
def iSeq (K : PySem.W.Frag) (tl : TE) : TI := fun σ H R => tl σ H fun x H1 => ∃ a, x = .ref a ∧ (((∃ xs, SqL K H1 a xs) ∧ R (Itl K a) H1) ∨ ((∃ xs, SqT K H1 a xs) ∧ R (Itt K a) H1))
section
variable {X : Cx} {tg : Expr}
theorem pi_seq {l : Expr} {tl : TE} (hl : PE X l tl) : PI X tg l (iSeq X.K tl) := by
  refine ⟨fun pins s σ H R I h => ?_⟩
  refine thn (hl.run pins s σ H _ I h) fun v s1 ⟨x, H1, I1, r1, q1⟩ => ?_
  obtain ⟨a, e, q1⟩ := q1
  subst e
  cases r1
  rcases q1 with ⟨⟨xs, hq⟩, q⟩ | ⟨⟨xs, hq⟩, q⟩
  · obtain ⟨its, rv, p, hz⟩ := I1.list hq
    refine wpAny_pyIter_list p.isList ?_
    refine ⟨s1.heap.objs.size, [s1.heap.objs.size], _, _, H1, rfl, I1.kept (t' := s1.toks) fun b o e => Heap.get?_push_of_some _ e, turn_list a _, ⟨_, Heap.get?_push_size _ rfl, rfl, rfl⟩, fun b hb => ?_, q⟩
    have e : b = s1.heap.objs.size := by simpa using hb
    subst e
    exact I1.fpOk (Nat.le_refl _) (I1.hok.fresh (Nat.le_refl _))
  · obtain ⟨its, rv, p, hz⟩ := I1.tuple hq
    refine wpAny_pyIter_tuple (show s1.heap.IsTuple a its.toArray from p) ?_
    refine ⟨s1.heap.objs.size, [s1.heap.objs.size], _, _, H1, rfl, I1.kept (t' := s1.toks) fun b o e => Heap.get?_push_of_some _ e, turn_tuple a _, ⟨_, Heap.get?_push_size _ rfl, rfl, rfl⟩, fun b hb => ?_, q⟩
    have e : b = s1.heap.objs.size := by simpa using hb
    subst e
    exact I1.fpOk (Nat.le_refl _) (I1.hok.fresh (Nat.le_refl _))
end
section
variable {K : PySem.W.Frag} {E : St → XK} {ta : TE} {a : Sl → Mo Da} {tA : TA} {al : Sl → Mo (List Da)} {w : Wd}
theorem it_list {p : Addr} {vs : List V} {s : Src} (hs : ∀ w', ExtW w w' → Em K w' → chk s.o s.xs w'.st = true → ∃ vs, SqL K w'.H p vs ∧ RepL K w' vs s.xs) : ItOk K w (Itl K p) s := fun w' x m c => by
  obtain ⟨us, hq, r⟩ := hs w' x m c
  refine ⟨fun i d hd => ?_, ⟨us, hq, by rw [r.length]; exact Nat.le_refl _⟩⟩
  obtain ⟨v, hv, rv⟩ := r.get hd
  refine ⟨⟨us, v, hq, hv⟩, fun u H' hy => ⟨w', hy.1.symm, rfl, rfl, Ext.refl _, m, ?_⟩⟩
  have := hy.2 us hq
  rw [hv] at this
  cases this
  exact rv
theorem it_tup {p : Addr} {vs : List V} {s : Src} (hs : ∀ w', ExtW w w' → Em K w' → chk s.o s.xs w'.st = true → ∃ vs, SqT K w'.H p vs ∧ RepL K w' vs s.xs) : ItOk K w (Itt K p) s := fun w' x m c => by
  obtain ⟨us, hq, r⟩ := hs w' x m c
  refine ⟨fun i d hd => ?_, ⟨us, hq, by rw [r.length]; exact Nat.le_refl _⟩⟩
  obtain ⟨v, hv, rv⟩ := r.get hd
  refine ⟨⟨us, v, hq, hv⟩, fun u H' hy => ⟨w', hy.1.symm, rfl, rfl, Ext.refl _, m, ?_⟩⟩
  have := hy.2 us hq
  rw [hv] at this
  cases this
  exact rv
theorem si_v (ha : SE K E ta a) : SI K E (iSeq K ta) (iV a) := fun w ro σ R e h =>
  ha w ro σ _ e (h.bind.mono (fun d w1 x1 p1 m1 k v rv => by
    unfold srcV at k
    cases rv with
    | @lst p vs ds h1 n1 r1 =>
      exact ⟨_, rfl, .inl ⟨⟨vs, SqL.of h1⟩, k.here m1 _ (it_list (vs := vs) fun w' x m _ => ⟨vs, SqL.of (x.keep _ _ h1 n1).1, r1.monoW m1 x⟩)⟩⟩
    | @tup p vs ds h1 r1 =>
      exact ⟨_, rfl, .inr ⟨⟨vs, h1⟩, k.here m1 _ (it_tup (vs := vs) fun w' x m _ => ⟨vs, sqT_monoW m1 x h1, r1.monoW m1 x⟩)⟩⟩
    | @fro p vs ds h1 r1 =>
      refine ⟨_, rfl, .inl ⟨⟨vs, h1.sq⟩, k.here m1 _ (it_list (vs := vs) fun w' x m _ => ⟨vs, ?_, r1.monoW m1 x⟩)⟩⟩
      rcases h1 with ⟨o, h1⟩ | h1
      · exact .inl (.inr ⟨o, (x.keep _ _ h1 (m1.noFrz h1)).1⟩)
      · exact .inr h1
    | @han p n hp =>
      dsimp only at k
      split at k
      · rename_i xs hx
        obtain ⟨vs, hH, r⟩ := m1.cell n p _ hp hx
        refine ⟨_, rfl, .inl ⟨⟨vs, SqL.of hH⟩, k.here m1 _ (it_list (vs := vs) fun w' x m c => ?_)⟩⟩
        have hp' := x.at hp
        unfold chk at c
        dsimp only at c
        split at c
        · rename_i ys hy
          have e := beqL_eq _ _ c
          subst e
          obtain ⟨us, hH', r'⟩ := m.cell n p _ hp' hy
          exact ⟨us, SqL.of hH', r'⟩
        · cases c
      · exact k.elim
    | non => exact k.elim
    | bl b => exact k.elim
    | int i => exact k.elim
    | str s => exact k.elim) fun _ _ _ z => z)
theorem rng_get {lo : Int} {n i : Nat} {x : Da} (h : (rngL lo n)[i]? = some x) : i < n ∧ x = .int (lo + i) := by
  unfold rngL at h
  rw [List.getElem?_map] at h
  by_cases hi : i < n
  · rw [List.getElem?_range hi] at h
    cases h
    exact ⟨hi, rfl⟩
  · rw [List.getElem?_eq_none (by simpa using hi)] at h
    cases h
theorem it_rng {lo : Int} {n : Nat} : ItOk K w (Itr lo n) ⟨rngL lo n, none⟩ := fun w' x m c => by
  refine ⟨fun i d hd => ?_, ?_⟩
  · obtain ⟨hi, rfl⟩ := rng_get hd
    exact ⟨hi, fun v H' hy => ⟨w', hy.1.symm, rfl, rfl, Ext.refl _, m, by rw [hy.2]; exact .int _⟩⟩
  · show n ≤ (rngL lo n).length
    unfold rngL
    simp
theorem si_r1 (ha : SA K E tA al) : SI K E (iRng1 tA) (iR1 al) := fun w ro σ R e h =>
  ha w ro σ _ e (h.bind.mono (fun ds w1 x1 p1 m1 k vs rv => by
    unfold srcR1 at k
    split at k
    · rename_i j
      split at k
      · rename_i hb
        cases rv with
        | cons r1 r2 =>
          cases r2
          cases r1
          exact ⟨j, rfl, hb.1, hb.2, k.here m1 _ it_rng⟩
      · exact k.elim
    · exact k.elim) fun _ _ _ z => z)
end
def mNil : Sl → Mo Fl := fun ro => ret (.nx ro)
def mSeq (a b : Sl → Mo Fl) : Sl → Mo Fl := fun ro => bnd (a ro) fun f => match f with
  | .nx ro' => b ro'
  | f => ret f
def mSet (i : Nat) (a : Sl → Mo Da) : Sl → Mo Fl := fun ro => bnd (a ro) fun d => ret (.nx (ro.set i (some d)))
def mTgt (t : Tg) (a : Sl → Mo Da) : Sl → Mo Fl := fun ro => bnd (a ro) fun d => match t d ro with
  | some ro' => ret (.nx ro')
  | none => nop
def mPar (i j : Nat) (a : Sl → Mo (List Da)) : Sl → Mo Fl := fun ro => bnd (a ro) fun ds => match ds with
  | [d, e] => ret (.nx ((ro.set i (some d)).set j (some e)))
  | _ => nop
def mRet (a : Sl → Mo Da) : Sl → Mo Fl := fun ro => bnd (a ro) fun d => ret (.rt d)
def mRetN : Sl → Mo Fl := fun ro => ret (.rt .non)
def mExpr (a : Sl → Mo Da) : Sl → Mo Fl := fun ro => bnd (a ro) fun _ => ret (.nx ro)
def mIf (t : Sl → Mo Bool) (a b : Sl → Mo Fl) : Sl → Mo Fl := fun ro => bnd (t ro) fun c => if c = true then a ro else b ro
def mBrk : Sl → Mo Fl := fun ro => ret (.bk ro)
def mCnt : Sl → Mo Fl := fun ro => ret (.ct ro)
def mNever : Sl → Mo Fl := fun _ => nop
def mSetI (v o i : Sl → Mo Da) : Sl → Mo Fl := fun ro => bnd (v ro) fun x => bnd (o ro) fun d => bnd (i ro) fun k => bnd (setD d k x) fun _ => ret (.nx ro)
def mAug (i : Nat) (f : Int → Int → Int) (a : Sl → Mo Da) : Sl → Mo Fl := fun ro => bnd (eVar i ro) fun x => bnd (a ro) fun y => match x, y with
  | .int p, .int q => ret (.nx (ro.set i (some (.int (f p q)))))
  | _, _ => nop
def loopK (go : Sl → Mo Fl) (f : Fl) : Mo Fl := match f with
  | .nx ro => go ro
  | .ct ro => go ro
  | .bk ro => ret (.nx ro)
  | .rt d => ret (.rt d)
def forGo (o : Option Nat) (all : List Da) (t : Tg) (body : Sl → Mo Fl) : List Da → Sl → Mo Fl
  | [], ro => fun st => if chk o all st = true then .ok (.nx ro) st else .bad
  | x :: r, ro => fun st => if chk o all st = true then (match t x ro with
    | some ro1 => bnd (body ro1) (loopK (forGo o all t body r)) st
    | none => .bad) else .bad
def mFor (s : Sl → Mo Src) (t : Tg) (body : Sl → Mo Fl) : Sl → Mo Fl := fun ro => bnd (s ro) fun s => forGo s.o s.xs t body s.xs ro
def whileF (t : Sl → Mo Bool) (body : Sl → Mo Fl) : Nat → Sl → Mo Fl
  | 0, _ => nop
  | n + 1, ro => bnd (t ro) fun c => if c = true then bnd (body ro) (loopK (whileF t body n)) else ret (.nx ro)
section
variable {K : PySem.W.Frag} {E : St → XK} {ta tb te tv to ti : TE} {a b v o i' : Sl → Mo Da} {tt : TT} {p : Sl → Mo Bool} {ts tu : TS} {m n : Sl → Mo Fl} {g : TG} {t : Tg} {ws : List Nat} {tA : TA} {al : Sl → Mo (List Da)}
theorem ss_nil : SS K E tNext mNil := fun w ro σ D e h => h.here e.emb σ e
theorem ss_seq (h1 : SS K E ts m) (h2 : SS K E tu n) : SS K E (tSeq ts tu) (mSeq m n) := fun w ro σ D e h =>
  h1 w ro σ { D with nx := tu D } e (h.bind.mono (fun f w1 x1 p1 m1 k => by
    cases f with
    | nx ro' => exact fun σ' e' => h2 w1 ro' σ' D e' k
    | rt d => exact Run.here (ok := OkF K D) (a := Fl.rt d) m1 k
    | bk ro' => exact Run.here (ok := OkF K D) (a := Fl.bk ro') m1 k
    | ct ro' => exact Run.here (ok := OkF K D) (a := Fl.ct ro') m1 k) fun _ _ _ z => z)
theorem ss_set {i : Nat} (ha : SE K E ta a) : SS K E (tAsg ta (gName i)) (mSet i a) := fun w ro σ D e h =>
  ha w ro σ _ e (h.bind.mono (fun d w1 x1 p1 m1 k v rv => k.here m1 _ ((e.mono x1 m1).set rv)) fun _ _ _ z => z σ)
theorem ss_par {i j : Nat} (ha : SA K E tA al) : SS K E (tPar i j tA) (mPar i j al) := fun w ro σ D e h =>
  ha w ro σ _ e (h.bind.mono (fun ds w1 x1 p1 m1 k vs rv => by
    split at k
    · cases rv with
      | cons r1 r2 =>
        cases r2 with
        | cons r2 r3 =>
          cases r3
          exact ⟨_, _, rfl, k.here m1 _ (((e.mono x1 m1).set r1).set r2)⟩
    · exact k.elim) fun _ _ _ z => z σ)
theorem ss_ret (ha : SE K E ta a) : SS K E (tRet ta) (mRet a) := fun w ro σ D e h =>
  ha w ro σ _ e (h.bind.mono (fun d w1 x1 p1 m1 k v rv => k.here m1 v rv) fun _ _ _ z => z σ)
theorem ss_expr (ha : SE K E ta a) : SS K E (tDrop ta) (mExpr a) := fun w ro σ D e h =>
  ha w ro σ _ e (h.bind.mono (fun d w1 x1 p1 m1 k v rv => k.here m1 σ (e.mono x1 m1)) fun _ _ _ z => z σ)
theorem ss_if (ht : ST K E tt p) (h1 : SS K E ts m) (h2 : SS K E tu n) : SS K E (tIfS tt ts tu) (mIf p m n) := fun w ro σ D e h =>
  ht w ro σ _ e (h.bind.mono (fun c w1 x1 p1 m1 k => by
    cases c with
    | true => rw [if_pos rfl] at k ⊢; exact h1 w1 ro σ D (e.mono x1 m1) k
    | false => rw [if_neg Bool.false_ne_true] at k ⊢; exact h2 w1 ro σ D (e.mono x1 m1) k) fun _ _ _ z => z σ)
theorem ss_setI (hv : SE K E tv v) (ho : SE K E to o) (hi : SE K E ti i') : SS K E (tAsg tv (gSub to ti rSetL)) (mSetI v o i') := fun w ro σ D e h =>
  hv w ro σ _ e (h.bind.mono (fun x w1 x1 p1 m1 k u ru => ho w1 ro σ _ (e.mono x1 m1) (k.bind.mono (fun d w2 x2 p2 m2 k2 u2 ru2 =>
    hi w2 ro σ _ (e.mono (x1.trans x2) m2) (k2.bind.mono (fun kk w3 x3 p3 m3 k3 u3 ru3 =>
      set_run m3 (ru2.mono m2 x3) ru3 (ru.mono m1 (x2.trans x3)) (k3.bind.mono (fun _ w4 x4 p4 m4 k4 => k4.here m4 σ (e.mono (x1.trans (x2.trans (x3.trans x4))) m4)) fun _ _ _ z => z)) fun _ _ _ z => z σ)) fun _ _ _ z => z σ)) fun _ _ _ z => z σ)
theorem ss_aug {i : Nat} {f : Int → Int → Int} (ha : SE K E ta a) : SS K E (tAug i ta (ipI f)) (mAug i f a) := fun w ro σ D e h => by
  have k := h.bind
  unfold eVar at k
  split at k
  · rename_i d hd
    obtain ⟨v, hv, rv⟩ := e.slot i d hd
    refine ⟨v, hv, ha w ro σ _ e ((k.here e.emb).bind.mono (fun y w1 x1 p1 m1 k2 u ru => ?_) fun _ _ _ z => z σ)⟩
    split at k2
    · cases rv; cases ru
      exact ⟨_, _, rfl, rfl, k2.here m1 _ ((e.mono x1 m1).set (.int _))⟩
    · exact k2.elim
  · exact k.elim
theorem loop_ok {D : Ends} {N : St → Hp → Prop} {go : Sl → Mo Fl} {ex : Str → List Da → Wd → Prop} {w : Wd} {f : Fl} (m : Em K w) (h : Run K w (loopK go f w.st) (OkF K D) ex)
    (hN : ∀ ro σ, En K w ro σ → Run K w (go ro w.st) (OkF K D) ex → N σ w.H) : OkF K { D with nx := N, ct := N, bk := D.nx } f w := by
  cases f with
  | nx ro => exact fun σ e => hN ro σ e h
  | ct ro => exact fun σ e => hN ro σ e h
  | bk ro => exact fun σ e => Run.here (ok := OkF K D) (a := Fl.nx ro) m h σ e
  | rt d => exact Run.here (ok := OkF K D) (a := Fl.rt d) m h
theorem ss_for {wi : TI} {s : Sl → Mo Src} (hs : SI K E wi s) (hg : SG K g t ws) (hb : SS K E ts m) : SS K E (tFor wi g ts) (mFor s t m) := fun w ro σ D e h => by
  refine hs w ro σ _ e (h.bind.mono (fun s w1 x1 p1 m1 k J hJ => ?_) fun _ _ _ z => z σ)
  refine ⟨fun i mm σ' H' => ∃ w2 ro2, w2.H = H' ∧ Ext w1 w2 ∧ w2.pv = w1.pv ∧ En K w2 ro2 σ' ∧ i ≤ s.xs.length ∧ mm = s.xs.length - i ∧ Run K w2 (forGo s.o s.xs t m (s.xs.drop i) ro2 w2.st) (OkF K D) (fun c as w' => ∀ σ', XP K (E σ') c as w'),
    ⟨s.xs.length, w1, ro, rfl, Ext.refl _, rfl, e.mono x1 m1, Nat.zero_le _, by omega, by rw [List.drop_zero]; exact k⟩, ?_⟩
  rintro i mm σ2 H2 ⟨w2, ro2, rfl, x2, p2, e2, hi, rfl, k2⟩
  by_cases hlt : i < s.xs.length
  · have hd : s.xs.drop i = s.xs[i] :: s.xs.drop (i + 1) := List.drop_eq_getElem_cons hlt
    rw [hd] at k2
    unfold forGo at k2
    split at k2
    · rename_i hc
      obtain ⟨hgo, hst⟩ := hJ w2 x2.w e2.emb hc
      obtain ⟨g1, g2⟩ := hgo i _ (List.getElem?_eq_getElem hlt)
      cases q : t s.xs[i] ro2 with
      | none => rw [q] at k2; exact k2.elim
      | some ro3 =>
        rw [q] at k2
        refine .inr ⟨g1, fun σ' H' => ∃ w3 ro3, w3.H = H' ∧ Ext w1 w3 ∧ w3.pv = w1.pv ∧ En K w3 ro3 σ' ∧ Run K w3 (forGo s.o s.xs t m (s.xs.drop (i + 1)) ro3 w3.st) (OkF K D) (fun c as w' => ∀ σ', XP K (E σ') c as w'),
          fun σ' H' ⟨w3, r3, h1, h2, h3, h4, h5⟩ => ⟨s.xs.length - (i + 1), by omega, w3, r3, h1, h2, h3, h4, hlt, rfl, h5⟩, fun v H' hy => ?_⟩
        obtain ⟨w3, rfl, es, ep, x3, m3, rv⟩ := g2 v H' hy
        obtain ⟨σ3, e3, _, kk⟩ := hg w3 v _ ro2 ro3 σ2 (e2.mono x3 m3) rv q
        refine kk _ (hb w3 ro3 σ3 _ e3 ?_)
        have k3 : Run K w3 (bnd (m ro3) (loopK (forGo s.o s.xs t m (s.xs.drop (i + 1)))) w3.st) (OkF K D) (fun c as w' => ∀ σ', XP K (E σ') c as w') := by
          rw [es]
          exact k2.ext x3 ep
        refine k3.bind.mono (fun f w4 x4 p4 m4 k4 => loop_ok m4 k4 fun ro5 σ5 e5 k5 => ?_) fun _ _ _ z => z
        exact ⟨w4, ro5, rfl, x2.trans (x3.trans x4), p4.trans (ep.trans p2), e5, k5⟩
    · exact k2.elim
  · have he : i = s.xs.length := by omega
    subst he
    rw [List.drop_length] at k2
    unfold forGo at k2
    split at k2
    · rename_i hc
      obtain ⟨_, hst⟩ := hJ w2 x2.w e2.emb hc
      exact .inl ⟨hst, k2.here e2.emb σ2 e2⟩
    · exact k2.elim
theorem ss_while {fuel : Nat} (ht : ST K E tt p) (hb : SS K E ts m) : SS K E (tWhile tt ts) (whileF p m fuel) := fun w ro σ D e h => by
  refine ⟨fun mm σ' H' => ∃ w2 ro2, w2.H = H' ∧ Ext w w2 ∧ w2.pv = w.pv ∧ En K w2 ro2 σ' ∧ Run K w2 (whileF p m mm ro2 w2.st) (OkF K D) (fun c as w' => ∀ σ', XP K (E σ') c as w'),
    ⟨fuel, w, ro, rfl, Ext.refl _, rfl, e, h⟩, ?_⟩
  rintro mm σ2 H2 ⟨w2, ro2, rfl, x2, p2, e2, k2⟩
  cases mm with
  | zero => exact k2.elim
  | succ mm =>
    unfold whileF at k2
    refine ht w2 ro2 σ2 _ e2 (k2.bind.mono (fun c w3 x3 p3 m3 k3 => ?_) fun _ _ _ z => z σ2)
    cases c with
    | true =>
      rw [if_pos rfl] at k3 ⊢
      refine ⟨fun σ' H' => ∃ w4 ro4, w4.H = H' ∧ Ext w w4 ∧ w4.pv = w.pv ∧ En K w4 ro4 σ' ∧ Run K w4 (whileF p m mm ro4 w4.st) (OkF K D) (fun c as w' => ∀ σ', XP K (E σ') c as w'),
        fun σ' H' hh => ⟨mm, Nat.lt_succ_self _, hh⟩, ?_⟩
      refine hb w3 ro2 σ2 _ (e2.mono x3 m3) (k3.bind.mono (fun f w4 x4 p4 m4 k4 => loop_ok m4 k4 fun ro5 σ5 e5 k5 => ?_) fun _ _ _ z => z)
      exact ⟨w4, ro5, rfl, x2.trans (x3.trans x4), p4.trans (p3.trans p2), e5, k5⟩
    | false =>
      rw [if_neg Bool.false_ne_true] at k3 ⊢
      exact k3.here m3 σ2 (e2.mono x3 m3)
end
end CL
namespace CL
open PySem PySem.Spec L2
def noX {A : Type} (m : Mo A) : Mo A := fun st => match m st with
  | .ok a st' => .ok a st'
  | _ => .bad
def wipeS (ro : Sl) : List Nat → Sl
  | [] => ro
  | v :: vs => (wipeS ro vs).set v none
def compGo (o : Option Nat) (all : List Da) (t : Tg) (p : Sl → Mo Bool) (e : Sl → Mo Da) (ro : Sl) : List Da → List Da → Mo (List Da)
  | [], acc => fun st => if chk o all st = true then .ok acc st else .bad
  | x :: r, acc => fun st => if chk o all st = true then (match t x ro with
    | some ro1 => bnd (noX (p ro1)) (fun c => if c = true then bnd (noX (e ro1)) (fun y => if acc.length < szD then compGo o all t p e ro r (acc ++ [y]) else nop) else compGo o all t p e ro r acc) st
    | none => .bad) else .bad
def lComp (s : Sl → Mo Src) (t : Tg) (p : Sl → Mo Bool) (e : Sl → Mo Da) (vs : List Nat) : Sl → Mo (List Da) := fun ro => bnd (s ro) fun s => compGo s.o s.xs t p e (wipeS ro vs) s.xs []
theorem wipe_out {σ : St} {i : Nat} : ∀ {vs : List Nat}, i ∉ vs → (wipe σ vs)[i]? = σ[i]?
  | [], _ => rfl
  | v :: vs, h => by
    unfold wipe
    rw [List.getElem?_set_ne fun z => h (by simp [z])]
    exact wipe_out fun z => h (List.mem_cons_of_mem _ z)
theorem wipe_in {σ : St} {i : Nat} : ∀ {vs : List Nat}, i ∈ vs → (wipe σ vs)[i]? = if i < σ.length then some none else none
  | [], h => by cases h
  | v :: vs, h => by
    unfold wipe
    by_cases e : v = i
    · subst e
      rw [List.getElem?_set, if_pos rfl, wipe_length]
    · rw [List.getElem?_set_ne e]
      rcases List.mem_cons.mp h with z | z
      · exact absurd z.symm e
      · exact wipe_in z
theorem wipe_eq {σ τ : St} {vs : List Nat} (hl : τ.length = σ.length) (h : ∀ i : Nat, i ∉ vs → τ[i]? = σ[i]?) : wipe τ vs = wipe σ vs := by
  refine List.ext_getElem? fun i => ?_
  by_cases hi : i ∈ vs
  · rw [wipe_in hi, wipe_in hi, hl]
  · rw [wipe_out hi, wipe_out hi, h i hi]
theorem wipeS_some {ro : Sl} {i : Nat} {d : Da} : ∀ {vs : List Nat}, (wipeS ro vs)[i]? = some (some d) → ro[i]? = some (some d) ∧ i ∉ vs
  | [], h => ⟨h, by simp⟩
  | v :: vs, h => by
    unfold wipeS at h
    by_cases e : v = i
    · subst e
      rw [List.getElem?_set, if_pos rfl] at h
      split at h <;> cases h
    · rw [List.getElem?_set_ne e] at h
      obtain ⟨h1, h2⟩ := wipeS_some h
      exact ⟨h1, fun z => by
        rcases List.mem_cons.mp z with z | z
        · exact e z.symm
        · exact h2 z⟩
theorem wipeS_length (ro : Sl) : ∀ vs : List Nat, (wipeS ro vs).length = ro.length
  | [] => rfl
  | v :: vs => by unfold wipeS; rw [List.length_set, wipeS_length ro vs]
section
variable {K : PySem.W.Frag} {E E' : St → XK}
theorem En.wipe {w : Wd} {ro : Sl} {σ : St} (e : En K w ro σ) (vs : List Nat) : En K w (wipeS ro vs) (wipe σ vs) := by
  refine ⟨e.emb, by rw [wipe_length, wipeS_length]; exact e.len, fun i d h => ?_⟩
  obtain ⟨h1, h2⟩ := wipeS_some h
  obtain ⟨v, h3, h4⟩ := e.slot i d h1
  exact ⟨v, by rw [wipe_out h2]; exact h3, h4⟩
theorem run_noX {A B : Type} {w1 w2 : Wd} {m : Mo A} {f : A → Mo B} {ok : B → Wd → Prop} {ex ex' : Str → List Da → Wd → Prop} (h : Run K w1 (bnd (noX m) f w2.st) ok ex) :
    Run K w2 (m w2.st) (fun a w3 => Run K w1 (f a w3.st) ok ex) ex' := by
  unfold bnd noX at h
  cases q : m w2.st with
  | ok a st => rw [q] at h; exact fun io H x e => h
  | exc c as st => rw [q] at h; exact h.elim
  | bad => rw [q] at h; exact h.elim
theorem sl_comp {wi : TI} {s : Sl → Mo Src} {g : TG} {t : Tg} {ws vs : List Nat} {tt : TT} {p : Sl → Mo Bool} {te : TE} {m : Sl → Mo Da} (hs : SI K E wi s) (hg : SG K g t ws) (hw : ∀ i ∈ ws, i ∈ vs) (ht : ST K E' tt p) (he : SE K E' te m) :
    SL K E (tLc wi g tt te vs) (lComp s t p m vs) := fun w ro σ Q en h => by
  refine hs w ro σ _ en (h.bind.mono (fun s w1 x1 p1 m1 k J hJ D hD => ?_) fun _ _ _ z => z)
  have hDp : D ∉ w1.pv := m1.freshP hD
  refine ⟨fun i mm H' => ∃ w2 us acc, w2.H = H' ∧ Ext w1 w2 ∧ w2.pv = D :: w1.pv ∧ Em K w2 ∧ w2.H D = some (.lst us) ∧ RepL K w2 us acc ∧ i ≤ s.xs.length ∧ mm = s.xs.length - i ∧ Run K w1 (compGo s.o s.xs t p m (wipeS ro vs) (s.xs.drop i) acc w2.st) (OkL K Q) (XP K (E σ)),
    ⟨s.xs.length, w1.hid D [], [], [], rfl, Ext.hid m1 hD, rfl, m1.hid hD, upd_same, .nil, Nat.zero_le _, by omega, by rw [List.drop_zero]; exact k⟩, ?_⟩
  rintro i mm H2 ⟨w2, us, acc, rfl, x2, p2, m2, hHD, ru, hi, rfl, k2⟩
  by_cases hlt : i < s.xs.length
  · have hd : s.xs.drop i = s.xs[i] :: s.xs.drop (i + 1) := List.drop_eq_getElem_cons hlt
    rw [hd] at k2
    unfold compGo at k2
    split at k2
    · rename_i hc
      obtain ⟨hgo, hst⟩ := hJ w2 x2.w m2 hc
      obtain ⟨g1, g2⟩ := hgo i _ (List.getElem?_eq_getElem hlt)
      cases q : t s.xs[i] (wipeS ro vs) with
      | none => rw [q] at k2; exact k2.elim
      | some ro1 =>
        rw [q] at k2
        refine .inr ⟨g1, fun H' => ∃ w3 us acc, w3.H = H' ∧ Ext w1 w3 ∧ w3.pv = D :: w1.pv ∧ Em K w3 ∧ w3.H D = some (.lst us) ∧ RepL K w3 us acc ∧ Run K w1 (compGo s.o s.xs t p m (wipeS ro vs) (s.xs.drop (i + 1)) acc w3.st) (OkL K Q) (XP K (E σ)),
          fun H' ⟨w3, us, acc, h1, h2, h3, h4, h5, h6, h7⟩ => ⟨s.xs.length - (i + 1), by omega, w3, us, acc, h1, h2, h3, h4, h5, h6, hlt, rfl, h7⟩, fun v H' hy => ?_⟩
        obtain ⟨w3, rfl, es, ep, x3, m3, rv⟩ := g2 v H' hy
        have en3 : En K w3 (wipeS ro vs) (wipe σ vs) := (en.mono (x1.trans (x2.trans x3)) m3).wipe vs
        obtain ⟨σ3, e3, so, kk⟩ := hg w3 v _ (wipeS ro vs) ro1 (wipe σ vs) en3 rv q
        refine kk _ ⟨wipe_eq (by rw [so.1, wipe_length]) fun j hj => ?_, ?_⟩
        · rw [so.2 j fun z => hj (hw j z), wipe_out hj]
        · rw [← es] at k2
          refine ht w3 ro1 σ3 _ e3 ((run_noX k2).mono (fun c w4 x4 p4 m4 k4 => ?_) fun _ _ _ z => z)
          have pD : D ∈ w2.pv := by rw [p2]; exact List.mem_cons_self
          cases c with
          | true =>
            rw [if_pos rfl] at k4 ⊢
            refine he w4 ro1 σ3 _ (e3.mono x4 m4) ((run_noX k4).mono (fun y w5 x5 p5 m5 k5 v5 rv5 => ?_) fun _ _ _ z => z)
            have x25 : Ext w2 w5 := x3.trans (x4.trans x5)
            obtain ⟨pD5, hD5⟩ := x25.pvk D pD
            have hD5' : w5.H D = some (.lst us) := hD5.trans hHD
            split at k5
            · rename_i hl
              have ru5 := ru.mono m2 x25
              refine ⟨us, hD5', by rw [ru.length]; exact szD_lt hl, w5.grow D (us ++ [v5]), us ++ [v5], acc ++ [y], rfl, (x2.trans x25).thenGrow m5 pD5 hD hDp, ?_, m5.grow pD5, upd_same, ?_, k5⟩
              · show w5.pv = D :: w1.pv
                rw [p5, p4, ep, p2]
              · exact (ru5.append (.cons rv5 .nil)).monoP m5 (ExtP.grow m5 pD5)
            · exact k5.elim
          | false =>
            rw [if_neg Bool.false_ne_true] at k4 ⊢
            have x24 : Ext w2 w4 := x3.trans x4
            obtain ⟨pD4, hD4⟩ := x24.pvk D pD
            exact ⟨w4, us, acc, rfl, x2.trans x24, by rw [p4, ep, p2], m4, hD4.trans hHD, ru.mono m2 x24, k4⟩
    · exact k2.elim
  · have hE : i = s.xs.length := by omega
    subst hE
    rw [List.drop_length] at k2
    unfold compGo at k2
    split at k2
    · rename_i hc
      obtain ⟨_, hst⟩ := hJ w2 x2.w m2 hc
      refine .inl ⟨hst, ?_⟩
      have z := Run.at (w' := w2.del D w1.pv) k2 (x2.del p2 hD hDp) (m2.del p2 hHD hDp) rfl rfl D us del_same (ru.del p2 hHD)
      rw [show upd (w2.del D w1.pv).H D (.lst us) = w2.H from upd_del hHD] at z
      exact z
    · exact k2.elim
end
def ar {A : Type} (n : Nat) (f : List Da → Mo A) : List Da → Mo A := fun ds => if ds.length = n then f ds else nop
/-- a def's promise by its mirror -/
def SpOf (K : PySem.W.Frag) (n : Nat) (f : List Da → Mo Da) : Sp := fun vs H Q E => ∃ (w : Wd) (ds : List Da), w.H = H ∧ Em K w ∧ RepL K w vs ds ∧ vs.length = n ∧ Run K w (f ds w.st) (OkV K Q) (XP K E)
def startS (n : Nat) (ds : List Da) : Sl := ds.map some ++ List.replicate (n - ds.length) none
def fnE (f : Fl) : Mo Da := match f with
  | .nx _ => ret .non
  | .rt d => ret d
  | _ => nop
/-- the mirror of a def of so many slots by its body's -/
def fnM (n : Nat) (m : Sl → Mo Fl) : List Da → Mo Da := fun ds => bnd (m (startS n ds)) fnE
section
variable {K : PySem.W.Frag} {E : St → XK}
theorem spOf_of {n : Nat} {f : List Da → Mo Da} {w : Wd} {vs : List V} {ds : List Da} {Q : VK} {E : XK} (m : Em K w) (r : RepL K w vs ds) (h : Run K w (ar n f ds w.st) (OkV K Q) (XP K E)) : SpOf K n f vs w.H Q E := by
  unfold ar at h
  split at h
  · rename_i hl
    exact ⟨w, ds, rfl, m, r, r.length.trans hl, h⟩
  · exact h.elim
theorem s_call {n : Nat} {f : List Da → Mo Da} {tA : TA} {al : Sl → Mo (List Da)} {dvs : List V} {dds : List Da} (hd : ∀ w, Em K w → RepL K w dvs dds) (ha : SA K E tA al) : SE K E (tCallSD (SpOf K n f) dvs E tA) (eCall (fun ds => ar n f (ds ++ dds)) al) := fun w ro σ Q e h =>
  ha w ro σ _ e (h.bind.mono (fun ds w1 x1 p1 m1 k vs rv => spOf_of m1 (rv.append (hd w1 m1)) k) fun _ _ _ z => z)
theorem start_slot : ∀ {vs : List V} {ds : List Da} {w : Wd}, RepL K w vs ds → ∀ (n i : Nat) (d : Da), (ds.map some ++ List.replicate n none)[i]? = some (some d) → ∃ v, (vs.map some ++ List.replicate n none)[i]? = some (some v) ∧ Rep K w v d
  | _, _, w, .nil, n, i, d, h => by
    simp only [List.map_nil, List.nil_append] at h
    rw [List.getElem?_replicate] at h
    split at h <;> cases h
  | _, _, w, .cons r t, n, 0, d, h => by
    simp at h
    subst h
    exact ⟨_, rfl, r⟩
  | _, _, w, .cons r t, n, i + 1, d, h => by
    obtain ⟨v, h1, h2⟩ := start_slot t n i d (by simpa using h)
    exact ⟨v, by simpa using h1, h2⟩
theorem en_start {w : Wd} {vs : List V} {ds : List Da} (m : Em K w) (r : RepL K w vs ds) (N : List Str) : En K w (startS N.length ds) (L2.start N vs) := by
  refine ⟨m, ?_, fun i d h => ?_⟩
  · unfold L2.start startS
    simp [r.length]
  · unfold startS at h
    unfold L2.start
    rw [r.length]
    exact start_slot r _ i d h
theorem body_run {w : Wd} {N : List Str} {ts : TS} {m : Sl → Mo Fl} {vs : List V} {ds : List Da} {Q : VK} {E0 : XK} (hs : SS K (fun _ => E0) ts m) (em : Em K w) (r : RepL K w vs ds) (h : Run K w (fnM N.length m ds w.st) (OkV K Q) (XP K E0)) :
    ts { nx := fun _ H' => Q .non H', rt := Q } (L2.start N vs) w.H :=
  hs w _ _ _ (en_start em r N) (h.bind.mono (fun f w1 x1 p1 m1 k => by
    cases f with
    | nx ro => exact fun σ e => Run.here (ok := OkV K Q) (a := Da.non) m1 k _ .non
    | rt d => exact Run.here (ok := OkV K Q) (a := d) m1 k
    | bk ro => exact k.elim
    | ct ro => exact k.elim) fun _ _ _ z _ => z)
/-- a def keeps its mirror -/
theorem ok_of {P : Program} {wd : World} {mg : Str → Option Value} {base : Heap} {x qual : Str} {params : Arguments} {body : List Stmt} {scope : Scope} {dvs : List V} {kws : List (Str × V)} {f : Addr} {fd : FuncData} {N ps : List Str} {k n : Nat} {m : Sl → Mo Fl} {nN : Nat}
    (F : FunD K x qual params body scope dvs kws f fd) (S : FnScope N ps scope) (hn : ps.length = n) (hN : N.length = nN)
    (hb : ∀ (cdv : Value) (A : Around) (outer : List Env) (s : Shared) (H : Hp) (E : XK), Room k (A.deeper (PyProof.Rows.envOfC qual scope s.heap.objs.size f cdv)) →
      ∃ t, PSs (cxOf (L2.CX P wd) P wd K mg base N qual scope f cdv A outer s H E) body t ∧ SS K (fun _ => E) t m) :
    FnOk P wd K mg base (L2.CX P wd) (k + 1) f fd ps (SpOf K n (fnM nN m)) := by
  subst hn hN
  refine F.ok S (fun vs H Q E h => ?_) (fun cdv A outer s H vs Q E hr h => ?_)
  · obtain ⟨w, ds, _, _, _, hl, _⟩ := h
    exact hl
  · obtain ⟨w, ds, rfl, em, r, hl, k⟩ := h
    obtain ⟨t, ht, hs⟩ := hb cdv A outer s w.H E hr
    exact ⟨t, ht, body_run hs em r k⟩
end
end CL
namespace CL
open PySem PySem.Spec L2
structure QE (X : Cx) (E : St → XK) (e : Expr) (te : TE) (m : Sl → Mo Da) : Prop where
  pe : PE X e te
  se : SE X.K E te m
structure QT (X : Cx) (E : St → XK) (e : Expr) (tt : TT) (m : Sl → Mo Bool) : Prop where
  pt : PT X e tt
  st : ST X.K E tt m
structure QW (X : Cx) (E : St → XK) (e : Expr) (tt : TT) (m : Sl → Mo Bool) : Prop where
  pw : PW X e tt
  st : ST X.K E tt m
structure QA (X : Cx) (E : St → XK) (es : List Expr) (ta : TA) (m : Sl → Mo (List Da)) : Prop where
  pa : PA X es ta
  sa : SA X.K E ta m
structure QL (X : Cx) (E : St → XK) (e : Expr) (te : TE) (m : Sl → Mo (List Da)) : Prop where
  pe : PE X e te
  sl : SL X.K E te m
structure QI (X : Cx) (E : St → XK) (tg iter : Expr) (wi : TI) (m : Sl → Mo Src) : Prop where
  pi : PI X tg iter wi
  si : SI X.K E wi m
structure QG (X : Cx) (tg : Expr) (g : TG) (t : Tg) (ws : List Nat) : Prop where
  pg : PG X tg g
  sg : SG X.K g t ws
structure QGs (X : Cx) (tg : List Expr) (g : TGs) (t : Tgs) (ws : List Nat) : Prop where
  pg : PGs X tg g
  sg : SGs X.K g t ws
structure QS (X : Cx) (E : St → XK) (s : Stmt) (ts : TS) (m : Sl → Mo Fl) : Prop where
  ps : PS X s ts
  ss : SS X.K E ts m
structure QB (X : Cx) (E : St → XK) (s : List Stmt) (ts : TS) (m : Sl → Mo Fl) : Prop where
  ps : PSs X s ts
  ss : SS X.K E ts m
structure QP (X : Cx) (E : St → XK) (e : Option Expr) (to : TO) (m : Sl → Mo (Option Int)) : Prop where
  po : PO X e to
  so : ∀ (w : Wd) (ro : Sl) (σ : St) (Q : Option Int → Hp → Prop), En X.K w ro σ → Run X.K w (m ro w.st) (fun o w' => Q o w'.H) (XP X.K (E σ)) → to σ w.H Q
/-- a def that can be called by its name -/
structure Cal (P : Program) (wd : World) (K : PySem.W.Frag) (mg : Str → Option Value) (base : Heap) (k : Nat) (x : Str) (n : Nat) (f : List Da → Mo Da) (dvs : List V) : Prop where
  ex : ∃ (q : Addr) (fd : FuncData) (ps : List Str) (ds : List Value), mg x = some (.ref q) ∧ PySem.W.keepIn K (.ref q) = true ∧ Binds K fd ps ds ∧ Vals dvs ds ∧ FnOk P wd K mg base (L2.CX P wd) k q fd ps (SpOf K n f)
def noP : Sl → Mo (Option Int) := fun _ => ret none
def soP (a : Sl → Mo Da) : Sl → Mo (Option Int) := fun ro => bnd (a ro) fun d => match d with
  | .int i => ret (some i)
  | _ => nop
def eSl (f : Da → Option Int → Option Int → Mo Da) (a : Sl → Mo Da) (lo hi : Sl → Mo (Option Int)) : Sl → Mo Da := fun ro => bnd (a ro) fun d => bnd (lo ro) fun l => bnd (hi ro) fun h => f d l h
def lSl (a : Sl → Mo Da) (lo hi : Sl → Mo (Option Int)) : Sl → Mo (List Da) := fun ro => bnd (a ro) fun d => bnd (lo ro) fun l => bnd (hi ro) fun h => slL d l h
def l2 (f : Da → Da → Mo (List Da)) (a b : Sl → Mo Da) : Sl → Mo (List Da) := fun ro => bnd (a ro) fun x => bnd (b ro) fun y => f x y
def lCall (f : List Da → Mo (List Da)) (a : Sl → Mo (List Da)) : Sl → Mo (List Da) := fun ro => bnd (a ro) f
section
variable {X : Cx} {E : St → XK} {a b c e : Expr} {es rest : List Expr} {ta tb tc te : TE} {tt tu : TT} {tA : TA} {ma mb mc : Sl → Mo Da} {mp mq : Sl → Mo Bool} {al : Sl → Mo (List Da)} {pos p2 : Pos} {r r' : R2} {f g : Da → Da → Mo Da}
theorem q_var (i : Nat) {x : Str} (hN : X.N[i]? = some x := by rfl) (hv : Vis X.env.scope x := by first | exact Or.inl rfl | exact Or.inr (Or.inl rfl) | exact Or.inr (Or.inr rfl)) (hd : (x == ("__debug__" : Str)) = false := by decide)
    (hcd : (x == ("__classdict__" : Str)) = false := by decide) : QE X E (.Name x pos) (tVar i) (eVar i) := ⟨pe_var hN hv hd hcd, s_var⟩
theorem q_int {i : Int} {j} : QE X E (.Constant (.int i) j pos) (tC (.int i)) (eC (.int i)) := ⟨pe_int, s_c fun _ _ => .int i⟩
theorem q_bl {i : Bool} {j} : QE X E (.Constant (.bool i) j pos) (tC (.bl i)) (eC (.bl i)) := ⟨pe_bl, s_c fun _ _ => .bl i⟩
theorem q_str {i : Str} {j} : QE X E (.Constant (.str i) j pos) (tC (.str i)) (eC (.str i)) := ⟨pe_str, s_c fun _ _ => .str i⟩
theorem q_non {j} : QE X E (.Constant .none j pos) (tC .non) (eC .non) := ⟨pe_non, s_c fun _ _ => .non⟩
/-- a constant of the module -/
theorem q_gint {x : Str} {i : Int} (hm : ∃ t, X.mg x = some (.int i t)) (hg : Gl X x := by rfl) (hd : (x == ("__debug__" : Str)) = false := by decide) : QE X E (.Name x pos) (tC (.int i)) (eC (.int i)) :=
  ⟨by obtain ⟨t, h⟩ := hm; exact pe_glob hg h ⟨t, rfl⟩ hd, s_c fun _ _ => .int i⟩
theorem q_op {op : Operator} (ho : QO X (binaryOp op) r f) (ha : QE X E a ta ma) (hb : QE X E b tb mb) : QE X E (.BinOp a op b pos) (tOp r ta tb) (e2 f ma mb) := ⟨pe_op ho.op ha.pe hb.pe, s_op ho.s2 ha.se hb.se⟩
theorem q_un {op : UnaryOp} {r : V → Hp → VK → Prop} {f : Da → Mo Da} (ho : UnR X (unaryOp op) r) (hs : S1 X.K r f) (ha : QE X E a ta ma) : QE X E (.UnaryOp op a pos) (tUn r ta) (e1 f ma) := ⟨pe_un ho ha.pe, s_un hs ha.se⟩
theorem q_neg (ha : QE X E a ta ma) : QE X E (.UnaryOp .USub a pos) (tUn (rU fun i => .int (-i)) ta) (e1 negD ma) := q_un un_neg (fun w x d Q ex m rx h => by
  unfold negD at h
  split at h
  · cases rx; exact ⟨_, rfl, h.here m _ (.int _)⟩
  · exact h.elim) ha
theorem q_cmp {op : CmpOp} (ho : QO X (compareOp op) r f) (ha : QE X E a ta ma) (hb : QE X E b tb mb) (hm : behindInMarks op b = false := by first | rfl | exact nomark _) : QE X E (.Compare a [op] [b] pos) (tOp r ta tb) (e2 f ma mb) := ⟨pe_cmpR ho.op ha.pe hb.pe hm, s_op ho.s2 ha.se hb.se⟩
theorem q_chain {op op' : CmpOp} (ho : QO X (compareOp op) r f) (ho' : QO X (compareOp op') r' g) (ha : QE X E a ta ma) (hb : QE X E b tb mb) (hc : QE X E c tc mc) (hm : lastMarks [op, op'] [b, c] = false := by with_unfolding_all rfl) : QE X E (.Compare a [op, op'] [b, c] pos) (tChain r r' ta tb tc) (eChain f g ma mb mc) :=
  ⟨pe_chain ho.op ho'.op ha.pe hb.pe hc.pe hm, s_chain ho.s2 ho'.s2 ha.se hb.se hc.se⟩
theorem q_one {op} (h : QE X E a ta ma) : QE X E (.BoolOp op [a] pos) ta ma := ⟨pe_one h.pe, h.se⟩
theorem q_and (ha : QE X E a ta ma) (hb : QE X E (.BoolOp .And (b :: rest) pos) tb mb) : QE X E (.BoolOp .And (a :: b :: rest) pos) (tAndV ta tb) (vAnd ma mb) := ⟨pe_and ha.pe hb.pe, s_vAnd ha.se hb.se⟩
theorem q_not (ha : QE X E a ta ma) : QE X E (.UnaryOp .Not a pos) (tNotV ta) (vNot ma) := ⟨pe_not ha.pe, s_vNot ha.se⟩
theorem q_ifx (ht : QT X E c tt mp) (ha : QE X E a ta ma) (hb : QE X E b tb mb) : QE X E (.IfExp c a b pos) (tIf tt ta tb) (eIf mp ma mb) := ⟨pe_ifExp ht.pt ha.pe hb.pe, s_if ht.st ha.se hb.se⟩
theorem qt_val (h : QE X E e te ma) (he : ∀ whole, isTrue e X.env whole = (do let v ← whole; standAt e.pos; holding [v] (truthy v)) := by intro _; rfl) : QT X E e (tB te) (tst ma) := ⟨pt_val h.pe he, s_tB h.se⟩
theorem qt_cmp {op : CmpOp} (ho : QO X (compareOp op) r f) (ha : QE X E a ta ma) (hb : QE X E b tb mb) (hm : behindInMarks op b = false := by first | rfl | exact nomark _) : QT X E (.Compare a [op] [b] pos) (tTest (tOp r ta tb)) (tst (e2 f ma mb)) := ⟨pt_cmpR ho.op ha.pe hb.pe hm, s_tst (s_op ho.s2 ha.se hb.se)⟩
theorem qw_and1 (h : QT X E a tt mp) : QW X E (.BoolOp .And [a] pos) tt mp := ⟨pw_and1 h.pt, h.st⟩
theorem qw_or1 (h : QT X E a tt mp) : QW X E (.BoolOp .Or [a] pos) tt mp := ⟨pw_or1 h.pt, h.st⟩
theorem qw_and (h : QT X E a tt mp) (hb : QW X E (.BoolOp .And (b :: rest) pos) tu mq) : QW X E (.BoolOp .And (a :: b :: rest) pos) (tAnd tt tu) (tAnd_ mp mq) := ⟨pw_and h.pt hb.pw, s_and h.st hb.st⟩
theorem qw_or (h : QT X E a tt mp) (hb : QW X E (.BoolOp .Or (b :: rest) pos) tu mq) : QW X E (.BoolOp .Or (a :: b :: rest) pos) (tOr tt tu) (tOr_ mp mq) := ⟨pw_or h.pt hb.pw, s_or h.st hb.st⟩
theorem qt_w (h : QW X E a tt mp) : QT X E a tt mp := ⟨h.pw.pt, h.st⟩
theorem qt_not (h : QT X E a tt mp) : QT X E (.UnaryOp .Not a pos) (tNot tt) (tNot_ mp) := ⟨pt_not h.pt, s_not h.st⟩
theorem qa_nil : QA X E [] tNil aNil := ⟨pa_nil, s_nil⟩
theorem qa_cons (h : QE X E e te ma) (hr : QA X E es tA al) (hs : starEach (e :: es) X.env = (false, eval e X.env) :: starEach es X.env := by rfl) : QA X E (e :: es) (tCons te tA) (aCons ma al) := ⟨pa_cons h.pe hr.pa hs, s_cons h.se hr.sa⟩
theorem q_tup {k} (h : QA X E es tA al) : QE X E (.Tuple es k pos) (tTup tA) (eTup al) := ⟨pe_tup h.pa, s_tup h.sa⟩
theorem ql_disp (h : QA X E es tA al) : QL X E (.List es pos) (tLst tA) (lDisp al) := ⟨pe_lst h.pa, s_lst h.sa⟩
theorem q_L (h : QL X E e te al) : QE X E e te (eL al) := ⟨h.pe, s_L h.sl⟩
theorem q_H (h : QL X E e te al) : QE X E e te (eH al) := ⟨h.pe, s_H h.sl⟩
theorem q_F (h : QE X E e te ma) : QE X E e te (eF ma) := ⟨h.pe, s_F h.se⟩
theorem ql_op {op : Operator} {f : Da → Da → Mo (List Da)} (ho : QOL X (binaryOp op) r f) (ha : QE X E a ta ma) (hb : QE X E b tb mb) : QL X E (.BinOp a op b pos) (tOp r ta tb) (l2 f ma mb) := ⟨pe_op ho.op ha.pe hb.pe, fun w ro σ Q e h =>
  ha.se w ro σ _ e (h.bind.mono (fun d w1 x1 p1 m1 k v rv => hb.se w1 ro σ _ (e.mono x1 m1) (k.bind.mono (fun d2 w2 x2 p2 m2 k2 v2 rv2 =>
    ho.s2 w2 v v2 d d2 Q _ m2 (rv.mono m1 x2) rv2 k2) fun _ _ _ z => z)) fun _ _ _ z => z)⟩
theorem q_sub1 {K : PySem.W.Frag} (ha : QE X E a ta ma) (hb : QE X E b tb mb) (hs : PlainIx b := by exact fun _ _ => rfl) (hK : X.K = K := by rfl) : QE X E (.Subscript a b pos) (tOp (rIx K) ta tb) (e2 ixD ma mb) := by
  subst hK
  exact ⟨pe_ix q_ix.1 ha.pe hb.pe hs, s_op q_ix.2 ha.se hb.se⟩
theorem qp_none : QP X E none tNoPart noP := ⟨po_none, fun w ro σ Q e h => h.here e.emb⟩
theorem qp_some (h : QE X E e te ma) : QP X E (some e) (tPart te) (soP ma) := ⟨po_some h.pe, fun w ro σ Q en hh => h.se w ro σ _ en (hh.bind.mono (fun d w1 x1 p1 m1 k v rv => by
  split at k
  · cases rv; exact ⟨_, rfl, k.here m1⟩
  · exact k.elim) fun _ _ _ z => z)⟩
theorem q_slice {K : PySem.W.Frag} {lo hi : Option Expr} {tl th : TO} {ml mh : Sl → Mo (Option Int)} (ha : QE X E a ta ma) (hl : QP X E lo tl ml) (hh : QP X E hi th mh) (hK : X.K = K := by rfl) : QE X E (.Subscript a (.Slice lo hi none p2) pos) (tSl (rSlAll K) ta tl th) (eSl slA ma ml mh) := by
  subst hK
  exact ⟨pe_slice q_slA.1 ha.pe hl.po hh.po, fun w ro σ Q e h => ha.se w ro σ _ e (h.bind.mono (fun d w1 x1 p1 m1 k v rv => hl.so w1 ro σ _ (e.mono x1 m1) (k.bind.mono (fun l w2 x2 p2 m2 k2 =>
    hh.so w2 ro σ _ (e.mono (x1.trans x2) m2) (k2.bind.mono (fun u w3 x3 p3 m3 k3 => q_slA.2 w3 v d l u Q _ m3 (rv.mono m1 (x2.trans x3)) k3) fun _ _ _ z => z)) fun _ _ _ z => z)) fun _ _ _ z => z)⟩
theorem q_cb {x : Str} {id : String} {rr : List V → Hp → VK → Prop} {fm : List Da → Mo Da} {p : Pos} (hc : CallR X (.builtin id) rr) (hs : SC X.K rr fm) (hm : X.mg x = none) (ha : QA X E (e :: es) tA al) (hv : bootBuiltins x = some (.builtin id) := by decide +kernel) (hg : Gl X x := by rfl) (hn : x ≠ "__name__" := by decide) (hdb : (x == ("__debug__" : Str)) = false := by decide)
    (he : starEach (e :: es) X.env = (false, eval e X.env) :: starEach es X.env := by rfl) (hpl : (backTo pos (starEach es X.env)).any (·.1) = false := by rfl) : QE X E (.Call (.Name x p) (e :: es) [] pos) (tCB rr tA) (eCall fm al) :=
  ⟨pe_callB hc hg hm hv ha.pa hn hdb he hpl, s_cb hs ha.sa⟩
theorem q_ct {x : Str} {T : String} {rr : List V → Hp → VK → Prop} {fm : List Da → Mo Da} {p : Pos} (hc : CallR X (.type T) rr) (hs : SC X.K rr fm) (hm : X.mg x = none) (ha : QA X E (e :: es) tA al) (hv : bootBuiltins x = some (.type T) := by decide +kernel) (hg : Gl X x := by rfl) (hn : x ≠ "__name__" := by decide) (hdb : (x == ("__debug__" : Str)) = false := by decide)
    (he : starEach (e :: es) X.env = (false, eval e X.env) :: starEach es X.env := by rfl) (hpl : (backTo pos (starEach es X.env)).any (·.1) = false := by rfl) : QE X E (.Call (.Name x p) (e :: es) [] pos) (tCB rr tA) (eCall fm al) :=
  ⟨pe_callTy hc hg hm hv ha.pa hn hdb he hpl, s_cb hs ha.sa⟩
theorem ql_ct {x : Str} {T : String} {rr : List V → Hp → VK → Prop} {fm : List Da → Mo (List Da)} {p : Pos} (hc : CallR X (.type T) rr) (hs : SCL X.K rr fm) (hm : X.mg x = none) (ha : QA X E (e :: es) tA al) (hv : bootBuiltins x = some (.type T) := by decide +kernel) (hg : Gl X x := by rfl) (hn : x ≠ "__name__" := by decide) (hdb : (x == ("__debug__" : Str)) = false := by decide)
    (he : starEach (e :: es) X.env = (false, eval e X.env) :: starEach es X.env := by rfl) (hpl : (backTo pos (starEach es X.env)).any (·.1) = false := by rfl) : QL X E (.Call (.Name x p) (e :: es) [] pos) (tCB rr tA) (lCall fm al) :=
  ⟨pe_callTy hc hg hm hv ha.pa hn hdb he hpl, fun w ro σ Q e h => ha.sa w ro σ _ e (h.bind.mono (fun ds w1 x1 p1 m1 k vs rvs => hs w1 vs ds Q _ m1 rvs k) fun _ _ _ z => z)⟩
theorem q_isi {K : PySem.W.Frag} {p p3 : Pos} {T : Str} (t : Tn) (hm : X.mg "isinstance" = none) (hT : X.mg T = none) (ha : QE X E a ta ma) (hv : bootBuiltins T = some (.type t.name) := by decide +kernel) (h1 : t ≠ .non := by decide) (h2 : t ≠ .dict := by decide) (hg : Gl X "isinstance" := by rfl) (hgT : Gl X T := by rfl) (hn : T ≠ "__name__" := by decide) (hd : (T == ("__debug__" : Str)) = false := by decide)
    (hs : starEach (a :: [.Name T p3]) X.env = (false, eval a X.env) :: starEach [.Name T p3] X.env := by rfl) (hs2 : starEach (.Name T p3 :: []) X.env = (false, eval (.Name T p3) X.env) :: starEach [] X.env := by rfl) (hpl : (backTo pos (starEach [.Name T p3] X.env)).any (·.1) = false := by rfl) (hK : X.K = K := by rfl) :
    QE X E (.Call (.Name "isinstance" p) [a, .Name T p3] [] pos) (tCB (rIsi K) (tCons ta (tCons (tC (.ty t.name)) tNil))) (e1 (isT t) ma) := by
  subst hK
  exact ⟨pe_callB call_isi hg hm (by decide +kernel) (pa_cons ha.pe (pa_cons (pe_bltn hgT hT hv rfl hn hd) pa_nil hs2) hs) (by decide) (by decide) hs hpl, fun w ro σ Q e h =>
    ha.se w ro σ _ e (h.bind.mono (fun d w1 x1 p1 m1 k v rv => sc_isT h1 h2 w1 v d Q _ m1 rv k) fun _ _ _ z => z)⟩
theorem q_app {K : PySem.W.Frag} {apos : Pos} (ha : QE X E a ta ma) (hb : QE X E b tb mb) (hbase : attributeBase a "append" X.env (eval a X.env) = eval a X.env := by rfl)
    (hfew : ((backTo pos (starEach (b :: []) X.env)).all (fun x => !x.1) && (backToKw pos (keywordEach [] X.env)).all (fun x => x.1.isSome) && decide ((b :: []).length + ([] : List Keyword).length + (if ([] : List Keyword).isEmpty then 0 else 1) < 30)) = true := by rfl) (hline : (apos.endLine == pos.line) = true := by rfl) (hs : starEach (b :: []) X.env = (false, eval b X.env) :: starEach [] X.env := by rfl) (hpl : (backTo pos (starEach [] X.env)).any (·.1) = false := by rfl) (hK : X.K = K := by rfl) :
    QE X E (.Call (.Attribute a "append" apos) [b] [] pos) (tBM K "list" rAppend ta (tCons tb tNil)) (eApp ma mb) := by
  subst hK
  exact ⟨pe_bm PySem.F.plainAttrs_list PySem.F.slot_list_append PySem.F.type_list_append mt_append ha.pe (pa_cons hb.pe pa_nil hs) hbase hfew hline hs hpl, s_app ha.se hb.se⟩
theorem q_call {P : Program} {wd : World} {K : PySem.W.Frag} {mg : Str → Option Value} {base : Heap} {k n : Nat} {x : Str} {dvs : List V} {dds : List Da} {fm : List Da → Mo Da} {p : Pos} (F : Cal P wd K mg base k x n fm dvs) (hr : Room k X.A) (hx : ∀ σ, PassesAt (L2.CX X.prog X.w) X σ (E σ))
    (ha : QA X E (e :: es) tA al) (hP : X.prog = P := by rfl) (hw : X.w = wd := by rfl) (hK : X.K = K := by rfl) (hmg : X.mg = mg := by rfl) (hbase : X.base = base := by rfl) (hdd : ∀ w, Em K w → RepL K w dvs dds := by intro w m; first | exact .nil | exact .cons (.int _) .nil) (hg : Gl X x := by rfl) (hdb : (x == ("__debug__" : Str)) = false := by decide) (he : starEach (e :: es) X.env = (false, eval e X.env) :: starEach es X.env := by rfl) (hpl : (backTo pos (starEach es X.env)).any (·.1) = false := by rfl) :
    QE X E (.Call (.Name x p) (e :: es) [] pos) (tCallSD (SpOf K n fm) dvs E tA) (eCall (fun ds => ar n fm (ds ++ dds)) al) := by
  subst hP hw hK hmg hbase
  obtain ⟨q, fd, ps, ds, hm, hk, hb, hd, F⟩ := F.ex
  exact ⟨pe_callSD F hr hg hm hk hb hd hx ha.pa hdb he hpl, s_call hdd ha.sa⟩
theorem qg_name (i : Nat) {x : Str} (hN : X.N.Nodup) (hi : X.N[i]? = some x := by rfl) (hx : Loc X.env.scope x := by first | exact Or.inl rfl | exact Or.inr rfl) (hf : X.fn x = true ∨ X.env.scope.names.lookup x = some .local := by first | exact .inl rfl | exact .inr rfl | assumption) : QG X (.Name x pos) (gName i) (gN i) [i] := ⟨pg_name hN hi hx hf, sg_name⟩
theorem qgs_nil : QGs X [] gNil gsN [] := ⟨pgs_nil, sgs_nil⟩
theorem qgs_cons {g : TG} {gs : TGs} {t : Tg} {u : Tgs} {ws us : List Nat} (h1 : QG X e g t ws) (h2 : QGs X es gs u us) (hs : (assignEach (e :: es) X.env).map (·.2) = assign e X.env :: (assignEach es X.env).map (·.2) := by rfl) : QGs X (e :: es) (gCons g gs) (gsC t u) (ws ++ us) := ⟨pgs_cons h1.pg h2.pg hs, sgs_cons h1.sg h2.sg⟩
theorem qg_tup {K : PySem.W.Frag} {gs : TGs} {t : Tgs} {ws : List Nat} {k : Nat} (n : Nat) (hc : X.calm = true) (h : QGs X es gs t ws) (hn : (assignEach es X.env).length = n := by rfl) (hst : (assignEach es X.env).findIdx? (·.1) = none := by rfl) (hK : X.K = K := by rfl) : QG X (.Tuple es k pos) (gTup K n gs) (gT n t) ws := by
  subst hK
  exact ⟨pg_tup hc h.pg hn hst, sg_tup h.sg⟩
variable {tg iter : Expr}
theorem qi_v {K : PySem.W.Frag} (h : QE X E iter te ma) (hK : X.K = K := by rfl) : QI X E tg iter (iSeq K te) (iV ma) := by
  subst hK
  exact ⟨pi_seq h.pe, si_v h.se⟩
theorem qi_r1 {p : Pos} (hm : X.mg "range" = none) (h : QA X E [a] tA al) (hg : Gl X "range" := by rfl) (hs : starEach [a] X.env = [(false, eval a X.env)] := by rfl) : QI X E tg (.Call (.Name "range" p) [a] [] pos) (iRng1 tA) (iR1 al) := ⟨pi_range1 hg hm h.pa hs, si_r1 h.sa⟩
end
section
variable {X : Cx} {E : St → XK} {a b c e tg iter : Expr} {es rest : List Expr} {ta tb tc te : TE} {tt : TT} {tA : TA} {ma mb mc : Sl → Mo Da} {mp : Sl → Mo Bool} {al : Sl → Mo (List Da)} {pos p2 : Pos} {s : Stmt} {ss s1 s2 : List Stmt} {ts tu : TS} {m n : Sl → Mo Fl} {g : TG} {t : Tg} {ws : List Nat} {wi : TI} {ms : Sl → Mo Src}
structure QTs (X : Cx) (E : St → XK) (es : List Expr) (tt : TT) (m : Sl → Mo Bool) : Prop where
  pt : PTs X es tt
  st : ST X.K E tt m
def tYes_ : Sl → Mo Bool := fun _ => ret true
theorem qts_nil : QTs X E [] tYes tYes_ := ⟨pts_nil, fun w ro σ Q e h => h.here e.emb⟩
theorem qts_one (h : QT X E a tt mp) : QTs X E [a] tt mp := ⟨pts_one h.pt, h.st⟩
theorem ql_comp {elt : Expr} {ifs : List Expr} {scope : Scope} {own : List (Str × Nat)} {vs : List Nat} (hc : X.calm = true) (hN : X.N.Nodup) (hi : QI X E tg iter wi ms) (ok : BlkOk X.N X.env.scope scope own)
    (hg : ∀ (s : Shared) (H : Hp) (C : Addr) (cl : List (Str × Addr)) (fp : List Addr), QG (X.blk s H scope (PySem.compEnvC scope cl C X.env) fp) tg g t ws)
    (ht : ∀ (s : Shared) (H : Hp) (C : Addr) (cl : List (Str × Addr)) (fp : List Addr), QTs (X.blk s H scope (PySem.compEnvC scope cl C X.env) fp) (fun _ => E0) ifs tt mp)
    (he : ∀ (s : Shared) (H : Hp) (C : Addr) (cl : List (Str × Addr)) (fp : List Addr), QE (X.blk s H scope (PySem.compEnvC scope cl C X.env) fp) (fun _ => E0) elt te ma)
    (hv : own.map (·.2) = vs := by rfl) (hw : ∀ i ∈ ws, i ∈ vs := by decide) (hs : ∀ x, foldedSetIterable iter X.env x = pure x := by intro _; rfl) : QL X E (.ListComp elt [⟨tg, iter, ifs, 0⟩] scope pos) (tLc wi g tt te vs) (lComp ms t mp ma vs) :=
  ⟨by subst hv; exact pe_lc hc hN hi.pi ok (fun s H C cl fp => (hg s H C cl fp).pg) (fun s H C cl fp => (ht s H C cl fp).pt) (fun s H C cl fp => (he s H C cl fp).pe) hs,
    sl_comp hi.si (hg X.s_0 (fun _ => none) 0 [] []).sg hw (ht X.s_0 (fun _ => none) 0 [] []).st (he X.s_0 (fun _ => none) 0 [] []).se⟩
theorem qb_nil : QB X E [] tNext mNil := ⟨pss_nil, ss_nil⟩
theorem qb_cons (h1 : QS X E s ts m) (h2 : QB X E ss tu n) : QB X E (s :: ss) (tSeq ts tu) (mSeq m n) := ⟨pss_cons h1.ps h2.ps, ss_seq h1.ss h2.ss⟩
theorem qb_one (h1 : QS X E s ts m) : QB X E [s] ts m := ⟨pss_one h1.ps, h1.ss⟩
theorem qs_set (i : Nat) {x : Str} {pos' : Pos} (hN : X.N.Nodup) (ha : QE X E e te ma) (hi : X.N[i]? = some x := by rfl) (hx : Loc X.env.scope x := by first | exact Or.inl rfl | exact Or.inr rfl) (hs : swapsWith e (some (.Name x pos')) pos.line X.env = pure false := by rfl) (hf : X.fn x = true ∨ X.env.scope.names.lookup x = some .local := by first | exact .inl rfl | exact .inr rfl | assumption) :
    QS X E (.Assign [.Name x pos'] e pos) (tAsg te (gName i)) (mSet i ma) := ⟨ps_set hN hi hx ha.pe hs hf, ss_set ha.se⟩
theorem qs_par (i j : Nat) {x y : Str} {px py pt : Pos} {kt k2 pt2} (hc : X.calm = true) (hN : X.N.Nodup) (ha : QA X E [a, b] tA al) (hi : X.N[i]? = some x := by rfl) (hj : X.N[j]? = some y := by rfl) (hij : i ≠ j := by decide) (hx : X.env.scope.names.lookup x = some .local := by rfl) (hy : X.env.scope.names.lookup y = some .local := by rfl)
    (hw : swappedStores [.Tuple [.Name x px, .Name y py] kt pt] (.Tuple [a, b] k2 pt2) X.env = pure (some [x, y]) := by rfl) (hs : swapsWithSole [.Tuple [.Name x px, .Name y py] kt pt] (.Tuple [a, b] k2 pt2) pos.line X.env = pure false := by rfl) :
    QS X E (.Assign [.Tuple [.Name x px, .Name y py] kt pt] (.Tuple [a, b] k2 pt2) pos) (tPar i j tA) (mPar i j al) := ⟨ps_par hc hN hi hj hij hx hy ha.pa hw hs, ss_par ha.sa⟩
theorem qs_setI {o i v : Expr} {to ti tv : TE} {mo mi mv : Sl → Mo Da} {pos' : Pos} (hv : QE X E v tv mv) (ho : QE X E o to mo) (hi : QE X E i ti mi) (ha : ∀ v, assign (.Subscript o i pos') X.env v = (do
      let ov ← holding [v] (eval o X.env)
      let iv ← holding [v, ov] (eval i X.env)
      standAt pos'
      holding [v, ov, iv] (setItem ov iv v)
      release [v, ov, iv] []) := by intro _; rfl) (hs : swapsWithSole [.Subscript o i pos'] v pos.line X.env = pure false := by rfl) (hw : swappedStores [.Subscript o i pos'] v X.env = pure none := by rfl)
    (h1 : (assignEach [.Subscript o i pos'] X.env).map (·.2) = [assign (.Subscript o i pos') X.env] := by rfl) : QS X E (.Assign [.Subscript o i pos'] v pos) (tAsg tv (gSub to ti rSetL)) (mSetI mv mo mi) :=
  ⟨ps_asg hv.pe (pg_sub ho.pe hi.pe set_list ha) hs hw h1, ss_setI hv.se ho.se hi.se⟩
theorem qs_ret (h : QE X E e te ma) : QS X E (.Return (some e) pos) (tRet te) (mRet ma) := ⟨ps_ret h.pe, ss_ret h.se⟩
theorem qs_expr (h : QE X E e te ma) (hs : swapsWith e none pos.line X.env = pure false := by rfl) : QS X E (.Expr e pos) (tDrop te) (mExpr ma) := ⟨ps_expr h.pe hs, ss_expr h.se⟩
theorem qs_if (ht : QT X E c tt mp) (h1 : QB X E s1 ts m) (h2 : QB X E s2 tu n) : QS X E (.If c s1 s2 pos) (tIfS tt ts tu) (mIf mp m n) := ⟨ps_if ht.pt h1.ps h2.ps, ss_if ht.st h1.ss h2.ss⟩
theorem qs_aug (i : Nat) {x : Str} {op : Operator} {f : Int → Int → Int} {pos' : Pos} (hN : X.N.Nodup) (ho : PIp X op (ipI f)) (ha : QE X E e te ma) (hi : X.N[i]? = some x := by rfl) (hx : Loc X.env.scope x := by first | exact Or.inl rfl | exact Or.inr rfl) (hf : X.fn x = true ∨ X.env.scope.names.lookup x = some .local := by first | exact .inl rfl | exact .inr rfl | assumption) :
    QS X E (.AugAssign (.Name x pos') op e pos) (tAug i te (ipI f)) (mAug i f ma) := ⟨ps_aug hN hi hx ha.pe ho hf, ss_aug ha.se⟩
theorem qs_for (hp : PassesOwn (model X.prog X.w) X.A X.env X.xe) (hc : X.calm = true) (hi : QI X E tg iter wi ms) (hg : QG X tg g t ws) (hb : QB X E ss ts m) (hs : ∀ x, foldedSetIterable iter X.env x = pure x := by intro _; rfl) : QS X E (.For tg iter ss [] pos) (tFor wi g ts) (mFor ms t m) :=
  ⟨ps_for hp hc hi.pi hg.pg hb.ps hs, ss_for hi.si hg.sg hb.ss⟩
theorem qs_while (fuel : Nat) (hp : PassesOwn (model X.prog X.w) X.A X.env X.xe) (ht : QT X E c tt mp) (hb : QB X E ss ts m) : QS X E (.While c ss [] pos) (tWhile tt ts) (whileF mp m fuel) := ⟨ps_while hp ht.pt hb.ps, ss_while ht.st hb.ss⟩
/-- y = [..]: a comprehension stored at once -/
theorem qs_setLc (i : Nat) {y : Str} {py spos : Pos} {elt : Expr} {ifs : List Expr} {scope : Scope} {own : List (Str × Nat)} {vs : List Nat} (hc : X.calm = true) (hN : X.N.Nodup) (hi : QI X E tg iter wi ms) (ok : BlkOk X.N X.env.scope scope own)
    (hg : ∀ (s : Shared) (H : Hp) (C : Addr) (cl : List (Str × Addr)) (fp : List Addr), QG (X.blk s H scope (PySem.compEnvC scope cl C X.env) fp) tg g t ws)
    (ht : ∀ (s : Shared) (H : Hp) (C : Addr) (cl : List (Str × Addr)) (fp : List Addr), QTs (X.blk s H scope (PySem.compEnvC scope cl C X.env) fp) (fun _ => E0) ifs tt mp)
    (he : ∀ (s : Shared) (H : Hp) (C : Addr) (cl : List (Str × Addr)) (fp : List Addr), QE (X.blk s H scope (PySem.compEnvC scope cl C X.env) fp) (fun _ => E0) elt te ma)
    (mk : (Sl → Mo (List Da)) → Sl → Mo Da) (hmut : ∀ {te : TE} {al : Sl → Mo (List Da)}, SL X.K E te al → SE X.K E te (mk al))
    (hsw : swapsWith (.ListComp elt [⟨tg, iter, ifs, 0⟩] scope pos) (some (.Name y py)) spos.line X.env = pure true)
    (hy : X.N[i]? = some y := by rfl) (hyl : X.env.scope.names.lookup y = some .local := by rfl) (hv : own.map (·.2) = vs := by rfl) (hw : ∀ i ∈ ws, i ∈ vs := by decide) (hs : ∀ x, foldedSetIterable iter X.env x = pure x := by intro _; rfl) :
    QS X E (.Assign [.Name y py] (.ListComp elt [⟨tg, iter, ifs, 0⟩] scope pos) spos) (tAsg (tLc wi g tt te vs) (gName i)) (mSet i (mk (lComp ms t mp ma vs))) :=
  ⟨by subst hv; exact ps_setLc hc hN hy hyl hsw hi.pi ok (fun s H C cl fp => (hg s H C cl fp).pg) (fun s H C cl fp => (ht s H C cl fp).pt) (fun s H C cl fp => (he s H C cl fp).pe) hs,
    ss_set (hmut (sl_comp hi.si (hg X.s_0 (fun _ => none) 0 [] []).sg hw (ht X.s_0 (fun _ => none) 0 [] []).st (he X.s_0 (fun _ => none) 0 [] []).se))⟩
end
end CL
namespace CL
open PySem PySem.Spec L2
def compGo2 (o : Option Nat) (all : List Da) (t : Tg) (p : Sl → Mo Bool) (s1 : Sl → Mo Src) (t1 : Tg) (p1 : Sl → Mo Bool) (e : Sl → Mo Da) (vs1 : List Nat) (ro : Sl) : List Da → List Da → Mo (List Da)
  | [], acc => fun st => if chk o all st = true then .ok acc st else .bad
  | x :: r, acc => fun st => if chk o all st = true then (match t x ro with
    | some ro1 => bnd (noX (p ro1)) (fun c => if c = true then bnd (noX (s1 ro1)) (fun s => bnd (compGo s.o s.xs t1 p1 e (wipeS ro1 vs1) s.xs acc) (fun acc2 => compGo2 o all t p s1 t1 p1 e vs1 ro r acc2)) else compGo2 o all t p s1 t1 p1 e vs1 ro r acc) st
    | none => .bad) else .bad
def lComp2 (s : Sl → Mo Src) (t : Tg) (p : Sl → Mo Bool) (s1 : Sl → Mo Src) (t1 : Tg) (p1 : Sl → Mo Bool) (e : Sl → Mo Da) (vs vs1 : List Nat) : Sl → Mo (List Da) := fun ro => bnd (s ro) fun s => compGo2 s.o s.xs t p s1 t1 p1 e vs1 (wipeS ro vs) s.xs []
section
variable {K : PySem.W.Frag} {E E' : St → XK}
/-- the second clause's loop, up to Nx -/
theorem comp_loop {A : Type} {w0 w1 : Wd} {J : It} {s : Src} {t : Tg} {p : Sl → Mo Bool} {m : Sl → Mo Da} {g : TG} {tt : TT} {te : TE} {ws vs : List Nat} {ro : Sl} {σ : St} {D : Addr} {us0 : List V} {acc0 : List Da} {G : List Da → Mo A} {ok : A → Wd → Prop} {ex : Str → List Da → Wd → Prop} {Nx : Hp → Prop}
    (hg : SG K g t ws) (hw : ∀ i ∈ ws, i ∈ vs) (ht : ST K E' tt p) (he : SE K E' te m) (hJ : ItOk K w1 J s) (en : En K w1 ro σ) (x0 : Ext w0 w1) (h0D : w0.H D = none) (h0p : D ∉ w0.pv) (p1 : w1.pv = D :: w0.pv) (hHD : w1.H D = some (.lst us0)) (r0 : RepL K w1 us0 acc0)
    (k : Run K w0 (bnd (compGo s.o s.xs t p m (wipeS ro vs) s.xs acc0) G w1.st) ok ex)
    (hN : ∀ w2 us acc, Ext w0 w2 → w2.pv = D :: w0.pv → Em K w2 → w2.H D = some (.lst us) → RepL K w2 us acc → Run K w0 (G acc w2.st) ok ex → Nx w2.H) :
    ∃ W : Nat → Nat → Hp → Prop, (∃ m, W 0 m w1.H) ∧ ∀ j k H, W j k H → (J.stop j H ∧ Nx H) ∨ (J.go j H ∧ ∃ Nx1 : Hp → Prop, (∀ H', Nx1 H' → ∃ k', k' < k ∧ W (j + 1) k' H') ∧ ∀ x H', J.yld j H x H' → g x (wipe σ vs) H' fun σ3 H5 => wipe σ3 vs = wipe σ vs ∧ tt σ3 H5 fun b H6 =>
      if b = true then te σ3 H6 fun y H7 => ∃ acc, H7 D = some (.lst acc) ∧ acc.length < sizeLine ∧ Nx1 (upd H7 D (.lst (acc ++ [y]))) else Nx1 H6) := by
  refine ⟨fun i mm H' => ∃ w2 us acc, w2.H = H' ∧ ExtW w1 w2 ∧ Ext w0 w2 ∧ w2.pv = D :: w0.pv ∧ En K w2 ro σ ∧ w2.H D = some (.lst us) ∧ RepL K w2 us acc ∧ i ≤ s.xs.length ∧ mm = s.xs.length - i ∧ Run K w0 (bnd (compGo s.o s.xs t p m (wipeS ro vs) (s.xs.drop i) acc) G w2.st) ok ex,
    ⟨s.xs.length, w1, us0, acc0, rfl, ExtW.refl _, x0, p1, en, hHD, r0, Nat.zero_le _, by omega, by rw [List.drop_zero]; exact k⟩, ?_⟩
  rintro i mm H2 ⟨w2, us, acc, rfl, xw, x2, p2, en2, hHD, ru, hi, rfl, k2⟩
  have m2 := en2.emb
  by_cases hlt : i < s.xs.length
  · rw [List.drop_eq_getElem_cons hlt] at k2
    have k3 : Run K w0 (bnd (fun st => if chk s.o s.xs st = true then (match t s.xs[i] (wipeS ro vs) with | some ro1 => bnd (noX (p ro1)) (fun c => if c = true then bnd (noX (m ro1)) (fun y => if acc.length < szD then compGo s.o s.xs t p m (wipeS ro vs) (s.xs.drop (i + 1)) (acc ++ [y]) else nop) else compGo s.o s.xs t p m (wipeS ro vs) (s.xs.drop (i + 1)) acc) st | none => .bad) else .bad) G w2.st) ok ex := k2
    by_cases hc : chk s.o s.xs w2.st = true
    · obtain ⟨hgo, hst⟩ := hJ w2 xw m2 hc
      obtain ⟨g1, g2⟩ := hgo i _ (List.getElem?_eq_getElem hlt)
      cases q : t s.xs[i] (wipeS ro vs) with
      | none =>
        unfold bnd at k3
        simp only [hc, if_true, q] at k3
        exact k3.elim
      | some ro1 =>
        have k4 : Run K w0 (bnd (bnd (noX (p ro1)) (fun c => if c = true then bnd (noX (m ro1)) (fun y => if acc.length < szD then compGo s.o s.xs t p m (wipeS ro vs) (s.xs.drop (i + 1)) (acc ++ [y]) else nop) else compGo s.o s.xs t p m (wipeS ro vs) (s.xs.drop (i + 1)) acc)) G w2.st) ok ex := by
          have e : ∀ F : Mo (List Da), (if chk s.o s.xs w2.st = true then F w2.st else Res.bad) = F w2.st := fun F => if_pos hc
          unfold bnd at k3 ⊢
          simp only [hc, if_true, q] at k3
          exact k3
        rw [bnd_assoc] at k4
        refine .inr ⟨g1, fun H' => ∃ w3 us acc, w3.H = H' ∧ ExtW w1 w3 ∧ Ext w0 w3 ∧ w3.pv = D :: w0.pv ∧ En K w3 ro σ ∧ w3.H D = some (.lst us) ∧ RepL K w3 us acc ∧ Run K w0 (bnd (compGo s.o s.xs t p m (wipeS ro vs) (s.xs.drop (i + 1)) acc) G w3.st) ok ex,
          fun H' ⟨w3, us, acc, h1, h2, h2', h3, h4, h5, h6, h7⟩ => ⟨s.xs.length - (i + 1), by omega, w3, us, acc, h1, h2, h2', h3, h4, h5, h6, hlt, rfl, h7⟩, fun v H' hy => ?_⟩
        obtain ⟨w3, rfl, es, ep, x3, m3, rv⟩ := g2 v H' hy
        have en3 := en2.mono x3 m3
        obtain ⟨σ3, e3, so, kk⟩ := hg w3 v _ (wipeS ro vs) ro1 (wipe σ vs) (en3.wipe vs) rv q
        refine kk _ ⟨wipe_eq (by rw [so.1, wipe_length]) fun j hj => ?_, ?_⟩
        · rw [so.2 j fun z => hj (hw j z), wipe_out hj]
        · rw [← es] at k4
          refine ht w3 ro1 σ3 _ e3 ((run_noX k4).mono (fun c w4 x4 p4 m4 k4 => ?_) fun _ _ _ z => z)
          have pD : D ∈ w2.pv := by rw [p2]; exact List.mem_cons_self
          cases c with
          | true =>
            rw [if_pos rfl, bnd_assoc] at k4
            rw [if_pos rfl]
            refine he w4 ro1 σ3 _ (e3.mono x4 m4) ((run_noX k4).mono (fun y w5 x5 p5 m5 k5 v5 rv5 => ?_) fun _ _ _ z => z)
            have x25 : Ext w2 w5 := x3.trans (x4.trans x5)
            obtain ⟨pD5, hD5⟩ := x25.pvk D pD
            have hD5' : w5.H D = some (.lst us) := hD5.trans hHD
            by_cases hl : acc.length < szD
            · rw [if_pos hl] at k5
              have ru5 := ru.mono m2 x25
              have xg := ExtP.grow m5 (vs := us ++ [v5]) pD5
              refine ⟨us, hD5', by rw [ru.length]; exact szD_lt hl, w5.grow D (us ++ [v5]), us ++ [v5], acc ++ [y], rfl, (xw.trans x25.w).trans xg.w, (x2.trans x25).thenGrow m5 pD5 h0D h0p, ?_, ?_, upd_same, ?_, k5⟩
              · show w5.pv = D :: w0.pv
                rw [p5, p4, ep, p2]
              · have en5 := en2.mono x25 m5
                exact ⟨m5.grow pD5, en5.len, fun j d hd => let ⟨u, a1, a2⟩ := en5.slot j d hd; ⟨u, a1, a2.monoP m5 xg⟩⟩
              · exact (ru5.append (.cons rv5 .nil)).monoP m5 xg
            · rw [if_neg hl] at k5; exact k5.elim
          | false =>
            rw [if_neg Bool.false_ne_true] at k4 ⊢
            have x24 : Ext w2 w4 := x3.trans x4
            obtain ⟨pD4, hD4⟩ := x24.pvk D pD
            exact ⟨w4, us, acc, rfl, xw.trans x24.w, x2.trans x24, by rw [p4, ep, p2], en2.mono x24 m4, hD4.trans hHD, ru.mono m2 x24, k4⟩
    · unfold bnd at k3
      simp only [hc, if_false] at k3
      exact k3.elim
  · have hE : i = s.xs.length := by omega
    subst hE
    rw [List.drop_length] at k2
    have k3 : Run K w0 (bnd (fun st => if chk s.o s.xs st = true then .ok acc st else .bad) G w2.st) ok ex := k2
    by_cases hc : chk s.o s.xs w2.st = true
    · obtain ⟨_, hst⟩ := hJ w2 xw m2 hc
      unfold bnd at k3
      simp only [hc, if_true] at k3
      exact .inl ⟨hst, hN w2 us acc x2 p2 m2 hHD ru k3⟩
    · unfold bnd at k3
      simp only [hc, if_false] at k3
      exact k3.elim
theorem sl_comp2 {wi wi1 : TI} {s s1 : Sl → Mo Src} {g g1 : TG} {t t1 : Tg} {ws ws1 vs vs1 : List Nat} {tt tt1 : TT} {p p1 : Sl → Mo Bool} {te : TE} {m : Sl → Mo Da} (hs : SI K E wi s) (hg : SG K g t ws) (hw : ∀ i ∈ ws, i ∈ vs) (ht : ST K E' tt p)
    (hs1 : SI K E' wi1 s1) (hg1 : SG K g1 t1 ws1) (hw1 : ∀ i ∈ ws1, i ∈ vs1) (ht1 : ST K E' tt1 p1) (he : SE K E' te m) :
    SL K E (tLc2 wi g tt wi1 g1 tt1 te vs vs1) (lComp2 s t p s1 t1 p1 m vs vs1) := fun w ro σ Q en h => by
  refine hs w ro σ _ en (h.bind.mono (fun s w1 x1 p1' m1 k J hJ D hD => ?_) fun _ _ _ z => z)
  have hDp : D ∉ w1.pv := m1.freshP hD
  refine ⟨fun i mm H' => ∃ w2 us acc, w2.H = H' ∧ Ext w1 w2 ∧ w2.pv = D :: w1.pv ∧ Em K w2 ∧ w2.H D = some (.lst us) ∧ RepL K w2 us acc ∧ i ≤ s.xs.length ∧ mm = s.xs.length - i ∧ Run K w1 (compGo2 s.o s.xs t p s1 t1 p1 m vs1 (wipeS ro vs) (s.xs.drop i) acc w2.st) (OkL K Q) (XP K (E σ)),
    ⟨s.xs.length, w1.hid D [], [], [], rfl, Ext.hid m1 hD, rfl, m1.hid hD, upd_same, .nil, Nat.zero_le _, by omega, by rw [List.drop_zero]; exact k⟩, ?_⟩
  rintro i mm H2 ⟨w2, us, acc, rfl, x2, p2, m2, hHD, ru, hi, rfl, k2⟩
  by_cases hlt : i < s.xs.length
  · have hd : s.xs.drop i = s.xs[i] :: s.xs.drop (i + 1) := List.drop_eq_getElem_cons hlt
    rw [hd] at k2
    unfold compGo2 at k2
    split at k2
    · rename_i hc
      obtain ⟨hgo, hst⟩ := hJ w2 x2.w m2 hc
      obtain ⟨h1, h2⟩ := hgo i _ (List.getElem?_eq_getElem hlt)
      cases q : t s.xs[i] (wipeS ro vs) with
      | none => rw [q] at k2; exact k2.elim
      | some ro1 =>
        rw [q] at k2
        refine .inr ⟨h1, fun H' => ∃ w3 us acc, w3.H = H' ∧ Ext w1 w3 ∧ w3.pv = D :: w1.pv ∧ Em K w3 ∧ w3.H D = some (.lst us) ∧ RepL K w3 us acc ∧ Run K w1 (compGo2 s.o s.xs t p s1 t1 p1 m vs1 (wipeS ro vs) (s.xs.drop (i + 1)) acc w3.st) (OkL K Q) (XP K (E σ)),
          fun H' ⟨w3, us, acc, h1, h2, h3, h4, h5, h6, h7⟩ => ⟨s.xs.length - (i + 1), by omega, w3, us, acc, h1, h2, h3, h4, h5, h6, hlt, rfl, h7⟩, fun v H' hy => ?_⟩
        obtain ⟨w3, rfl, es, ep, x3, m3, rv⟩ := h2 v H' hy
        have en3 : En K w3 (wipeS ro vs) (wipe σ vs) := (en.mono (x1.trans (x2.trans x3)) m3).wipe vs
        obtain ⟨σ3, e3, so, kk⟩ := hg w3 v _ (wipeS ro vs) ro1 (wipe σ vs) en3 rv q
        refine kk _ ⟨wipe_eq (by rw [so.1, wipe_length]) fun j hj => ?_, ?_⟩
        · rw [so.2 j fun z => hj (hw j z), wipe_out hj]
        · rw [← es] at k2
          refine ht w3 ro1 σ3 _ e3 ((run_noX k2).mono (fun c w4 x4 p4 m4 k4 => ?_) fun _ _ _ z => z)
          have pD : D ∈ w2.pv := by rw [p2]; exact List.mem_cons_self
          cases c with
          | true =>
            rw [if_pos rfl] at k4 ⊢
            refine hs1 w4 ro1 σ3 _ (e3.mono x4 m4) ((run_noX k4).mono (fun S w5 x5 p5 m5 k5 J1 hJ1 => ?_) fun _ _ _ z => z)
            have x25 : Ext w2 w5 := x3.trans (x4.trans x5)
            obtain ⟨pD5, hD5⟩ := x25.pvk D pD
            refine comp_loop hg1 hw1 ht1 he hJ1 (e3.mono (x4.trans x5) m5) (x2.trans x25) hD hDp (by rw [p5, p4, ep, p2]) (hD5.trans hHD) (ru.mono m2 x25) k5 fun w6 us6 acc6 a1 a2 a3 a4 a5 a6 => ?_
            exact ⟨w6, us6, acc6, rfl, a1, a2, a3, a4, a5, a6⟩
          | false =>
            rw [if_neg Bool.false_ne_true] at k4 ⊢
            have x24 : Ext w2 w4 := x3.trans x4
            obtain ⟨pD4, hD4⟩ := x24.pvk D pD
            exact ⟨w4, us, acc, rfl, x2.trans x24, by rw [p4, ep, p2], m4, hD4.trans hHD, ru.mono m2 x24, k4⟩
    · exact k2.elim
  · have hE : i = s.xs.length := by omega
    subst hE
    rw [List.drop_length] at k2
    unfold compGo2 at k2
    split at k2
    · rename_i hc
      obtain ⟨_, hst⟩ := hJ w2 x2.w m2 hc
      refine .inl ⟨hst, ?_⟩
      have z := Run.at (w' := w2.del D w1.pv) k2 (x2.del p2 hD hDp) (m2.del p2 hHD hDp) rfl rfl D us del_same (ru.del p2 hHD)
      rw [show upd (w2.del D w1.pv).H D (.lst us) = w2.H from upd_del hHD] at z
      exact z
    · exact k2.elim
end
section
variable {X : Cx} {E : St → XK} {tg iter tg1 iter1 : Expr} {tt tt1 : TT} {te : TE} {ma : Sl → Mo Da} {mp mp1 : Sl → Mo Bool} {pos : Pos} {g g1 : TG} {t t1 : Tg} {ws ws1 : List Nat} {wi wi1 : TI} {ms ms1 : Sl → Mo Src}
theorem ql_comp2 {elt : Expr} {ifs ifs1 : List Expr} {scope : Scope} {own : List (Str × Nat)} {vs vs1 : List Nat} (hc : X.calm = true) (hN : X.N.Nodup) (hi : QI X E tg iter wi ms) (ok : BlkOk X.N X.env.scope scope own)
    (hg : ∀ (s : Shared) (H : Hp) (C : Addr) (cl : List (Str × Addr)) (fp : List Addr), QG (X.blk s H scope (PySem.compEnvC scope cl C X.env) fp) tg g t ws)
    (ht : ∀ (s : Shared) (H : Hp) (C : Addr) (cl : List (Str × Addr)) (fp : List Addr), QTs (X.blk s H scope (PySem.compEnvC scope cl C X.env) fp) (fun _ => E0) ifs tt mp)
    (hi1 : ∀ (s : Shared) (H : Hp) (C : Addr) (cl : List (Str × Addr)) (fp : List Addr), QI (X.blk s H scope (PySem.compEnvC scope cl C X.env) fp) (fun _ => E0) tg1 iter1 wi1 ms1)
    (hg1 : ∀ (s : Shared) (H : Hp) (C : Addr) (cl : List (Str × Addr)) (fp : List Addr), QG (X.blk s H scope (PySem.compEnvC scope cl C X.env) fp) tg1 g1 t1 ws1)
    (ht1 : ∀ (s : Shared) (H : Hp) (C : Addr) (cl : List (Str × Addr)) (fp : List Addr), QTs (X.blk s H scope (PySem.compEnvC scope cl C X.env) fp) (fun _ => E0) ifs1 tt1 mp1)
    (he : ∀ (s : Shared) (H : Hp) (C : Addr) (cl : List (Str × Addr)) (fp : List Addr), QE (X.blk s H scope (PySem.compEnvC scope cl C X.env) fp) (fun _ => E0) elt te ma)
    (hv : own.map (·.2) = vs := by rfl) (hv1 : ∀ i ∈ vs1, i ∈ vs := by decide) (hw : ∀ i ∈ ws, i ∈ vs := by decide) (hw1 : ∀ i ∈ ws1, i ∈ vs1 := by decide) (hs : ∀ x, foldedSetIterable iter X.env x = pure x := by intro _; rfl) (hs1 : ∀ env x, foldedSetIterable iter1 env x = pure x := by intro _ _; rfl) :
    QL X E (.ListComp elt [⟨tg, iter, ifs, 0⟩, ⟨tg1, iter1, ifs1, 0⟩] scope pos) (tLc2 wi g tt wi1 g1 tt1 te vs vs1) (lComp2 ms t mp ms1 t1 mp1 ma vs vs1) :=
  ⟨by subst hv; exact pe_lc2 hc hN hi.pi ok hv1 (fun s H C cl fp => (hg s H C cl fp).pg) (fun s H C cl fp => (ht s H C cl fp).pt) (fun s H C cl fp => (hi1 s H C cl fp).pi) (fun s H C cl fp => (hg1 s H C cl fp).pg) (fun s H C cl fp => (ht1 s H C cl fp).pt) (fun s H C cl fp => (he s H C cl fp).pe) hs hs1,
    sl_comp2 hi.si (hg X.s_0 (fun _ => none) 0 [] []).sg hw (ht X.s_0 (fun _ => none) 0 [] []).st (hi1 X.s_0 (fun _ => none) 0 [] []).si (hg1 X.s_0 (fun _ => none) 0 [] []).sg hw1 (ht1 X.s_0 (fun _ => none) 0 [] []).st (he X.s_0 (fun _ => none) 0 [] []).se⟩
end
def emptySet (wd : World) : Obj := { cls := .type "set", dict := none, data := .set #[] 0 (.fresh 0 0 (!wd.params.followText "set-order")) }
section
variable {P : Program} {w : World} {A : Around} {Ex : Value → Shared → Prop} {s : Shared}
theorem set_of_list {l : Addr} {items : Array Value} (ns : List Int) {Q : Value → Shared → Prop} (hh : A.handled = none) (hl : s.heap.IsList l items) (hit : PyProof.Rows.IntsAre items.toList ns) (hb : ns.length + 1 < scanBound)
    (h : ∀ (h' : Heap) (tk c : Nat), SetR w h' s.heap.objs.size (fun j => decide (j ∈ ns)) c → c ≤ ns.length → (∀ b o, s.heap.get? b = some o → h'.get? b = some o) → Q (.ref s.heap.objs.size) { s with heap := h', toks := tk }) :
    wpAny (model P w) A (PySem.call (.type "set") [.ref l]) Q Ex s := by
  have hisz : items.size = ns.length := by
    rw [← Array.length_toList]
    exact PyProof.Rows.IntsAre.length hit
  have q0 := F.called_set
  obtain ⟨c, tl, hmro⟩ := q0.mro
  have hmade := q0.made
  have hsub := q0.sub
  refine wpAny_call (codeAny_of_tree (show wpAny _ _ (callAny (.type "set") _) _ _ _ from ?_))
  refine wpAny_pure ⟨Code.quiet_builtin _ (by decide +kernel), codeAny_builtin F.entry_type_call ?_⟩
  rw [Around.under_plain (weight_type_call_type "set" [.ref l] []) rfl]
  have h1 := q0.notType
  have h2 := q0.canCreate
  have hct := F.typeCall_set_1 (.ref l)
  repeat (any_goals (first | assumption | wp_step))
  refine codeAny_mono (code_set_led1 (.ref l) (E := Ex) (Q₁ := fun z s₁ => z = .ref s.heap.objs.size ∧ s₁ = { s with heap := s.heap.push (emptySet w) }) ⟨rfl, rfl⟩) fun r s₁ hr => ?_
  cases r with
  | error e => exact hr
  | ok fl =>
    cases fl with
    | ret z =>
      obtain ⟨rfl, rfl⟩ := hr
      have hS : (s.heap.push (emptySet w)).get? s.heap.objs.size = some (emptySet w) := Heap.get?_push_size _ rfl
      have hT : Shared.TypeIs { s with heap := s.heap.push (emptySet w) } (.ref s.heap.objs.size) "set" := ⟨_, hS, rfl⟩
      have hli := q0.init.lookup
      have hbi := q0.init.bind (.ref s.heap.objs.size)
      repeat (any_goals (first | assumption | wp_step))
      refine codeAny_mono (codeAny_call_builtin (R := wants (fun r s₂ => r = .none ∧ ∃ h' tk c, s₂ = { s with heap := h', toks := tk } ∧ SetR w h' s.heap.objs.size (fun j => decide (j ∈ ns)) c ∧ c ≤ ns.length ∧
          (∀ b o, s.heap.get? b = some o → h'.get? b = some o)) Ex) q0.init.plain F.entry_set_init (check_set_init_1 hT ?_)) fun r₂ s₂ hr₂ => ?_
      · obtain ⟨⟨ocls, odict, odata, oslots⟩, hol, hcl, nl, hdl⟩ := hl
        simp only at hcl hdl
        subst hcl hdl
        have hol' := Heap.get?_push_of_some (emptySet w) hol
        have hsls := F.sub_list_set
        have hslf := F.sub_list_frozenset
        have hne : (Value.type "list" == Value.type "dict") = false := by decide
        have hl1 : (s.heap.push (emptySet w)).IsList l items := ⟨_, hol', rfl, nl, rfl⟩
        have hlS : l < s.heap.objs.size := Heap.lt_size hol
        have hz1 : (s.heap.push (emptySet w)).objs.size = s.heap.objs.size + 1 := Heap.size_push ..
        unfold Builtin.«set.__init__» noKeywords Builtin.Frozenset.updateFrom
        generalize hPI : pyIter = PI
        wp_walk
        subst hPI
        refine wpAny_pyIter_list hl1 (wpAny_bind (wpAny_runValue ?_))
        have hh3 : A.in1.in1.in1.handled = none := by simp [hh]
        have hval : ∀ (i : Nat) (v : Value), items[i]? = some v → ∃ k t, ns[i]? = some k ∧ v = .int k t := fun i v hv => by
          have hi : i < ns.length := by rw [← hisz]; exact (Array.getElem?_eq_some_iff.mp hv).1
          obtain ⟨t, e⟩ := PyProof.Rows.IntsAre.int_at hit i v (by rw [Array.getElem?_toList]; exact hv)
          refine ⟨ns[i], t, List.getElem?_eq_getElem hi, ?_⟩
          rw [e, List.getD_eq_getElem?_getD, List.getElem?_eq_getElem hi] <;> rfl
        refine set_update_ints ((Walks.list hh3 _ l (by rw [hz1]; exact Nat.ne_of_lt (Nat.lt_succ_of_lt hlS)) items).toS) s.heap.objs.size (by rw [hz1]; intro z; rcases List.mem_cons.mp z with z | z; exact absurd z (Nat.ne_of_lt (Nat.lt_succ_self _)); exact absurd (List.mem_singleton.mp z) (Nat.ne_of_gt hlS)) ns hisz hb hval (items.size - 0) 0 _ (by omega) (Nat.zero_le _)
          ⟨⟨_, Heap.get?_push_size _ rfl, rfl, rfl⟩, (hl1.push _)⟩ ⟨0, Nat.le_refl 0, setR_new_at (Heap.get?_push_of_some _ hS)⟩ ?_
        intro s' c' hm hc' hS'
        obtain ⟨h', g2, d', tk', os'⟩ := s'
        have eg : g2 = s.gens := hm.gens
        have ed : d' = s.drawn := hm.drawn
        have eo : os' = s.os := hm.os
        subst eg ed eo
        refine wpAny_pure (show wpAny _ _ (PySem.ret Value.none) _ _ _ from ?_)
        rw [hisz] at hc'
        refine wpAny_pure ⟨rfl, h', tk', c', rfl, hS', hc', fun b o e => ?_⟩
        have hb0 : b < s.heap.objs.size := Heap.lt_size e
        exact hm.heap b o (by rw [hz1]; intro z; rcases List.mem_cons.mp z with z | z; exact absurd z (Nat.ne_of_lt hb0); exact absurd (List.mem_singleton.mp z) (Nat.ne_of_lt (Nat.lt_succ_of_lt hb0))) (Heap.get?_push_of_some _ (Heap.get?_push_of_some _ e))
      · cases r₂ with
        | error e => exact hr₂
        | ok fl₂ =>
          cases fl₂ with
          | ret r =>
            obtain ⟨rfl, h', tk, c', rfl, hS', hc', hk'⟩ := hr₂
            repeat (any_goals (first | assumption | wp_step))
            exact h _ _ _ hS' hc' hk'
          | _ => exact hr₂.elim
    | _ => exact hr.elim
end
def insS (k : Int) : List Int → List Int
  | [] => [k]
  | x :: r => if k < x then k :: x :: r else if k = x then x :: r else x :: insS k r
def srtS : List Int → List Int
  | [] => []
  | k :: r => insS k (srtS r)
theorem insS_mem {k j : Int} : ∀ {l : List Int}, j ∈ insS k l ↔ j = k ∨ j ∈ l
  | [] => by simp [insS]
  | x :: r => by
    unfold insS
    split
    · simp
    · split
      · rename_i e; subst e; simp
      · simp only [List.mem_cons, insS_mem (l := r)]
        constructor
        · rintro (h | h | h)
          · exact .inr (.inl h)
          · exact .inl h
          · exact .inr (.inr h)
        · rintro (h | h | h)
          · exact .inr (.inl h)
          · exact .inl h
          · exact .inr (.inr h)
theorem insS_up {k : Int} : ∀ {l : List Int}, l.Pairwise (· < ·) → (insS k l).Pairwise (· < ·)
  | [], _ => by simp [insS]
  | x :: r, h => by
    unfold insS
    have h1 := List.pairwise_cons.mp h
    split
    · rename_i hk
      refine List.pairwise_cons.mpr ⟨fun y hy => ?_, h⟩
      rcases List.mem_cons.mp hy with rfl | hy
      · exact hk
      · have := h1.1 y hy; omega
    · split
      · exact h
      · refine List.pairwise_cons.mpr ⟨fun y hy => ?_, insS_up h1.2⟩
        rcases insS_mem.mp hy with rfl | hy
        · omega
        · exact h1.1 y hy
theorem srtS_mem {j : Int} : ∀ {l : List Int}, j ∈ srtS l ↔ j ∈ l
  | [] => by simp [srtS]
  | x :: r => by simp [srtS, insS_mem, srtS_mem (l := r)]
theorem srtS_up : ∀ l : List Int, (srtS l).Pairwise (· < ·)
  | [] => by simp [srtS]
  | x :: r => insS_up (srtS_up r)
theorem up_same : ∀ {a b : List Int}, a.Pairwise (· < ·) → b.Pairwise (· < ·) → (∀ k, k ∈ a ↔ k ∈ b) → a = b
  | [], [], _, _, _ => rfl
  | [], y :: b, _, _, h => absurd ((h y).mpr (List.mem_cons_self ..)) (by simp)
  | x :: a, [], _, _, h => absurd ((h x).mp (List.mem_cons_self ..)) (by simp)
  | x :: a, y :: b, ha, hb, h => by
    have a1 := List.pairwise_cons.mp ha
    have b1 := List.pairwise_cons.mp hb
    have e : x = y := by
      rcases List.mem_cons.mp ((h x).mp (List.mem_cons_self ..)) with e | e
      · exact e
      · rcases List.mem_cons.mp ((h y).mpr (List.mem_cons_self ..)) with e2 | e2
        · exact e2.symm
        · have q1 := b1.1 x e
          have q2 := a1.1 y e2
          omega
    subst e
    rw [up_same a1.2 b1.2 fun k => ?_]
    constructor
    · intro hk
      rcases List.mem_cons.mp ((h k).mp (List.mem_cons_of_mem _ hk)) with e | e
      · subst e; exact absurd (a1.1 _ hk) (by omega)
      · exact e
    · intro hk
      rcases List.mem_cons.mp ((h k).mpr (List.mem_cons_of_mem _ hk)) with e | e
      · subst e; exact absurd (b1.1 _ hk) (by omega)
      · exact e
theorem nd_len : ∀ {a b : List Int}, a.Nodup → (∀ k ∈ a, k ∈ b) → a.length ≤ b.length
  | [], _, _, _ => by simp
  | x :: a, b, h, hs => by
    have h1 := List.nodup_cons.mp h
    have hx := hs x (List.mem_cons_self ..)
    have := nd_len (b := b.erase x) h1.2 fun k hk => (List.mem_erase_of_ne (fun (z : k = x) => h1.1 (z ▸ hk))).mpr (hs k (List.mem_cons_of_mem _ hk))
    rw [List.length_erase_of_mem hx] at this
    have : 0 < b.length := List.length_pos_of_mem hx
    simp
    omega
theorem srtS_nd (l : List Int) : (srtS l).Nodup := (srtS_up l).imp fun h => by omega
def sortSetD (d : Da) : Mo (List Da) := fun st => match lsOf st d with
  | some xs => (match intsOf xs with
    | some ns => if ns.length < 4000 ∧ (srtS ns).length < 64 then .ok ((srtS ns).map Da.int) st else .bad
    | none => .bad)
  | none => .bad
def rSetOf (K : PySem.W.Frag) (wd : World) : List V → Hp → VK → Prop := fun vs H Q => ∃ (a : Addr) (ns : List Int), vs = [V.ref a] ∧ SqL K H a (ns.map V.int) ∧ ns.length < 4000 ∧ ∀ (p : Addr) (c : Nat), H p = none → c = (srtS ns).length → Q (.ref p) (upd H p (SetO wd p (fun j => decide (j ∈ ns)) c))
theorem repL_intsOf {K : PySem.W.Frag} {w : Wd} : ∀ ns : List Int, RepL K w (ns.map V.int) (ns.map Da.int)
  | [] => .nil
  | n :: r => .cons (.int n) (repL_intsOf r)
section
variable {X : Cx} {E : St → XK} {e : Expr} {tA : TA} {al : Sl → Mo (List Da)} {pos pos2 : Pos}
theorem setR_card {w : World} {h : Heap} {a : Addr} {ns : List Int} {c : Nat} (R : SetR w h a (fun j => decide (j ∈ ns)) c) : c = (srtS ns).length := by
  obtain ⟨o, es, ep, t, _, _, _, _, nd, hm, _, _, hn, _⟩ := R
  have e1 : (es.toList.map keyOf).length = c := by rw [List.length_map, Array.length_toList]; exact hn
  have l1 := nd_len nd (b := srtS ns) fun k hk => srtS_mem.mpr (by simpa using (hm k).mpr hk)
  have l2 := nd_len (srtS_nd ns) (b := es.toList.map keyOf) fun k hk => (hm k).mp (by simpa using srtS_mem.mp hk)
  omega
theorem cr_setOf (hc : X.calm = true) : CallR X (.type "set") (rSetOf X.K X.w) := by
  intro pins s σ H vs us Q I r h
  obtain ⟨a, ns, rfl, hs, h64, q⟩ := h
  obtain ⟨its, rv, hl, _⟩ := I.list hs
  rw [Vals.ref1 r]
  refine set_of_list ns (I.ok.hd hc) hl.isList (by simpa using rv.ints) (by unfold scanBound; omega) fun h' tk c R hc2 hk => ?_
  exact ⟨.ref _, upd H s.heap.objs.size (SetO X.w s.heap.objs.size (fun j => decide (j ∈ ns)) c), I.laid (t' := tk) hk (Nat.le_refl _) (setO_new R), rfl, q _ c (I.hok.fresh (Nat.le_refl _)) (setR_card R)⟩
theorem ql_sortSet {K : PySem.W.Frag} {wd : World} {p p2 : Pos} (hc : X.calm = true) (hm : X.mg "sorted" = none) (hm2 : X.mg "set" = none) (ha : QA X E [e] tA al) (hg : Gl X "sorted" := by rfl) (hg2 : Gl X "set" := by rfl)
    (he : starEach (e :: []) X.env = (false, eval e X.env) :: starEach [] X.env := by rfl) (hpl : (backTo pos2 (starEach [] X.env)).any (·.1) = false := by rfl) (hK : X.K = K := by rfl) (hw : X.w = wd := by rfl)
    (he2 : starEach (.Call (.Name "set" p2) [e] [] pos2 :: []) X.env = (false, eval (.Call (.Name "set" p2) [e] [] pos2) X.env) :: starEach [] X.env := by rfl) (hpl2 : (backTo pos (starEach [] X.env)).any (·.1) = false := by rfl) :
    QL X E (.Call (.Name "sorted" p) [.Call (.Name "set" p2) [e] [] pos2] [] pos) (tCB (rSortedSet wd) (tCons (tCB (rSetOf K wd) tA) tNil)) (lCall (one sortSetD) al) := by
  subst hK hw
  refine ⟨pe_callB (cr_sortedSet hc) hg hm (by decide +kernel) (pa_cons (pe_callTy (cr_setOf hc) hg2 hm2 (by decide +kernel) ha.pa (by decide) (by decide) he hpl) pa_nil he2) (by decide) (by decide) he2 hpl2, fun w ro σ Q en h => ?_⟩
  refine ha.sa w ro σ _ en (h.bind.mono (fun ds w1 x1 p1 m1 k vs rvs => ?_) fun _ _ _ z => z)
  obtain ⟨v, d, rfl, rfl, rv, k⟩ := one_rep rvs k
  unfold sortSetD at k
  split at k
  · rename_i xs hx
    split at k
    · rename_i ns hn
      split at k
      · rename_i h63
        obtain ⟨a, us, rfl, hH, rl⟩ := ls_rep m1 rv hx
        have eu := ints_rep rl hn
        subst eu
        refine ⟨a, ns, rfl, SqL.of hH, h63.1, fun p c hp hcn => ?_⟩
        refine ⟨p, _, c, rfl, upd_same, by rw [hcn]; exact h63.2, fun ns2 p3 h1 h2 h3 hp3 => ?_⟩
        have e2 : ns2 = srtS ns := up_same h1 (srtS_up ns) fun k => by rw [h2 k, srtS_mem]; simp
        subst e2
        have x2 := Ext.new m1 (o := SetO X.w p (fun j => decide (j ∈ ns)) c) hp
        exact Run.at (w' := w1.new p (SetO X.w p (fun j => decide (j ∈ ns)) c)) k x2 (m1.new hp) rfl rfl p3 _ hp3 (repL_intsOf _)
      · exact k.elim
    · exact k.elim
  · exact k.elim
end
def popAtD (d k : Da) : Mo Da := fun st => match d, k with
  | .han n, .int i => (match st[n]? with
    | some (.lst xs) => (match ixN xs.length i with
      | some j => (match xs[j]? with
        | some x => if big i then .ok x (st.set n (.lst (xs.eraseIdx j))) else .bad
        | none => .bad)
      | none => .bad)
    | _ => .bad)
  | _, _ => .bad
def ePopAt (a b : Sl → Mo Da) : Sl → Mo Da := fun ro => bnd (a ro) fun d => bnd (isLs d) fun _ => bnd (b ro) fun x => popAtD d x
def setSlD (d : Da) (l h : Option Int) (x : Da) : Mo Unit := fun st => match d, l, h, x with
  | .han n, some a, some c, .lst ys => (match st[n]? with
    | some (.lst xs) => if 0 ≤ a ∧ a ≤ c ∧ c ≤ xs.length ∧ xs.length + ys.length ≤ szD then .ok () (st.set n (.lst (xs.take a.toNat ++ ys ++ xs.drop c.toNat))) else .bad
    | _ => .bad)
  | _, _, _, _ => .bad
def mSetSl (v o : Sl → Mo Da) (lo hi : Sl → Mo (Option Int)) : Sl → Mo Fl := fun ro => bnd (v ro) fun x => bnd (o ro) fun d => bnd (lo ro) fun l => bnd (hi ro) fun h => bnd (setSlD d l h x) fun _ => ret (.nx ro)
section
variable {K : PySem.W.Frag} {w : Wd}
theorem RepL.erase : ∀ {vs : List V} {ds : List Da}, RepL K w vs ds → ∀ j : Nat, RepL K w (vs.eraseIdx j) (ds.eraseIdx j)
  | _, _, .nil, j => by simp; exact .nil
  | _, _, .cons r t, 0 => t
  | _, _, .cons r t, j + 1 => .cons r (t.erase j)
variable {E : St → XK} {ta tb : TE} {a b : Sl → Mo Da}
end
section
end
theorem room1 {k : Nat} {A : Around} (r : Room k A) : A.units + 65 < cLine := by have := r.un; omega
def indexD (d x : Da) : Mo Da := fun st => match pyD st d, pyD st x with
  | some (.list qs), some p => if (SeqAt.shaped (.list qs) && SeqAt.shaped p) = true then (match qs.findIdx? (fun z => PyData.eqv z p) with
    | some j => .ok (.int (j : Nat)) st
    | none => .bad) else .bad
  | _, _ => .bad
def eIndex (a b : Sl → Mo Da) : Sl → Mo Da := fun ro => bnd (a ro) fun d => bnd (isLs d) fun _ => bnd (b ro) fun x => indexD d x
section
variable {K : PySem.W.Frag} {E : St → XK} {ta tb : TE} {a b : Sl → Mo Da}
theorem s_index (ha : SE K E ta a) (hb : SE K E tb b) : SE K E (tBM K "list" (rIndexD K) ta (tCons tb tNil)) (eIndex a b) := fun w ro σ Q e h =>
  ha w ro σ _ e (h.bind.mono (fun d w1 x1 p1 m1 k v rv => by
    obtain ⟨ty, k2⟩ := isLs_run m1 rv k.bind
    refine ⟨ty, hb w1 ro σ _ (e.mono x1 m1) (k2.bind.mono (fun x w2 x2 p2 m2 k3 u ru => ?_) fun _ _ _ z => z)⟩
    have rv2 := rv.mono m1 x2
    unfold indexD at k3
    split at k3
    · rename_i qs p hq hp
      split at k3
      · rename_i hs
        obtain ⟨s1, s2⟩ := Bool.and_eq_true_iff.mp hs
        split at k3
        · rename_i j hj
          have d1 := dp_py m2 rv2 hq
          have d2 := dp_py m2 ru hp
          have hv : ∃ q, v = .ref q := by
            cases d1
            exact ⟨_, rfl⟩
          obtain ⟨q, rfl⟩ := hv
          obtain ⟨hjl, hj1, hj2⟩ := List.findIdx?_eq_some_iff_getElem.mp hj
          refine ⟨q, u, p, qs, j, qs[j], rfl, rfl, d1, d2, s1, s2, List.getElem?_eq_getElem hjl, hj1, fun m z' hm hz => ?_, k3.here m2 _ (.int _)⟩
          obtain ⟨hml, rfl⟩ := List.getElem?_eq_some_iff.mp hz
          have := hj2 m hm
          simpa using this
        · exact k3.elim
      · exact k3.elim
    · exact k3.elim) fun _ _ _ z => z)
end
section
variable {X : Cx} {E : St → XK} {pos : Pos}
theorem q_index {a b : Expr} {ta tb : TE} {ma mb : Sl → Mo Da} {K : PySem.W.Frag} {apos : Pos} (hu : X.A.units + 65 < cLine) (ha : QE X E a ta ma) (hb : QE X E b tb mb) (hbase : attributeBase a "index" X.env (eval a X.env) = eval a X.env := by rfl)
    (hfew : ((backTo pos (starEach (b :: []) X.env)).all (fun x => !x.1) && (backToKw pos (keywordEach [] X.env)).all (fun x => x.1.isSome) && decide ((b :: []).length + ([] : List Keyword).length + (if ([] : List Keyword).isEmpty then 0 else 1) < 30)) = true := by rfl) (hline : (apos.endLine == pos.line) = true := by rfl) (hs : starEach (b :: []) X.env = (false, eval b X.env) :: starEach [] X.env := by rfl) (hpl : (backTo pos (starEach [] X.env)).any (·.1) = false := by rfl) (hK : X.K = K := by rfl) :
    QE X E (.Call (.Attribute a "index" apos) [b] [] pos) (tBM K "list" (rIndexD K) ta (tCons tb tNil)) (eIndex ma mb) := by
  subst hK
  exact ⟨pe_bm PySem.F.plainAttrs_list PySem.F.slot_list_index PySem.F.type_list_index (mt_indexD hu) ha.pe (pa_cons hb.pe pa_nil hs) hbase hfew hline hs hpl, s_index ha.se hb.se⟩
end
end CL
namespace CL
open PySem PySem.Spec L2
def fldD (cs : List Str) (f : Str) (d : Da) : Mo Da := fun st => match d with
  | .han n => (match st[n]? with
    | some (.ins c fs) => if c ∈ cs then (match fs.lookup f with
      | some x => .ok x st
      | none => .bad) else .bad
    | _ => .bad)
  | _ => .bad
def eFld (cs : List Str) (f : Str) (a : Sl → Mo Da) : Sl → Mo Da := fun ro => bnd (a ro) (fldD cs f)
def setFD (cs : List Str) (f : Str) (d x : Da) : Mo Unit := fun st => match d with
  | .han n => (match st[n]? with
    | some (.ins c fs) => if c ∈ cs ∧ fs.length < 1000 then .ok () (st.set n (.ins c (putD f x fs))) else .bad
    | _ => .bad)
  | _ => .bad
def mFld (cs : List Str) (f : Str) (v o : Sl → Mo Da) : Sl → Mo Fl := fun ro => bnd (v ro) fun x => bnd (o ro) fun d => bnd (setFD cs f d x) fun _ => ret (.nx ro)
def mFldAug (c : Str) (f : Str) (g : Int → Int → Int) (o v : Sl → Mo Da) : Sl → Mo Fl := fun ro => bnd (o ro) fun d => bnd (fldD [c] f d) fun x => bnd (v ro) fun y => match x, y with
  | .int p, .int q => bnd (setFD [c] f d (.int (g p q))) fun _ => ret (.nx ro)
  | _, _ => nop
section
end
def isIns (c m : Str) (d : Da) : Mo Unit := fun st => match d with
  | .han n => (match st[n]? with
    | some (.ins c' fs) => if c' = c ∧ fs.lookup m = none then .ok () st else .bad
    | _ => .bad)
  | _ => .bad
def eMeth (c m : Str) (f : List Da → Mo Da) (a : Sl → Mo Da) (al : Sl → Mo (List Da)) : Sl → Mo Da := fun ro => bnd (a ro) fun d => bnd (isIns c m d) fun _ => bnd (al ro) fun ds => f (d :: ds)
def newI (c : Str) : Mo Unit := fun st => .ok () (st ++ [.ins c []])
def isNon : Da → Mo Unit
  | .non => ret ()
  | _ => nop
def makeD (c : Str) (f : List Da → Mo Da) (ds : List Da) : Mo Da := fun st => bnd (newI c) (fun _ => bnd (f (.han st.length :: ds)) fun r => bnd (isNon r) fun _ => ret (.han st.length)) st
def eMake (c : Str) (f : List Da → Mo Da) (al : Sl → Mo (List Da)) : Sl → Mo Da := fun ro => bnd (al ro) (makeD c f)
section
end
theorem passes_of' {X : Cx} {E : XK} (hx : ∀ σ, PassesAt (L2.CX X.prog X.w) X σ E) : Passes (L2.CX X.prog X.w) X E := fun pins σ H s e s' I c => hx σ pins H s e s' I c
structure QK (X : Cx) (E : St → XK) (kws : List Keyword) (ta : TA) (m : Sl → Mo (List Da)) : Prop where
  pk : PK X kws ta
  sa : SA X.K E ta m
/-- two lists, one behind another, then a new instance -/
def eMakeK (c : Str) (f : List Da → Mo Da) (n1 m : Nat) (gD : List Da → List Da → List Da) (al kl : Sl → Mo (List Da)) : Sl → Mo Da := fun ro => bnd (al ro) fun ds => bnd (kl ro) fun es st => if ds.length = n1 ∧ es.length = m then bnd (newI c) (fun _ => bnd (f (gD (.han st.length :: ds) es)) fun r => bnd (isNon r) fun _ => ret (.han st.length)) st else .bad
section
variable {X : Cx} {E : XK} {o v e : Expr} {es : List Expr} {to tv te : TE} {mo mv me : Sl → Mo Da} {tA tK : TA} {al kl : Sl → Mo (List Da)} {cs : List Str} {f m c : Str} {pos pos' apos : Pos} {E' : St → XK}
theorem qk_nil : QK X E' [] tNil aNil := ⟨pk_nil, s_nil⟩
theorem qk_cons {kws : List Keyword} {nm : Option Str} {kpos : Pos} (h : QE X E' e te me) (hr : QK X E' kws tA al) : QK X E' (⟨nm, e, kpos⟩ :: kws) (tCons te tA) (aCons me al) := ⟨pk_cons h.pe hr.pk, s_cons h.se hr.sa⟩
end
end CL
namespace CL
open PySem PySem.Spec L2
def rngC (lo c : Int) (n : Nat) : List Da := (List.range n).map fun (i : Nat) => Da.int (lo + (i : Int) * c)
def rgN (i j c : Int) : Nat := (Builtin.Range.rangeSize i j c : Int).toNat
def rgOk (i j c : Int) : Prop := c ≠ 0 ∧ c.natAbs < 1073741824 ∧ Builtin.Range.small i j c = true ∧ Builtin.Range.rangeSize i j c = rgN i j c
instance (i j c : Int) : Decidable (rgOk i j c) := by unfold rgOk; infer_instance
def srcR3 : List Da → Mo Src
  | [.int i, .int j, .int c] => if rgOk i j c then ret ⟨rngC i c (rgN i j c), none⟩ else nop
  | _ => nop
def iR3 (a : Sl → Mo (List Da)) : Sl → Mo Src := fun ro => bnd (a ro) srcR3
def maxL : List Int → Int
  | [] => 0
  | [x] => x
  | x :: y :: r => max x (maxL (y :: r))
theorem maxL_is : ∀ {ns : List Int}, ns ≠ [] → maxL ns ∈ ns ∧ ∀ y ∈ ns, y ≤ maxL ns
  | [x], _ => by simp [maxL]
  | x :: y :: r, _ => by
    obtain ⟨h1, h2⟩ := maxL_is (ns := y :: r) (by simp)
    unfold maxL
    refine ⟨?_, fun z hz => ?_⟩
    · rcases Int.le_total x (maxL (y :: r)) with h | h
      · rw [Int.max_eq_right h]; exact List.mem_cons_of_mem _ h1
      · rw [Int.max_eq_left h]; exact List.mem_cons_self ..
    · rcases List.mem_cons.mp hz with rfl | hz
      · omega
      · have := h2 z hz; omega
def lsI (g : List Int → Option Int) (d : Da) : Mo Da := fun st => match lsOf st d with
  | some xs => (match intsOf xs with
    | some ns => (match g ns with
      | some i => .ok (.int i) st
      | none => .bad)
    | none => .bad)
  | none => .bad
def max1 : Da → Mo Da := lsI fun ns => if ns = [] then none else some (maxL ns)
section
variable {K : PySem.W.Frag} {E : St → XK} {tA : TA} {al : Sl → Mo (List Da)} {w : Wd}
theorem sc_lsI {g : List Int → Option Int} {r : List V → Hp → VK → Prop} (hr : ∀ a ns i H Q, SqL K H a (ns.map V.int) → g ns = some i → Q (.int i) H → r [.ref a] H Q) : SC K r (one (lsI g)) := fun w xs ds Q ex m rr h => by
  obtain ⟨v, d, rfl, rfl, rv, h⟩ := one_rep rr h
  unfold lsI at h
  split at h
  · rename_i ys hy
    obtain ⟨a, vs, rfl, hH, rl⟩ := ls_rep m rv hy
    split at h
    · rename_i ns hn
      have e := ints_rep rl hn
      subst e
      split at h
      · rename_i i hi
        exact hr a ns i _ _ (SqL.of hH) hi (h.here m _ (.int _))
      · exact h.elim
    · exact h.elim
  · exact h.elim
theorem sc_max1 : SC K (rMax K) (one max1) := sc_lsI fun a ns i H Q hs hi q => by
  split at hi
  · cases hi
  · rename_i hne
    cases hi
    refine ⟨a, ns, rfl, hs, List.length_pos_iff.mpr hne, fun m h1 h2 => ?_⟩
    have := maxL_is hne
    rw [show m = maxL ns from Int.le_antisymm (this.2 m h1) (h2 _ this.1)]
    exact q
end
section
end
end CL
namespace CL
open PySem PySem.Spec L2
def inU (neg : Bool) (d e : Da) : Mo Da := fun st => match pyD st d, pyD st e with
  | some p, some (.list qs) => if (SeqAt.shaped p && SeqAt.shaped (.list qs)) = true then .ok (.bl (if neg then !qs.any (fun z => PyData.eqv z p) else qs.any fun z => PyData.eqv z p)) st else .bad
  | some p, some (.tuple qs) => if (SeqAt.shaped p && SeqAt.shaped (.tuple qs)) = true then .ok (.bl (if neg then !qs.any (fun z => PyData.eqv z p) else qs.any fun z => PyData.eqv z p)) st else .bad
  | _, _ => .bad
section
end
def isTT (ts : List Tn) (d : Da) : Mo Da := fun st => match tyN st d with
  | some a => .ok (.bl (ts.any (isTn a))) st
  | none => .bad
structure CalK (P : Program) (wd : World) (K : PySem.W.Frag) (mg : Str → Option Value) (base : Heap) (k : Nat) (x : Str) (n1 : Nat) (ks : List Str) (n : Nat) (f : List Da → Mo Da) (gV : List V → List V → List V) (gD : List Da → List Da → List Da) : Prop where
  ex : ∃ (q : Addr) (fd : FuncData) (ps : List Str) (g : List Value → List Value → List Value), mg x = some (.ref q) ∧ PySem.W.keepIn K (.ref q) = true ∧ KBn K fd ps n1 ks g gV ∧ FnOk P wd K mg base (L2.CX P wd) k q fd ps (SpOf K n f)
  rep : ∀ (w : Wd) (vs zs : List V) (ds es : List Da), Em K w → RepL K w vs ds → RepL K w zs es → vs.length = n1 → zs.length = ks.length → RepL K w (gV vs zs) (gD ds es)
def eCallK (f : List Da → Mo Da) (n1 m : Nat) (gD : List Da → List Da → List Da) (al kl : Sl → Mo (List Da)) : Sl → Mo Da := fun ro => bnd (al ro) fun ds => bnd (kl ro) fun es => if ds.length = n1 ∧ es.length = m then f (gD ds es) else nop
section
variable {X : Cx} {E : XK} {e : Expr} {es : List Expr} {tA tK : TA} {al kl : Sl → Mo (List Da)} {x : Str} {pos : Pos}
theorem q_callN {P : Program} {wd : World} {K : PySem.W.Frag} {mg : Str → Option Value} {base : Heap} {k n n1 : Nat} {ks : List Str} {gV : List V → List V → List V} {gD : List Da → List Da → List Da} {fm : List Da → Mo Da} {p : Pos} {kws : List Keyword} (F : CalK P wd K mg base k x n1 ks n fm gV gD) (hr : Room k X.A) (hx : ∀ σ, PassesAt (L2.CX X.prog X.w) X σ E)
    (ha : QA X (fun _ => E) (e :: es) tA al) (hkw : QK X (fun _ => E) kws tK kl) (hP : X.prog = P := by rfl) (hw : X.w = wd := by rfl) (hK : X.K = K := by rfl) (hmg : X.mg = mg := by rfl) (hbase : X.base = base := by rfl) (hg : Gl X x := by rfl) (hdb : (x == ("__debug__" : Str)) = false := by decide)
    (hall : (backToKw pos (keywordEach kws X.env)).all (·.1.isSome) = true := by rfl) (hks : (backToKw pos (keywordEach kws X.env)).filterMap (·.1) = ks := by rfl)
    (he : starEach (e :: es) X.env = (false, eval e X.env) :: starEach es X.env := by rfl) (hpl : ((backTo pos (starEach (e :: es) X.env)).any (·.1) || (backToKw pos (keywordEach kws X.env)).any (·.1.isNone)) = false := by rfl) :
    QE X (fun _ => E) (.Call (.Name x p) (e :: es) kws pos) (tCallN n1 ks.length (SpOf K n fm) gV E tA tK) (eCallK (fun ds => ar n fm ds) n1 ks.length gD al kl) := by
  subst hP hw hK hmg hbase
  obtain ⟨⟨q, fd, ps, g, hm, hk, hb, F⟩, hrep⟩ := F
  refine ⟨pe_callN F hr hg hm hk hb (passes_of' hx) ha.pa hkw.pk hall hks hdb he hpl, fun w ro σ Q en h => ?_⟩
  refine ha.sa w ro σ _ en (h.bind.mono (fun ds w1 x1 p1 m1 k1 vs rv => hkw.sa w1 ro σ _ (en.mono x1 m1) (k1.bind.mono (fun es w2 x2 p2 m2 k2 zs rz => ?_) fun _ _ _ z => z)) fun _ _ _ z => z)
  split at k2
  · rename_i hl
    exact ⟨rv.length.trans hl.1, rz.length.trans hl.2, spOf_of m2 (hrep w2 _ _ _ _ m2 (rv.mono m1 x2) rz (rv.length.trans hl.1) (rz.length.trans hl.2)) k2⟩
  · exact k2.elim
end
section
end
def eMethK (c m : Str) (f : List Da → Mo Da) (n1 k : Nat) (gD : List Da → List Da → List Da) (a : Sl → Mo Da) (al kl : Sl → Mo (List Da)) : Sl → Mo Da := fun ro => bnd (a ro) fun d => bnd (isIns c m d) fun _ => bnd (al ro) fun ds => bnd (kl ro) fun es => if ds.length = n1 ∧ es.length = k then f (gD (d :: ds) es) else nop
section
end
section
end
section
variable {X : Cx} {E : St → XK} {e e2 : Expr} {tA : TA} {al : Sl → Mo (List Da)} {pos : Pos}
theorem q_len {K : PySem.W.Frag} {p : Pos} (hm : X.mg "len" = none) (ha : QA X E [e] tA al) (hg : Gl X "len" := by rfl) (he : starEach (e :: []) X.env = (false, eval e X.env) :: starEach [] X.env := by rfl) (hpl : (backTo pos (starEach [] X.env)).any (·.1) = false := by rfl) (hK : X.K = K := by rfl) : QE X E (.Call (.Name "len" p) [e] [] pos) (tCB (fun xs H Q => ∃ x n, xs = [x] ∧ LenV K x H n ∧ Q (.int n) H) tA) (eCall (one lenD) al) := by
  subst hK
  exact q_cb call_len sc_len hm ha (hg := hg) (he := he) (hpl := hpl)
theorem q_all {K : PySem.W.Frag} {p : Pos} (hc : X.calm = true) (hm : X.mg "all" = none) (ha : QA X E [e] tA al) (hg : Gl X "all" := by rfl) (he : starEach (e :: []) X.env = (false, eval e X.env) :: starEach [] X.env := by rfl) (hpl : (backTo pos (starEach [] X.env)).any (·.1) = false := by rfl) (hK : X.K = K := by rfl) : QE X E (.Call (.Name "all" p) [e] [] pos) (tCB (rAll K) tA) (eCall (one allD) al) := by
  subst hK
  exact q_cb (cr_all hc) sc_all hm ha (hg := hg) (he := he) (hpl := hpl)
theorem q_tupleOf {K : PySem.W.Frag} {p : Pos} (hm : X.mg "tuple" = none) (ha : QA X E [e] tA al) (hg : Gl X "tuple" := by rfl) (he : starEach (e :: []) X.env = (false, eval e X.env) :: starEach [] X.env := by rfl) (hpl : (backTo pos (starEach [] X.env)).any (·.1) = false := by rfl) (hK : X.K = K := by rfl) : QE X E (.Call (.Name "tuple" p) [e] [] pos) (tCB (fun xs H Q => ∃ p ys, xs = [.ref p] ∧ ((SqL K H p ys ∧ ∀ l, H l = none → Q (.ref l) (upd H l (.tup ys))) ∨ (SqT K H p ys ∧ Q (.ref p) H))) tA) (eCall (one tupleD) al) := by
  subst hK
  exact q_ct call_tuple_of sc_tuple hm ha (hg := hg) (he := he) (hpl := hpl)
theorem q_max1 {K : PySem.W.Frag} {p : Pos} (hc : X.calm = true) (hm : X.mg "max" = none) (ha : QA X E [e] tA al) (hg : Gl X "max" := by rfl) (he : starEach (e :: []) X.env = (false, eval e X.env) :: starEach [] X.env := by rfl) (hpl : (backTo pos (starEach [] X.env)).any (·.1) = false := by rfl) (hK : X.K = K := by rfl) : QE X E (.Call (.Name "max" p) [e] [] pos) (tCB (rMax K) tA) (eCall (one max1) al) := by
  subst hK
  exact q_cb (cr_max hc) sc_max1 hm ha (hg := hg) (he := he) (hpl := hpl)
theorem ql_listOf {K : PySem.W.Frag} {p : Pos} (hm : X.mg "list" = none) (ha : QA X E [e] tA al) (hg : Gl X "list" := by rfl) (he : starEach (e :: []) X.env = (false, eval e X.env) :: starEach [] X.env := by rfl) (hpl : (backTo pos (starEach [] X.env)).any (·.1) = false := by rfl) (hK : X.K = K := by rfl) : QL X E (.Call (.Name "list" p) [e] [] pos) (tCB (fun xs H Q => ∃ p ys, xs = [.ref p] ∧ (SqL K H p ys ∨ SqT K H p ys) ∧ ∀ l, H l = none → Q (.ref l) (upd H l (.lst ys))) tA) (lCall (one listD) al) := by
  subst hK
  exact ql_ct call_list_of sc_list hm ha (hg := hg) (he := he) (hpl := hpl)
end
end CL
namespace CL
open PySem PySem.Spec PyProof.Rows L2
section
variable {X : Cx} {pins : List (Addr × Obj)} {σ : L2.St} {H : Hp} {s sI : Shared}
theorem xo_ok {P : Program} {w : World} {h : Heap} {a : Addr} {cls : Value} {d : Option Addr} {oe : Obj} {vs : Array Value} (e : h.get? a = some oe) (z : Zc cls d oe) (dt : oe.data = .fields vs) : ObjOk P w H h a (XO cls d a) :=
  ⟨⟨oe, e, z, vs, dt⟩, ⟨oe, e⟩, fun _ _ ⟨o, q, r⟩ k => ⟨o, k o q, r⟩⟩
theorem track {a : Addr} {o : HO} {oe : Obj} {vs : Array Value} (J : Inv X pins σ H s) (na : H a = none) (n0 : X.s_0.heap.get? a = none) (nL : a ≠ X.env.locals) (he : s.heap.get? a = some oe) (hd : oe.data = .fields vs) (np : ∀ p ∈ X.pn ++ pins, p.1 ≠ a)
    (new : ObjOk X.prog X.w (upd H a o) s.heap a o) : Inv X pins σ (upd H a o) s := by
  have ne0 : ∀ b u, X.s_0.heap.get? b = some u → b ≠ a := fun b u e z => by rw [z, n0] at e; cases e
  refine ⟨J.ok, J.os, J.bare, ⟨J.base.keep, J.base.slot, fun b u e n hx => ?_, J.base.there, fun b xs e => ?_, fun b u xs e => ?_, fun b ps e => ?_⟩, J.loc, J.cell, ?_, fun x c e => ?_, fun p hp => ?_, fun b u e => ?_, J.len⟩
  · rw [upd_ne (ne0 b u e)]; exact J.base.free b u e n hx
  · have q := J.base.tups b xs e; rw [upd_ne (ne_of_none q na)]; exact q
  · have q := J.base.frzs b u xs e; rw [upd_ne (ne_of_none q na)]; exact q
  · obtain ⟨m, q⟩ := J.base.tbls b ps e; exact ⟨m, by rw [upd_ne (ne_of_none q na)]; exact q⟩
  · rw [upd_ne (Ne.symm nL)]; exact J.free
  · obtain ⟨v, oc, hc, hcd⟩ := J.cell x c e
    have : c ≠ a := fun z => by
      rw [z, he] at hc
      cases hc
      rw [hd] at hcd
      cases hcd
    rw [upd_ne this]; exact J.freeC x c e
  · obtain ⟨e, n, ne, nf, dd⟩ := J.pin p hp
    exact ⟨e, by rw [upd_ne (np p hp)]; exact n, ne, nf, dd⟩
  · by_cases hb : b = a
    · subst hb
      rw [upd_same] at e
      cases e
      exact new
    · rw [upd_ne hb] at e
      exact (J.hok b u e).stay (fun _ _ _ q => q) (fun c q => by rw [upd_ne (ne_of_none q na)]; exact q) fun c xs q => by rw [upd_ne (ne_of_none q na)]; exact q
theorem suite0 (I : Inv X pins σ H s) (a : Addr) : Inv (X.suite a (X.pn ++ pins)) [] σ H s :=
  ⟨I.ok.suite _ _, I.os, I.bare, I.base, I.loc, I.cell, I.free, I.freeC, fun p hp => I.pin p (by rw [List.append_nil] at hp; exact hp), I.hok, I.len⟩
theorem unsuite0 {a : Addr} {pn' : List (Addr × Obj)} (I : Inv (X.suite a (X.pn ++ pins)) pn' σ H s) (ok : X.Ok) : Inv X pins σ H s :=
  ⟨ok, I.os, I.bare, I.base, I.loc, I.cell, I.free, I.freeC, fun p hp => I.pin p (List.mem_append_left _ hp), I.hok, I.len⟩
end
/-- what the clause 'except x as n' wishes; the error is kept -/
def wKeep (K : PySem.W.Frag) (c : Value) (i : Nat) (ts : Addr → Value → Option Addr → TS) (Wout : WX) (D : Ends) : WX := fun cls d σ H =>
  ∃ b, PySem.W.exmOne K cls c = some b ∧ (b = true → ∀ a, H a = none → ts a cls d { nx := fun σ' H' => D.nx (σ'.set i none) H', rt := D.rt, bk := fun σ' H' => D.bk (σ'.set i none) H', ct := fun σ' H' => D.ct (σ'.set i none) H' } (σ.set i (some (.ref a))) (upd H a (XO cls d a))) ∧
    (b = false → Wout cls d σ H)
section
variable {X : Cx} {x n : Str} {c : Value} {i : Nat} {body suite : List Stmt} {b₀ : Stmt} {np pos pos' : Pos} {tb : WX → TS} {ts : Addr → Value → Option Addr → TS} {Wout : WX}
theorem ps_try_keep (hs : X.stack = X.env :: X.outer) (hf : X.env.frame = some X.env.locals) (hex : X.ex = []) (hN : X.N.Nodup) (hi : X.N[i]? = some n) (hln : X.env.kindOf n = some .local) (hc : Names X x c) (tk : Takes X Wout)
    (hb : ∀ (W : WX) (pn : List (Addr × Obj)) (xe : Value → Shared → Prop), Takes (X.tr pn xe) W → PassesOwn (model X.prog X.w) X.A X.env xe → PSs (X.tr pn xe) body (tb W))
    (hsu : ∀ (a : Addr) (cls : Value) (d : Option Addr) (pn : List (Addr × Obj)), PSs (X.suite a pn) (b₀ :: suite) (ts a cls d)) :
    PS X (.Try body [.ExceptHandler (some (.Name x np)) (some n) (b₀ :: suite) pos'] [] [] pos) (fun D σ H => tb (wKeep X.K c i ts Wout D) D σ H) := by
  refine ⟨fun pins s σ H D I h => ?_⟩
  have ok := I.ok
  have hfr : X.A.frames = some (X.env :: X.outer) := by rw [ok.frames, hs]
  have hloc : Loc X.env.scope n := .inl hln
  refine wpAny_Try_except ?_
  refine wpAny_mono ((hb (wKeep X.K c i ts Wout D) (X.pn ++ pins) (fun e s₁ => wpAny (model X.prog X.w) X.A (noteFrame e X.env) (fun _ s₂ => wpAny (model X.prog X.w) X.A (setFlight e none) (fun _ s₃ =>
    wpAny (model X.prog X.w) X.A (handleBy e X.env [.ExceptHandler (some (.Name x np)) (some n) (b₀ :: suite) pos']) (SP X pins D) X.xe s₃) X.xe s₂) X.xe s₁) (fun u s' xx => ?_) PassesOwn.looking).run [] s σ H D (I.toTry _) h) (fun f s1 hsp => ?_) (fun e s1 he => he)
  · -- the catch
    obtain ⟨a, B, sI, pins', σ', H', cls, d, rfl, J', nb, up, sky, na, os, ag, b, hb1, hyes, hno⟩ := xx
    have J : Inv X pins σ' H' sI := J'.ofTry ok
    have sky' : Sky B (X.env :: X.outer) a (Zc cls d) X.env.locals s'.heap := by rw [← hs]; exact sky
    show wpAny (model X.prog X.w) X.A (noteFrame (.ref a) X.env) _ _ _
    refine Sky.land Zc.steady hfr hf sky' fun h3 fl3 up3 => ?_
    have J3 : Inv X pins σ' H' { s' with heap := h3 } := J.landed nb fl3.1 (up.trans up3) os ag
    obtain ⟨oe3, vs3, he3, hz3, hd3⟩ := fl3.there
    have notFr : ∀ {h : Heap} {o : Obj} {vs : Array Value}, h.FunFrames B (X.env :: X.outer) → h.get? a = some o → o.data = .fields vs → a ∉ frs (X.env :: X.outer) := fun {h o vs} ff e dd hm => by
      obtain ⟨_, o', e', hnf⟩ := ff.mem hm
      rw [e] at e'; cases e'
      exact hnf _ dd
    have nfr := notFr fl3.2.2.1 he3 hd3
    have nL : a ≠ X.env.locals := fun z => nfr (List.mem_filterMap.mpr ⟨X.env, List.mem_cons_self, by rw [hf, z]⟩)
    have nF : a ∉ X.fs := fun hm => by
      obtain ⟨e, he, q⟩ := List.mem_filterMap.mp hm
      exact nfr (List.mem_filterMap.mpr ⟨e, List.mem_cons_of_mem _ he, q⟩)
    have nI : sI.heap.get? a = none := by
      cases q : sI.heap.get? a with
      | none => rfl
      | some o =>
        have z := nb a o q (by rw [hs]; exact nfr)
        rw [fl3.2.1] at z
        cases z
    have n0 : X.s_0.heap.get? a = none := by
      cases q : X.s_0.heap.get? a with
      | none => rfl
      | some o =>
        obtain ⟨o', z⟩ := J.base.there a o q (by rw [hex]; exact fun z => nomatch z)
        rw [nI] at z
        cases z
    have npin : ∀ p ∈ X.pn ++ pins, p.1 ≠ a := fun p hp z => by
      obtain ⟨e, _⟩ := J.pin p hp
      rw [z, nI] at e
      cases e
    have S3 := J3.suite he3 hd3 na nL nF
    refine wpAny_handleBy_cons (codeAny_handlers_test ?_) (by intro q; cases q)
    have LT : PySem.W.Looks (model X.prog X.w) h3 (typeOf (.ref a)) cls := fun A Q E s k q => wpAny_typeOf_ref (k _ _ he3) (by rw [hz3.1]; exact q)
    have LM := PySem.W.exm_one (M := model X.prog X.w) (J3.kIn) LT hb1
    have test : ∀ {Q : Value → Shared → Prop} {E : Value → Shared → Prop}, Q c { s' with heap := h3 } → wpAny (model X.prog X.w) (X.A.mark (some (.ref a))) (eval (.Name x np) X.env) Q E { s' with heap := h3 } := fun {Q E} q => by
      obtain ⟨hg, hdbg, hm | ⟨hm, hv, hnn⟩⟩ := hc
      · exact ld_glob (X := X.suite a ((a, oe3) :: (X.pn ++ pins))) S3 hg hm q hdbg
      · exact ld_blt (X := X.suite a ((a, oe3) :: (X.pn ++ pins))) S3 hg hm hv q hnn hdbg
    refine test (LM.here ?_)
    cases b with
    | true =>
      refine codeAny_handlers_suite_as ?_
      refine HandSPX.lands_againZ fl3 fun h4 fl4 up4 => ?_
      have J4 : Inv X pins σ' H' { s' with heap := h4 } := J.landed nb fl4.1 ((up.trans up3).trans up4) os ag
      obtain ⟨oe4, vs4, he4, hz4, hd4⟩ := fl4.there
      have S4 : Inv (X.suite a (X.pn ++ pins)) [] σ' (upd H' a (XO cls d a)) { s' with heap := h4 } := suite0 (track J4 na n0 nL he4 hd4 npin (xo_ok he4 hz4 hd4)) a
      refine store_ok (X := X.suite a (X.pn ++ pins)) (v := .ref a) S4 hN hi hloc rfl (fun s5 S5 => ?_) (.inr hln)
      refine wpAny_mono ((hsu a cls d (X.pn ++ pins)).run [] s5 _ _ _ S5 (hyes rfl a na)) (fun f s6 hsp => ?_) (fun _ _ z => False.elim z)
      have end_ : ∀ {σ6 : L2.St} {H6 : Hp} {Q : Shared → Prop}, Inv (X.suite a (X.pn ++ pins)) [] σ6 H6 s6 → (∀ s7, Inv X pins (σ6.set i none) H6 s7 → Q s7) →
          wpAny (model X.prog X.w) X.A (do bindName X.env n .none; unbindBehindTheSuite X.env n pos') (fun _ s7 => Q s7) X.xe s6 := fun {σ6 H6 Q} S6 hq => gone_ok (unsuite0 S6 ok) hN hi hln hq
      cases f with
      | next =>
        obtain ⟨σ6, H6, S6, q6⟩ := hsp
        exact end_ S6 fun s7 J7 => ⟨_, _, J7, q6⟩
      | brk =>
        obtain ⟨σ6, H6, S6, q6⟩ := hsp
        exact end_ S6 fun s7 J7 => ⟨_, _, J7, q6⟩
      | cont =>
        obtain ⟨σ6, H6, S6, q6⟩ := hsp
        exact end_ S6 fun s7 J7 => ⟨_, _, J7, q6⟩
      | ret u =>
        obtain ⟨v6, σ6, H6, S6, r6, q6⟩ := hsp
        exact end_ S6 fun s7 J7 => ⟨_, _, _, J7, r6, q6⟩
    | false =>
      show wpAny _ X.A (handleBy (.ref a) X.env []) _ _ _
      refine wpAny_handleBy_nil ?_
      obtain ⟨k1, k2, k3, oe, vs, T, oT, ts', he, hz, hd, h1, hr⟩ := id fl3
      unfold PySem.passOn
      refine wpAny_bind (wpAny_field he hd h1 ?_)
      rw [if_neg (show ¬ ((Value.ref T == Value.none) = true) from by simp)]
      have fin : wpAny (model X.prog X.w) X.A (setFlight (.ref a) X.env.frame) (fun _ s4 => wpAny (model X.prog X.w) X.A (throw (.ref a) : Sem Flow) (SP X pins D) X.xe s4) X.xe { s' with heap := h3 } := by
        rw [hf]
        refine HandSPX.setFlight_upZ fl3 fun h4 hh4 up4 => wpAny_throw (tk _ _ ?_)
        exact ⟨a, B, sI, pins, σ', H', cls, d, rfl, J, nb, (up.trans up3).trans up4, .inr (.inr (by rw [hs]; exact hh4)), na, os, ag, hno rfl⟩
      first
        | exact wpAny_bind (wpAny_pure (wpAny_bind fin))
        | exact wpAny_bind fin
  · cases f with
    | next =>
      obtain ⟨σ', H', J', q⟩ := hsp
      exact wpAny_execs_nil ⟨σ', H', J'.ofTry ok, q⟩
    | brk =>
      obtain ⟨σ', H', J', q⟩ := hsp
      exact ⟨σ', H', J'.ofTry ok, q⟩
    | cont =>
      obtain ⟨σ', H', J', q⟩ := hsp
      exact ⟨σ', H', J'.ofTry ok, q⟩
    | ret u =>
      obtain ⟨v, σ', H', J', r, q⟩ := hsp
      exact ⟨v, σ', H', J'.ofTry ok, r, q⟩
end
end CL
namespace CL
open PySem PySem.Spec PyProof.Rows L2
def mRaise (c : Str) : Sl → Mo Fl := fun _ st => .exc c [] st
section
variable {X : Cx} {E : L2.St → XK}
theorem qs_raise {K : PySem.W.Frag} {x m : Str} {j : Nat} {p p2 pos pos2 : Pos} (hc : X.calm = true) (tk : Takes X (fun cls d σ H => E σ cls d H)) (hq : (He.Fa.exc x).ok K = true) (gC : X.mg x = some (.ref (He.ga K x))) (hg : Gl X x := by rfl) (hdb : (x == ("__debug__" : Str)) = false := by decide) (hK : X.K = K := by rfl) :
    QS X E (.Raise (some (.Call (.Name x p) [.Constant (.str m) j p2] [] pos)) none pos2) (fun _ σ H => E σ (.ref (He.ga K x)) none H) (mRaise x) := by
  subst hK
  obtain ⟨q1, q2, q3, q4⟩ := He.exc_ok hq
  exact ⟨ps_raise hc tk (pmk_own PySem.F.excBase_ValueError q1 gC q2 (raises_own q3 q4) hg hdb), fun w ro σ D e h => h w.io w.H (Ext.refl w) e.emb σ none rfl⟩
end
def SSx (K : PySem.W.Frag) (E : L2.St → XK) (ts : TS) (m : Sl → Mo Fl) : Prop := ∀ (w : Wd) (ro : Sl) (σ : L2.St) (D : Ends), En K w ro σ →
  Run K w (m ro w.st) (OkF K D) (XP K (E σ)) → ts D σ w.H
structure QX (X : Cx) (E : L2.St → XK) (s : Stmt) (ts : TS) (m : Sl → Mo Fl) : Prop where
  ps : PS X s ts
  ss : SSx X.K E ts m
section
variable {X : Cx} {E : L2.St → XK} {e c : Expr} {te : TE} {ma : Sl → Mo Da} {pos : Pos} {tt : TT} {mp : Sl → Mo Bool} {s1 s2 : Stmt} {ts tu : TS} {m n : Sl → Mo Fl}
theorem qx_set (i : Nat) {x : Str} {pos' : Pos} (hN : X.N.Nodup) (ha : QE X E e te ma) (hi : X.N[i]? = some x := by rfl) (hx : Loc X.env.scope x := by first | exact Or.inl rfl | exact Or.inr rfl) (hs : swapsWith e (some (.Name x pos')) pos.line X.env = pure false := by rfl) (hf : X.fn x = true ∨ X.env.scope.names.lookup x = some .local := by first | exact .inl rfl | exact .inr rfl | assumption) :
    QX X E (.Assign [.Name x pos'] e pos) (tAsg te (gName i)) (mSet i ma) := ⟨ps_set hN hi hx ha.pe hs hf, fun w ro σ D e h =>
  ha.se w ro σ _ e (h.bind.mono (fun d w1 x1 p1 m1 k v rv => k.here m1 _ ((e.mono x1 m1).set rv)) fun _ _ _ z => z)⟩
end
def mTry (cs : List Str) (i j : Nat) (b : Sl → Mo Fl) : Sl → Mo Fl := fun ro st => match b ro st with
  | .exc c as st' => if c ∈ cs ∧ i < ro.length ∧ as = [] then .ok (.nx ((ro.set i none).set j (some (.han st'.length)))) (st' ++ [.exn c]) else .bad
  | r => r
theorem En.unset {K : PySem.W.Frag} {w : Wd} {ro : Sl} {σ : L2.St} (e : En K w ro σ) (i : Nat) : En K w (ro.set i none) (σ.set i none) := by
  refine ⟨e.emb, by simp [e.len], fun j x h => ?_⟩
  by_cases hj : j = i
  · subst hj
    rw [List.getElem?_set] at h
    simp only [if_true] at h
    split at h <;> cases h
  · rw [List.getElem?_set_ne (Ne.symm hj)] at h
    obtain ⟨u, h1, h2⟩ := e.slot j x h
    exact ⟨u, by rw [List.getElem?_set_ne (Ne.symm hj)]; exact h1, h2⟩
section
variable {X : Cx} {E : L2.St → XK} {s : Stmt} {tb : WX → TS} {mb : Sl → Mo Fl} {pos pos' np mp p2 p3 : Pos}
theorem qs_try {K : PySem.W.Frag} {cs : List Str} {x n m : Str} (i j : Nat) (hs : X.stack = X.env :: X.outer) (hf : X.env.frame = some X.env.locals) (hex : X.ex = []) (hN : X.N.Nodup) (hcs : ∀ c ∈ cs, PySem.W.exmOne K (.ref (He.ga K c)) (.ref (He.ga K x)) = some true) (hm : X.mg x = some (.ref (He.ga K x)))
    (hb : ∀ (W : WX) (pn : List (Addr × Obj)) (xe : Value → Shared → Prop), Takes (X.tr pn xe) W → QX (X.tr pn xe) (WE W) s (tb W) mb)
    (hi : X.N[i]? = some n := by rfl) (hj : X.N[j]? = some m := by rfl) (hij : i ≠ j := by decide) (hln : X.env.kindOf n = some .local := by rfl) (hlm : Loc X.env.scope m := by first | exact Or.inl rfl | exact Or.inr rfl) (hg : Gl X x := by rfl) (hdb : (x == ("__debug__" : Str)) = false := by decide)
    (hv : Vis X.env.scope n := by first | exact Or.inl rfl | exact Or.inr (Or.inl rfl) | exact Or.inr (Or.inr rfl)) (hd : (n == ("__debug__" : Str)) = false := by decide) (hcd : (n == ("__classdict__" : Str)) = false := by decide)
    (hsw : ∀ a : Addr, ∀ pn, swapsWith (.Name n p2) (some (.Name m mp)) p3.line (X.suite a pn).env = pure false := by intro _ _; rfl) (hfn : X.fn m = true ∨ X.env.scope.names.lookup m = some .local := by first | exact .inl rfl | exact .inr rfl | assumption) (hK : X.K = K := by rfl) :
    QS X E (.Try [s] [.ExceptHandler (some (.Name x np)) (some n) [.Assign [.Name m mp] (.Name n p2) p3] pos'] [] [] pos) (fun D σ H => tb (wKeep K (.ref (He.ga K x)) i (fun _ _ _ => tAsg (tVar i) (gName j)) (fun _ _ _ _ => False) D) D σ H) (mTry cs i j mb) := by
  subst hK
  refine ⟨ps_try_keep (tb := tb) hs hf hex hN hi hln ⟨hg, hdb, .inl hm⟩ (fun _ _ ⟨_, _, _, _, _, _, _, _, _, _, _, _, _, _, _, _, w⟩ => w.elim) (fun W pn xe t po => pss_one (hb W pn xe t).ps) (fun a cls d pn => pss_one (ps_set (X := X.suite a pn) hN hj hlm (pe_var hi hv hd hcd) (hsw a pn) hfn)), ?_⟩
  intro w ro σ D e h
  have key := (hb (wKeep X.K (.ref (He.ga X.K x)) i (fun _ _ _ => tAsg (tVar i) (gName j)) (fun _ _ _ _ => False) D) [] (fun _ _ => True) (fun _ _ _ => trivial)).ss
  refine key w ro σ D e ?_
  unfold mTry at h
  cases q : mb ro w.st with
  | bad => rw [q] at h; exact h
  | ok f st' => rw [q] at h; exact h
  | exc c as st' =>
    rw [q] at h
    dsimp only at h
    by_cases hc : c ∈ cs ∧ i < ro.length ∧ as = []
    · rw [if_pos hc] at h
      obtain ⟨hc1, hc2, rfl⟩ := hc
      intro io H x1 m1 dd hd
      have hdd : dd = none := hd
      subst hdd
      refine ⟨true, hcs c hc1, fun _ a ha => ?_, fun z => nomatch z⟩
      have m2 : Em X.K ((⟨io, st', H, w.pv⟩ : Wd).push a (XO (.ref (He.ga X.K c)) none a) (.exn c)) := m1.push ha upd_same
      have x2 : Ext (⟨io, st', H, w.pv⟩ : Wd) ((⟨io, st', H, w.pv⟩ : Wd).push a (XO (.ref (He.ga X.K c)) none a) (.exn c)) := Ext.push m1 ha
      have e2 := ((e.mono x1 m1).mono x2 m2).set (i := i) (v := .ref a) (d := .han st'.length) (.han (push_at m1))
      refine (ss_set (E := E) s_var) _ _ _ _ e2 ?_
      have hget : (ro.set i (some (Da.han st'.length)))[i]? = some (some (.han st'.length)) := List.getElem?_set_self hc2
      have hrun : mSet j (eVar i) (ro.set i (some (.han st'.length))) (st' ++ [.exn c]) = .ok (.nx ((ro.set i (some (.han st'.length))).set j (some (.han st'.length)))) (st' ++ [.exn c]) := by
        unfold mSet bnd eVar
        rw [hget]
        rfl
      show Run X.K _ (mSet j (eVar i) (ro.set i (some (.han st'.length))) (st' ++ [.exn c])) _ _
      rw [hrun]
      intro io' H' x3 m3 σ' e3
      have e4 := e3.unset i
      have el : ((ro.set i (some (Da.han st'.length))).set j (some (.han st'.length))).set i none = (ro.set i none).set j (some (.han st'.length)) := by
        rw [List.set_comm _ _ (Ne.symm hij), List.set_set]
      rw [el] at e4
      exact h io' H' ((x1.trans x2).trans x3) m3 _ e4
    · rw [if_neg hc] at h
      exact h.elim
end
end CL
namespace CL
open PySem PySem.Spec PyProof.Rows L2
/-- what is asked of a class of errors of one's own -/
def exB (c : Str) (K : PySem.W.Frag) : Bool := (PySem.W.clsIn K (He.ga K c)).isSome && (decide (PySem.W.findIn K (.ref (He.ga K c)) "__getattribute__" = some (some (.builtin "BaseException.__getattribute__"))) && ((PySem.W.findIn K (.ref (He.ga K c)) "__getattr__").isSome && (decide (PySem.W.subIn K (.ref (He.ga K c)) (.type "BaseException") = some true) && (decide (PySem.W.findIn K (.ref (He.ga K c)) "__class__" = some (some (.builtin "object.__class__"))) && (decide (PySem.W.specialIn K (.builtin "object.__class__") "__get__" = some (some (.builtin "getset_descriptor.__get__"))) && (decide (PySem.W.takesIn K (.builtin "object.__class__") = some true) && decide (PySem.W.mroIn K (He.ga K c) (.type "object") = some true)))))))
/-- the answers: for each class of errors, whether it is one of C -/
def kitB (c : Str) (u : Value) (b : Bool) (K : PySem.W.Frag) : Bool := decide (PySem.W.kitOne K (.ref (He.ga K c)) u = some b)
theorem kit_exn {K : PySem.W.Frag} {c : Str} {a : Addr} {oe : Obj} (h : exB c K = true) : PySem.W.KitX K (.ref a) (.ref (He.ga K c)) (fun h => PySem.W.InstAt h a oe (He.ga K c) none) := by
  unfold exB at h
  simp only [Bool.and_eq_true, decide_eq_true_eq] at h
  obtain ⟨h1, h2, h3, h4, h5, h6, h7, h8⟩ := h
  obtain ⟨gt, hg⟩ := Option.isSome_iff_exists.mp h3
  exact PySem.W.kitx_exc h1 h2 hg h4 h5 h6 h7 h8
def rIsX (K : PySem.W.Frag) : List V → Hp → VK → Prop := fun xs H Q => ∃ (a : Addr) (cv : V) (u : Value) (c : Str) (b : Bool), xs = [.ref a, cv] ∧ ClsV cv u ∧ H a = some (XO (.ref (He.ga K c)) none a) ∧ exB c K = true ∧ PySem.W.kitOne K (.ref (He.ga K c)) u = some b ∧ Q (.bl b) H
theorem call_isX {X : Cx} : CallR X (.builtin "isinstance") (rIsX X.K) := by
  intro pins s σ H xs us Q I r h
  obtain ⟨a, cv, u, c, b, rfl, k, ha, hx, e, q⟩ := h
  obtain ⟨u1, u2, rfl, r1, r2⟩ := vals2 r
  have e2 := k.eq r2
  subst e2
  cases (show u1 = Value.ref a from r1)
  obtain ⟨⟨oe, h1, ⟨h2, h3⟩, vs, h4⟩, _⟩ := (show ObjOk X.prog X.w H s.heap a (XO _ none a) from I.hok a _ ha)
  refine PySem.W.kia_one (kit_exn (oe := oe) hx) I.kIn ⟨h1, h2, ?_, ?_⟩ e (fun z => nomatch z) fun tk => ⟨.bl b, H, I.tok tk, rfl, q⟩
  · unfold PySem.W.notCls; rw [h4]
  · rw [h3]; trivial
/-- the word: tab tells the answer for each class of errors -/
def isX (tab : List (Str × Bool)) (d : Da) : Mo Da := fun st => match d with
  | .han n => (match st[n]? with
    | some (.exn c) => (match tab.lookup c with
      | some b => .ok (.bl b) st
      | none => .bad)
    | _ => .bad)
  | _ => .bad
theorem lookup_mem {α : Type} {tab : List (Str × α)} {c : Str} {b : α} (h : tab.lookup c = some b) : (c, b) ∈ tab := by
  induction tab with
  | nil => cases h
  | cons x r ih =>
    obtain ⟨k, v⟩ := x
    rw [List.lookup_cons] at h
    by_cases z : (c == k) = true
    · rw [z] at h
      cases h
      have : c = k := by simpa using z
      rw [this]
      exact List.mem_cons_self
    · have z' : (c == k) = false := by simpa using z
      rw [z'] at h
      exact List.mem_cons_of_mem _ (ih h)
theorem sx_isX {K : PySem.W.Frag} {tab : List (Str × Bool)} {u : Value} {cv : V} (k : ClsV cv u) (ht : ∀ p ∈ tab, exB p.1 K = true ∧ kitB p.1 u p.2 K = true) : ∀ (w : Wd) (x : V) (d : Da) (Q : VK) (ex : Str → List Da → Wd → Prop), Em K w → Rep K w x d → Run K w (isX tab d w.st) (OkV K Q) ex → rIsX K [x, cv] w.H Q := fun w x d Q ex m rx h => by
  unfold isX at h
  cases d with
  | han n =>
    cases rx with
    | han ha =>
      dsimp only at h
      cases q : w.st[n]? with
      | none => rw [q] at h; exact h.elim
      | some cc =>
        rw [q] at h
        cases cc with
        | exn c =>
          dsimp only at h
          cases q2 : tab.lookup c with
          | none => rw [q2] at h; exact h.elim
          | some b =>
            rw [q2] at h
            obtain ⟨h1, h2⟩ := ht _ (lookup_mem q2)
            exact ⟨_, cv, u, c, b, rfl, k, m.cell n _ _ ha q, h1, of_decide_eq_true h2, h.here m _ (.bl b)⟩
        | lst xs => exact h.elim
        | ins c fs => exact h.elim
        | dK kvs => exact h.elim
        | dead => exact h.elim
  | non => exact h.elim
  | bl b => exact h.elim
  | int i => exact h.elim
  | str s => exact h.elim
  | tup xs => exact h.elim
  | lst xs => exact h.elim
  | fro xs => exact h.elim
section
variable {X : Cx} {E : L2.St → XK} {a : Expr} {ta : TE} {ma : Sl → Mo Da} {pos : Pos}
/-- a class of one's own -/
theorem q_isX {K : PySem.W.Frag} {p p3 : Pos} {C : Str} {tab : List (Str × Bool)} (hm : X.mg "isinstance" = none) (hC : X.mg C = some (.ref (He.ga K C))) (ht : ∀ p ∈ tab, exB p.1 K = true ∧ kitB p.1 (.ref (He.ga K C)) p.2 K = true) (ha : QE X E a ta ma) (hg : Gl X "isinstance" := by rfl) (hgC : Gl X C := by rfl) (hd : (C == ("__debug__" : Str)) = false := by decide)
    (hs : starEach (a :: [.Name C p3]) X.env = (false, eval a X.env) :: starEach [.Name C p3] X.env := by rfl) (hs2 : starEach (.Name C p3 :: []) X.env = (false, eval (.Name C p3) X.env) :: starEach [] X.env := by rfl) (hpl : (backTo pos (starEach [.Name C p3] X.env)).any (·.1) = false := by rfl) (hK : X.K = K := by rfl) :
    QE X E (.Call (.Name "isinstance" p) [a, .Name C p3] [] pos) (tCB (rIsX K) (tCons ta (tCons (tC (.ref (He.ga K C))) tNil))) (e1 (isX tab) ma) := by
  subst hK
  exact ⟨pe_callB call_isX hg hm (by decide +kernel) (pa_cons ha.pe (pa_cons (pe_glob hgC hC rfl hd) pa_nil hs2) hs) (by decide) (by decide) hs hpl, fun w ro σ Q e h =>
    ha.se w ro σ _ e (h.bind.mono (fun d w1 x1 p1 m1 k v rv => sx_isX (.own _) ht w1 v d Q _ m1 rv k) fun _ _ _ z => z)⟩
/-- a built-in class -/
theorem q_isXb {K : PySem.W.Frag} {p p3 : Pos} {C : Str} {T : String} {tab : List (Str × Bool)} (hm : X.mg "isinstance" = none) (hC : X.mg C = none) (ht : ∀ p ∈ tab, exB p.1 K = true ∧ kitB p.1 (.type T) p.2 K = true) (ha : QE X E a ta ma) (hv : bootBuiltins C = some (.type T) := by decide +kernel) (hg : Gl X "isinstance" := by rfl) (hgC : Gl X C := by rfl) (hn : C ≠ "__name__" := by decide) (hd : (C == ("__debug__" : Str)) = false := by decide)
    (hs : starEach (a :: [.Name C p3]) X.env = (false, eval a X.env) :: starEach [.Name C p3] X.env := by rfl) (hs2 : starEach (.Name C p3 :: []) X.env = (false, eval (.Name C p3) X.env) :: starEach [] X.env := by rfl) (hpl : (backTo pos (starEach [.Name C p3] X.env)).any (·.1) = false := by rfl) (hK : X.K = K := by rfl) :
    QE X E (.Call (.Name "isinstance" p) [a, .Name C p3] [] pos) (tCB (rIsX K) (tCons ta (tCons (tC (.ty T)) tNil))) (e1 (isX tab) ma) := by
  subst hK
  exact ⟨pe_callB call_isX hg hm (by decide +kernel) (pa_cons ha.pe (pa_cons (pe_bltn hgC hC hv rfl hn hd) pa_nil hs2) hs) (by decide) (by decide) hs hpl, fun w ro σ Q e h =>
    ha.se w ro σ _ e (h.bind.mono (fun d w1 x1 p1 m1 k v rv => sx_isX (.ty _) ht w1 v d Q _ m1 rv k) fun _ _ _ z => z)⟩
end
end CL
namespace CL
open PySem PySem.Spec PyProof.Rows L2
def rCountD (K : PySem.W.Frag) : V → List V → Hp → VK → Prop := fun x xs H Q => ∃ (a : Addr) (y : V) (d : PyData) (ds : List PyData), x = V.ref a ∧ xs = [y] ∧ Dp K H (V.ref a) (.list ds) ∧ Dp K H y d ∧
  SeqAt.shaped (.list ds) = true ∧ SeqAt.shaped d = true ∧ Q (.int ((ds.countP fun z => PyData.eqv z d : Nat) : Int)) H
theorem mt_countD {X : Cx} (hu : X.A.units + 65 < cLine) : MtR X "list.count" (rCountD X.K) := by
  intro pins s σ H x xs v us Q I rx rxs h
  obtain ⟨a, y, d, ds, rfl, rfl, hl, hy, sl, sd, q⟩ := h
  cases rx
  cases rxs with
  | cons ry rt =>
    rename_i uy ut
    cases rt
    obtain ⟨bs, r1⟩ := Dp.reads I d y uy hy ry
    have hxs : PyData.canLayAll0 ds = true := SeqAt.canLay_of_shaped sl
    have hroom : X.A.units + 1 + min (PyData.depthAll ds) d.depth < cLine := room_in_shaped sd hu
    cases hl with
    | lst hs ha =>
      obtain ⟨its, rv, ⟨⟨cls, dd, data, sls⟩, n, ho, hc, hdn, hdt⟩, hlen⟩ := I.list hs
      simp only at hc hdt
      subst hc hdt
      obtain ⟨as, h4⟩ := Dp.readsAll I ds _ its ha rv
      have hmap : its.map (SeqAt.readOf s.heap) = ds := SeqAt.readsAll_map ds its as hxs h4
      refine call_meets PySem.F.slot_list_count ⟨_, ho, rfl⟩ PySem.F.entry_list_count (PySem.F.args_list_count_2 _ _)
        (SeqAt.list_countAt a its.toArray n dd sls uy (fun u => PyData.eqv (SeqAt.readOf s.heap u) d)) ⟨ho, SeqAt.items_eqAt (vs := its.toArray) (show ReadsAll s.heap its.toArray.toList ds as from h4) r1 hxs (SeqAt.canLay_of_shaped sd) hroom, ?_⟩
      have e : (its.countP fun u => PyData.eqv (SeqAt.readOf s.heap u) d) = ds.countP fun z => PyData.eqv z d := by
        rw [← hmap, List.countP_map]
        rfl
      have q' : Q (.int ((its.countP fun u => PyData.eqv (SeqAt.readOf s.heap u) d : Nat) : Int)) H := by rw [e]; exact q
      exact ⟨.int ((its.countP fun u => PyData.eqv (SeqAt.readOf s.heap u) d : Nat) : Int), H, I.tok _, ⟨_, rfl⟩, q'⟩
def countD (d x : Da) : Mo Da := fun st => match pyD st d, pyD st x with
  | some (.list qs), some p => if (SeqAt.shaped (.list qs) && SeqAt.shaped p) = true then .ok (.int ((qs.countP fun z => PyData.eqv z p : Nat) : Int)) st else .bad
  | _, _ => .bad
def eCount (a b : Sl → Mo Da) : Sl → Mo Da := fun ro => bnd (a ro) fun d => bnd (isLs d) fun _ => bnd (b ro) fun x => countD d x
section
variable {K : PySem.W.Frag} {E : L2.St → XK} {ta tb : TE} {a b : Sl → Mo Da}
theorem s_count (ha : SE K E ta a) (hb : SE K E tb b) : SE K E (tBM K "list" (rCountD K) ta (tCons tb tNil)) (eCount a b) := fun w ro σ Q e h =>
  ha w ro σ _ e (h.bind.mono (fun d w1 x1 p1 m1 k v rv => by
    obtain ⟨ty, k2⟩ := isLs_run m1 rv k.bind
    refine ⟨ty, hb w1 ro σ _ (e.mono x1 m1) (k2.bind.mono (fun x w2 x2 p2 m2 k3 u ru => ?_) fun _ _ _ z => z)⟩
    have rv2 := rv.mono m1 x2
    unfold countD at k3
    split at k3
    · rename_i qs p hq hp
      split at k3
      · rename_i hs
        obtain ⟨s1, s2⟩ := Bool.and_eq_true_iff.mp hs
        have d1 := dp_py m2 rv2 hq
        have d2 := dp_py m2 ru hp
        have hv : ∃ q, v = .ref q := by
          cases d1
          exact ⟨_, rfl⟩
        obtain ⟨q, rfl⟩ := hv
        exact ⟨q, u, p, qs, rfl, rfl, d1, d2, s1, s2, k3.here m2 _ (.int _)⟩
      · exact k3.elim
    · exact k3.elim) fun _ _ _ z => z)
end
section
variable {X : Cx} {E : L2.St → XK} {pos : Pos}
theorem q_count {a b : Expr} {ta tb : TE} {ma mb : Sl → Mo Da} {K : PySem.W.Frag} {apos : Pos} (hu : X.A.units + 65 < cLine) (ha : QE X E a ta ma) (hb : QE X E b tb mb) (hbase : attributeBase a "count" X.env (eval a X.env) = eval a X.env := by rfl)
    (hfew : ((backTo pos (starEach (b :: []) X.env)).all (fun x => !x.1) && (backToKw pos (keywordEach [] X.env)).all (fun x => x.1.isSome) && decide ((b :: []).length + ([] : List Keyword).length + (if ([] : List Keyword).isEmpty then 0 else 1) < 30)) = true := by rfl) (hline : (apos.endLine == pos.line) = true := by rfl) (hs : starEach (b :: []) X.env = (false, eval b X.env) :: starEach [] X.env := by rfl) (hpl : (backTo pos (starEach [] X.env)).any (·.1) = false := by rfl) (hK : X.K = K := by rfl) :
    QE X E (.Call (.Attribute a "count" apos) [b] [] pos) (tBM K "list" (rCountD K) ta (tCons tb tNil)) (eCount ma mb) := by
  subst hK
  exact ⟨pe_bm PySem.F.plainAttrs_list PySem.F.slot_list_count PySem.F.type_list_count (mt_countD hu) ha.pe (pa_cons hb.pe pa_nil hs) hbase hfew hline hs hpl, s_count ha.se hb.se⟩
end
def kAll (u : PySem.W.Frag → Value) (tab : List (Str × Bool)) (K : PySem.W.Frag) : Bool := tab.all fun p => exB p.1 K && kitB p.1 (u K) p.2 K
theorem kAll_ok {u : PySem.W.Frag → Value} {tab : List (Str × Bool)} {K : PySem.W.Frag} (h : kAll u tab K = true) : ∀ p ∈ tab, exB p.1 K = true ∧ kitB p.1 (u K) p.2 K = true := fun p hp =>
  Bool.and_eq_true_iff.mp (List.all_eq_true.mp h p hp)
def mAll (x : Str) (cs : List Str) (K : PySem.W.Frag) : Bool := cs.all fun c => decide (PySem.W.exmOne K (.ref (He.ga K c)) (.ref (He.ga K x)) = some true)
theorem mAll_ok {x : Str} {cs : List Str} {K : PySem.W.Frag} (h : mAll x cs K = true) : ∀ c ∈ cs, PySem.W.exmOne K (.ref (He.ga K c)) (.ref (He.ga K x)) = some true := fun c hc =>
  of_decide_eq_true (List.all_eq_true.mp h c hc)
theorem kbindsE {K : PySem.W.Frag} {x qual : Str} {params : Arguments} {body : List Stmt} {scope : Scope} {kws : List (Str × V)} {f : Addr} {fd : FuncData} {ps : List Str} (F : FunD K x qual params body scope [] kws f fd) (n : Nat) (ks : List Str) (g : {α : Type} → List α → List α → List α → List α)
    (hrel : ∀ {vs mz zs : List V} {us mv ws : List Value}, Vals vs us → Vals mz mv → Vals zs ws → Vals (g vs mz zs) (g us mv ws))
    (h : ∀ (kV doc pm : Value) (an : Option Addr) (cdv ct : Value) (us ws : List Value), us.length = n → ws.length = ks.length → bindArgs (PySem.W.fnOf x qual params body scope .none kV doc pm an cdv ct) ⟨us, ks.zip ws⟩ = pure (ps.zip (g us [] ws))) :
    ∃ mv : List Value, KBn K fd ps n ks (fun us ws => g us mv ws) (fun vs zs => g vs (([] : List (Str × V)).map (·.2)) zs) := by
  obtain ⟨oc, od, dV, kV, doc, pm, an, cdv, ct, osl, rfl, lk, hcd, hD, hK⟩ := F.ex
  rcases hD with ⟨_, rfl⟩ | ⟨e, _⟩
  · exact ⟨[], ⟨fun s us ws X l1 l2 => BindsTo.of_looks fun M => .of_pure (h kV doc pm an cdv ct us ws l1 l2), fun r1 r2 => hrel r1 .nil r2⟩⟩
  · exact absurd rfl e
end CL
namespace CL
open PySem PySem.Spec PyProof.Rows L2
abbrev ZR (h : Heap) (z ti to_ : Addr) (g : Value) (b : Bool) : Prop :=
  h.get? z = some { cls := .type "zip", dict := none, data := .fields #[g, .bool b, .bool false, .ref ti, .ref to_], slots := #[] }
def ZS (h : Heap) (z ti to_ : Addr) : Prop := ∃ (g : Value) (b : Bool), ZR h z ti to_ g b ∧ (g = .none ∨ ∃ q : Addr, g = rawInt q)
section
end
end CL
namespace CL
open PySem PySem.Spec PyProof.Rows L2
def EzSt (e z ti to_ j1 j2 a b : Addr) (i : Nat) (h : Heap) : Prop :=
  (∃ old, IsEnum h e z ((i : Nat) : Int) old) ∧ ZS h z ti to_ ∧ IsPair h ti (.ref j1) (.ref j2) ∧ (∃ x y, IsPair h to_ x y) ∧ h.IsListIter j1 a i ∧ h.IsListIter j2 b i
theorem EzSt.at {e z ti to_ j1 j2 a b : Addr} {i : Nat} {h h' : Heap} (st : EzSt e z ti to_ j1 j2 a b i h) (k : ∀ c ∈ [e, z, ti, to_, j1, j2], ∀ o, h.get? c = some o → h'.get? c = some o) : EzSt e z ti to_ j1 j2 a b i h' := by
  obtain ⟨⟨old, he⟩, ⟨g, f, hz, hg⟩, ht, ⟨x, y, ho⟩, h1, h2⟩ := st
  exact ⟨⟨old, k e (by simp) _ he⟩, ⟨g, f, k z (by simp) _ hz, hg⟩, k ti (by simp) _ ht, ⟨x, y, k to_ (by simp) _ ho⟩, h1.at fun o q => k j1 (by simp) o q, h2.at fun o q => k j2 (by simp) o q⟩
end CL
namespace CL
open PySem PySem.Spec PyProof.Rows L2
def enumL (k : Nat) : List Da → List Da
  | [] => []
  | x :: r => .tup [.int k, x] :: enumL (k + 1) r
def zipL : List Da → List Da → List Da
  | x :: r, y :: s => .tup [x, y] :: zipL r s
  | _, _ => []
def srcE : List Da → Mo Src
  | [.lst xs] => ret ⟨enumL 0 xs, none⟩
  | _ => nop
def srcZ : List Da → Mo Src
  | [.lst xs, .lst ys] => ret ⟨zipL xs ys, none⟩
  | _ => nop
def srcEZ : List Da → Mo Src
  | [.lst xs, .lst ys] => ret ⟨enumL 0 (zipL xs ys), none⟩
  | _ => nop
def iE (a : Sl → Mo (List Da)) : Sl → Mo Src := fun ro => bnd (a ro) srcE
def iZ (a : Sl → Mo (List Da)) : Sl → Mo Src := fun ro => bnd (a ro) srcZ
def iEZ (a : Sl → Mo (List Da)) : Sl → Mo Src := fun ro => bnd (a ro) srcEZ
section
end
section
end
def mPar3 (i j k : Nat) (a : Sl → Mo (List Da)) : Sl → Mo Fl := fun ro => bnd (a ro) fun ds => match ds with
  | [d, e, f] => ret (.nx (((ro.set i (some d)).set j (some e)).set k (some f)))
  | _ => nop
section
end
end CL
namespace CL
open PySem PySem.Spec PyProof.Rows L2
section
end
def mFlds2 (cs1 : List Str) (f1 : Str) (o1 : Sl → Mo Da) (cs2 : List Str) (f2 : Str) (o2 : Sl → Mo Da) (al : Sl → Mo (List Da)) : Sl → Mo Fl := fun ro => bnd (eTup al ro) fun t => match t with
  | .tup [x, y] => bnd (o1 ro) fun p => bnd (setFD cs1 f1 p x) fun _ => bnd (o2 ro) fun q => bnd (setFD cs2 f2 q y) fun _ => ret (.nx ro)
  | _ => nop
section
end
def getL (d k : Da) : Mo Da := fun st => match d, k with
  | .han n, .int j => (match st[n]? with
    | some (.lst xs) => (match atI xs j with
      | some x => .ok x st
      | none => .bad)
    | _ => .bad)
  | _, _ => .bad
def mAugI (o i : Sl → Mo Da) (f : Int → Int → Int) (v : Sl → Mo Da) : Sl → Mo Fl := fun ro => bnd (o ro) fun d => bnd (i ro) fun k => bnd (getL d k) fun x => bnd (v ro) fun y => match x, y with
  | .int p, .int q => bnd (setD d k (.int (f p q))) fun _ => ret (.nx ro)
  | _, _ => nop
section
end
end CL
namespace CL
open PySem PySem.Spec PyProof.Rows L2
def dGet (kvs : List (Key × Da)) (k : Key) : Option Da := match kvs with
  | [] => none
  | (j, d) :: r => if j = k then some d else dGet r k
def dPut (kvs : List (Key × Da)) (k : Key) (d : Da) : List (Key × Da) := match kvs with
  | [] => [(k, d)]
  | (j, x) :: r => if j = k then (j, d) :: r else (j, x) :: dPut r k d
section
variable {K : PySem.W.Frag} {w : Wd}
theorem RepK.get : ∀ {vs : List (Key × V)} {ds : List (Key × Da)} {k : Key} {d : Da}, RepK K w vs ds → dGet ds k = some d → ∃ v, valV vs k = some v ∧ Rep K w v d
  | _, _, k, d, .nil, e => by cases e
  | _, _, k, d, .cons (f := j) h t, e => by
    unfold dGet at e
    by_cases q : j = k
    · rw [if_pos q] at e
      cases e
      exact ⟨_, valV_pos q, h⟩
    · rw [if_neg q] at e
      rw [valV_neg (by exact q)]
      exact t.get e
theorem RepK.keys : ∀ {vs : List (Key × V)} {ds : List (Key × Da)}, RepK K w vs ds → vs.map (·.1) = ds.map (·.1)
  | _, _, .nil => rfl
  | _, _, .cons h t => by simp [t.keys]
theorem RepK.length {vs : List (Key × V)} {ds : List (Key × Da)} (r : RepK K w vs ds) : vs.length = ds.length := by
  have := congrArg List.length r.keys
  simpa using this
theorem map_out {α : Type} : ∀ (vs : List (Key × α)) (k : Key) (v : α), k ∉ vs.map (·.1) → vs.map (fun kv => if kv.1 = k then (kv.1, v) else kv) = vs
  | [], _, _, _ => rfl
  | (j, x) :: r, k, v, h => by
    have h1 : j ≠ k := fun z => h (by simp [z])
    have h2 : k ∉ r.map (·.1) := fun z => h (by rw [List.map_cons]; exact List.mem_cons_of_mem _ z)
    simp [h1, map_out r k v h2]
theorem RepK.put {x : V} {d : Da} {k : Key} (hx : Rep K w x d) : ∀ {vs : List (Key × V)} {ds : List (Key × Da)}, RepK K w vs ds → (ds.map (·.1)).Nodup → RepK K w (putK vs k x) (dPut ds k d)
  | _, _, .nil, _ => by
    unfold putK dPut
    exact .cons hx .nil
  | _, _, .cons (f := j) (vs := vs) (ds := ds) (v := v) h t, nd => by
    have nd2 : (ds.map (·.1)).Nodup := by simp at nd; simpa using nd.2
    unfold dPut
    by_cases q : j = k
    · rw [if_pos q]
      unfold putK
      rw [if_pos (by simp [q])]
      have out : k ∉ vs.map (·.1) := by
        rw [t.keys, ← q]
        simp at nd
        simpa using nd.1
      rw [List.map_cons, map_out vs k x out, if_pos q]
      exact .cons hx t
    · rw [if_neg q]
      have ih := RepK.put (k := k) hx t nd2
      unfold putK at ih ⊢
      have ea : ((j, v) :: vs).any (fun kv => decide (kv.1 = k)) = vs.any (fun kv => decide (kv.1 = k)) := by simp [q]
      rw [ea]
      split
      · rename_i ha
        rw [if_pos ha] at ih
        rw [List.map_cons, if_neg q]
        exact .cons h ih
      · rename_i ha
        rw [if_neg ha] at ih
        exact .cons h ih
end
def eDict : Sl → Mo Da := fun _ st => .ok (.han st.length) (st ++ [.dK []])
def setK (d k x : Da) : Mo Unit := fun st => match d, k with
  | .han n, .int i => (match st[n]? with
    | some (.dK kvs) => if kvs.length < szD ∧ (kvs.map (·.1)).Nodup then .ok () (st.set n (.dK (dPut kvs (.inl i) x))) else .bad
    | _ => .bad)
  | _, _ => .bad
def mPutK (v o i : Sl → Mo Da) : Sl → Mo Fl := fun ro => bnd (v ro) fun x => bnd (o ro) fun d => bnd (i ro) fun k => bnd (setK d k x) fun _ => ret (.nx ro)
section
end
section
end
def fzFs : List (Str × Da) → Store → Option (List (Str × Da) × Store)
  | [], st => some ([], st)
  | (f, d) :: r, st => match d with
    | .han n => (match st[n]? with
      | some (.lst ds) => (match fzFs r (st.set n .dead) with
        | some (r', st') => some ((f, .lst ds) :: r', st')
        | none => none)
      | _ => (match fzFs r st with
        | some (r', st') => some ((f, d) :: r', st')
        | none => none))
    | _ => (match fzFs r st with
      | some (r', st') => some ((f, d) :: r', st')
      | none => none)
def fzO (d : Da) : Mo Da := fun st => match d with
  | .han n => (match st[n]? with
    | some (.ins c fs) => (match fzFs fs st with
      | some (fs', st') => (match st'[n]? with
        | some (.ins c' fs2) => if beqF fs2 fs = true ∧ c' = c then .ok d (st'.set n (.ins c fs')) else .bad
        | _ => .bad)
      | none => .bad)
    | _ => .bad)
  | _ => .bad
where beqF : List (Str × Da) → List (Str × Da) → Bool
  | [], [] => true
  | (f, x) :: r, (g, y) :: s => decide (f = g) && (beqD x y && beqF r s)
  | _, _ => false
def eFF (a : Sl → Mo Da) : Sl → Mo Da := fun ro => bnd (a ro) fzO
end CL
namespace CL
open PySem PySem.Spec L2
section
end
end CL
namespace CL
open PySem PySem.Spec PyProof.Rows L2
/-- a law's walk by facts of the head; the law may call defs that raise -/
theorem walkE {l : PySem.W.OpenLaw} {n k : Nat} {qq : Program} {loose : List Str} {XP : (Str → Option Value) → Heap → Prop} {YP : World → Heap → Prop} {d : DefRec} {x : Str}
    (hn : l.most = some n) (hn2 : n ≤ sizeLine) (hdf : d.params.defaults = []) (hr : Room k callerA)
    (F : ∀ (w : World) (mg : Str → Option Value) (fa : Addr) (h : Heap), YP w h → h.Ns mainGlobals mg → mg d.name = some (.ref fa) →
      ∃ (K : PySem.W.Frag) (fd : FuncData) (sp : Sp), K.In h ∧ (∀ (s : Shared) (u : Value), BindsTo s fd ⟨[u], []⟩ [(x, u)]) ∧
        (∀ (H : Hp) (a : Addr) (ns : List Int), ns.length ≤ n → Only H → SqL K H a (ns.map V.int) → sp [.ref a] H (fun v _ => v = .bl true) fun _ _ _ => False) ∧
        ∀ base : Heap, K.In base → base.Ns mainGlobals mg → FnOk l.prog w K mg base (L2.CX l.prog w) k fa fd [x] sp) :
    PySem.W.WalkO qq loose XP YP l.row.toRowW d [] (fun f vs => PySem.call f vs) := by
  refine Att.attach_call hn hdf fun w s0 s1 mg mb fa o pm cd doc a vs ns G Y ho hd hcd hmg hobj hints hlen hg => ?_
  obtain ⟨K, fd, sp, KX, hb, hsp, hF⟩ := F w mg fa _ Y G.T.g hmg
  refine law_call KX G.T.g G.T.b G.T.builtins G.T.nolimit hg hobj hints (Nat.le_trans hlen hn2) hr hF hb (fun H hO hS => hsp H a ns hlen hO hS) fun H e s' z => ?_
  obtain ⟨_, _, _, _, _, _, _, _, _, _, _, _, z⟩ := z
  exact z
theorem repL_ints {K : PySem.W.Frag} {w : Wd} : ∀ ns : List Int, RepL K w (ns.map V.int) (ns.map Da.int)
  | [] => .nil
  | n :: r => .cons (.int n) (repL_ints r)
theorem law_start {K : PySem.W.Frag} {H : Hp} {a : Addr} {ns : List Int} {f : List Da → Mo Da} (hO : Only H) (hS : SqL K H a (ns.map V.int)) (h : ∃ st', f [.fro (ns.map Da.int)] [] = .ok (.bl true) st') :
    SpOf K 1 f [.ref a] H (fun v _ => v = .bl true) (fun _ _ _ => False) := by
  obtain ⟨st', h⟩ := h
  refine ⟨⟨[], [], H, []⟩, [.fro (ns.map Da.int)], rfl, ⟨rfl, List.nodup_nil, fun a h => absurd h (by simp), fun n a c h => absurd h (by simp), fun a h => absurd h (by simp)⟩, .cons (.fro ?_ (repL_ints ns)) .nil, rfl, ?_⟩
  · rcases hS with (hS | hS) | hS
    · rcases hO a with z | ⟨o, xs, z⟩
      · rw [z] at hS; cases hS
      · rw [z] at hS; cases hS
    · exact .inl hS
    · exact .inr hS
  · show Run K _ (f [.fro (ns.map Da.int)] []) _ _
    rw [h]
    intro io H' x m v r
    exact rep_bl r
end CL
noncomputable section
namespace CL
open PySem PySem.Spec L2
def frcL {α : Type} : List Nat → (List Nat → α) → α
  | [], k => k []
  | a :: r, k => HandSHeadRun.frNat a fun a => frcL r fun r => k (a :: r)
theorem frcL_eq {α : Type} : ∀ (l : List Nat) (k : List Nat → α), frcL l k = k l
  | [], _ => rfl
  | a :: r, k => by
    unfold frcL
    rw [HandSHeadRun.frNat_eq, frcL_eq r]
def frcO {α : Type} (o : Obj) (k : Obj → α) : α := match o with
  | ⟨c, d, t, s⟩ => k ⟨c, d, t, s⟩
theorem frcO_eq {α : Type} (o : Obj) (k : Obj → α) : frcO o k = k o := by cases o; rfl
def frcK {α : Type} : PySem.W.Frag → (PySem.W.Frag → α) → α
  | [], k => k []
  | (a, o) :: r, k => HandSHeadRun.frNat a fun a => frcO o fun o => frcK r fun r => k ((a, o) :: r)
theorem frcK_eq {α : Type} : ∀ (l : PySem.W.Frag) (k : PySem.W.Frag → α), frcK l k = k l
  | [], _ => rfl
  | (a, o) :: r, k => by
    unfold frcK
    rw [HandSHeadRun.frNat_eq, frcO_eq, frcK_eq r]
/-- what an object names that we need -/
def refsS (o : Obj) : List Addr := match o.data with
  | .seq its _ => its.toList.flatMap He.refV
  | .dict es _ => es.toList.flatMap fun e => He.refV e.val
  | .func fd => He.refV fd.code ++ (He.refV fd.defaults ++ He.refV fd.kwdefaults)
  | .cls cd => [cd.ns]
  | _ => []
def nextS (g : Addr → Option Obj) (as : List Addr) : List Addr := as.flatMap fun a => match g a with
  | some o => refsS o
  | none => []
/-- level by level -/
def lvS (g : Addr → Option Obj) : Nat → List Addr → List Addr
  | 0, as => as
  | n + 1, as => as ++ lvS g n (nextS g as)
def lvF {α : Type} (g : Addr → Option Obj) : Nat → List Addr → (List Addr → α) → α
  | 0, as, k => k as
  | n + 1, as, k => frcL (nextS g as) fun bs => lvF g n bs fun cs => k (as ++ cs)
theorem lvF_eq {α : Type} (g : Addr → Option Obj) : ∀ (n : Nat) (as : List Addr) (k : List Addr → α), lvF g n as k = k (lvS g n as)
  | 0, _, _ => rfl
  | n + 1, as, k => by
    unfold lvF
    rw [frcL_eq, lvF_eq g n] <;> rfl
def KS (g : Addr → Option Obj) (n : Nat) : PySem.W.Frag := He.frT g (lvS g n [mainGlobals])
def obsS (n : Nat) (fa : List He.Fa) (fn : List He.DefD) (ex : PySem.W.Frag → Bool) (g : Addr → Option Obj) : He.AlX := (He.obsT fa fn [] (KS g n), ex (KS g n))
theorem saysS_of {n : Nat} {fa : List He.Fa} {fn : List He.DefD} {ex : PySem.W.Frag → Bool} {w : World} {h : Heap} (e : obsS n fa fn ex h.get? = He.valX fn [] w) : He.SaysX fa fn [] [] ex w h (KS h.get? n) :=
  ⟨congrArg (fun z : He.AlX => z.1) e, congrArg (fun z : He.AlX => z.2) e, fun p hp => absurd hp (by simp), fun p hp => absurd hp (by simp), fun p hp => absurd hp (by simp)⟩
def hookS (n : Nat) (fa : List He.Fa) (fn : List He.DefD) (ex : PySem.W.Frag → Bool) : PySem.W.Hook where
  α := He.AlX
  obs := fun s => obsS n fa fn ex s.heap.get?
  val := fun w => He.valX fn [] w
  says := fun w h => ∃ K : PySem.W.Frag, K.In h ∧ He.SaysX fa fn [] [] ex w h K
  of := fun _ _ e => ⟨_, He.frT_in, saysS_of e⟩
  keeps := fun _ _ _ ⟨K, hK, c⟩ k => ⟨K, PySem.W.Frag.In.keeps hK k, ⟨c.t, c.more, c.hd, c.out, fun p hp => k _ _ (c.empty p hp)⟩⟩
def obF (n : Nat) (fa : List He.Fa) (fn : List He.DefD) (ex : PySem.W.Frag → Bool) (s : PySem.W.SharedT) : He.AlX :=
  lvF (HandSHeadRun.getT s) n [mainGlobals] fun as => frcK (He.frT (HandSHeadRun.getT s) as) fun K => (He.obsT fa fn [] K, ex K)
theorem obF_eq (n : Nat) (fa : List He.Fa) (fn : List He.DefD) (ex : PySem.W.Frag → Bool) (s : PySem.W.SharedT) : obF n fa fn ex s = (hookS n fa fn ex).obs s.abs := by
  show _ = obsS n fa fn ex s.abs.heap.get?
  have e : HandSHeadRun.getT s = s.abs.heap.get? := funext (HandSHeadRun.getT_eq s)
  rw [← e]
  unfold obF
  rw [lvF_eq, frcK_eq] <;> rfl
open HandSHeadRun PySem.W in
theorem run_of {r : OpenRow} {q : Program} {H : Hook} {ob : SharedT → H.α} {M : Nat} {loose : List PySem.Str} {w : World}
    (h1 : ∀ os : OsState, (endF (stepQ (denQ tabQ) r.prog w) M r.prog w os).map (fun s => looksF r.prog (boot_heap w.params) s.abs) = some true)
    (h2 : ∀ os : OsState, (endF (stepQ (denQ tabQ) r.prog w) M r.prog w os).map (fun s => seenQ q loose (importedModules r.prog.main.body) (fun s => xlAt q [] s && recOk r.toRowW.records s) s.abs) = some (openGood q loose))
    (h3 : ∀ os : OsState, (endF (stepQ (denQ tabQ) r.prog w) M r.prog w os).map (fun s => ob s) = some (H.val w)) : RunEq r q H ob M loose w := by
  intro os
  obtain ⟨s, hs, e1⟩ := Option.map_eq_some_iff.mp (h1 os)
  have e2 := h2 os
  have e3 := h3 os
  rw [hs] at e2 e3 ⊢
  have e2 := Option.some.inj e2
  have e3 := Option.some.inj e3
  exact congrArg some (Prod.ext e1 (Prod.ext e2 e3))
end CL
namespace CL
open PySem PySem.Spec L2
def top (i : Nat) : Stmt := PySem.Challenge.pw_coldlanes_k27_whole_moved.main.body.getD i (.Pass ⟨0, 0, 0, 0⟩)
abbrev S__law_draw : Stmt := top 31
abbrev NN__law_draw : List Str := ["town", "many", "row", "at", "cell", "mixed"]
theorem sc__law_draw : FnScope NN__law_draw ["town", "many"] (defScope S__law_draw) := ⟨rfl, rfl, rfl, by decide +kernel, rfl, by decide +kernel, by decide +kernel⟩
abbrev S__law_pick : Stmt := top 32
abbrev NN__law_pick : List Str := ["town", "some"]
theorem sc__law_pick : FnScope NN__law_pick ["town", "some"] (defScope S__law_pick) := ⟨rfl, rfl, rfl, by decide +kernel, rfl, by decide +kernel, by decide +kernel⟩
abbrev S__law_chain : Stmt := top 34
abbrev NN__law_chain : List Str := ["town", "found", "k"]
theorem sc__law_chain : FnScope NN__law_chain ["town"] (defScope S__law_chain) := ⟨rfl, rfl, rfl, by decide +kernel, rfl, by decide +kernel, by decide +kernel⟩
abbrev S__law_refusal : Stmt := top 33
abbrev NN__law_refusal : List Str := ["caught", "kinds"]
theorem sc__law_refusal : FnScope NN__law_refusal ["caught"] (defScope S__law_refusal) := ⟨rfl, rfl, rfl, by decide +kernel, rfl, by decide +kernel, by decide +kernel⟩
abbrev S__law_table : Stmt := top 35
abbrev NN__law_table : List Str := ["town", "chains", "found", "at", "k", "begin"]
theorem sc__law_table : FnScope NN__law_table ["town"] (defScope S__law_table) := ⟨rfl, rfl, rfl, by decide +kernel, rfl, by decide +kernel, by decide +kernel⟩
abbrev S__law_town : Stmt := top 30
abbrev NN__law_town : List Str := ["script"]
theorem sc__law_town : FnScope NN__law_town ["script"] (defScope S__law_town) := ⟨rfl, rfl, rfl, by decide +kernel, rfl, by decide +kernel, by decide +kernel⟩
abbrev S_all_edges : Stmt := top 23
abbrev NN_all_edges : List Str := ["table", "row", "one"]
theorem sc_all_edges : FnScope NN_all_edges ["table"] (defScope S_all_edges) := ⟨rfl, rfl, rfl, by decide +kernel, rfl, by decide +kernel, by decide +kernel⟩
abbrev S_choice : Stmt := top 20
abbrev NN_choice : List Str := ["chain", "kind", "fit", "plain", "first", "one"]
theorem sc_choice : FnScope NN_choice ["chain", "kind"] (defScope S_choice) := ⟨rfl, rfl, rfl, by decide +kernel, rfl, by decide +kernel, by decide +kernel⟩
abbrev S_all_choices : Stmt := top 22
abbrev NN_all_choices : List Str := ["chain", "kind"]
theorem sc_all_choices : FnScope NN_all_choices ["chain"] (defScope S_all_choices) := ⟨rfl, rfl, rfl, by decide +kernel, rfl, by decide +kernel, by decide +kernel⟩
abbrev S_found_in : Stmt := top 18
abbrev NN_found_in : List Str := ["table", "place", "low", "high", "half"]
theorem sc_found_in : FnScope NN_found_in ["table", "place"] (defScope S_found_in) := ⟨rfl, rfl, rfl, by decide +kernel, rfl, by decide +kernel, by decide +kernel⟩
abbrev S_is_whole : Stmt := top 10
abbrev NN_is_whole : List Str := ["thing", "low", "high"]
theorem sc_is_whole : FnScope NN_is_whole ["thing", "low", "high"] (defScope S_is_whole) := ⟨rfl, rfl, rfl, by decide +kernel, rfl, by decide +kernel, by decide +kernel⟩
abbrev S_is_chain : Stmt := top 16
abbrev NN_is_chain : List Str := ["chain", "one"]
theorem sc_is_chain : FnScope NN_is_chain ["chain"] (defScope S_is_chain) := ⟨rfl, rfl, rfl, by decide +kernel, rfl, by decide +kernel, by decide +kernel⟩
abbrev S_is_table : Stmt := top 15
abbrev NN_is_table : List Str := ["table", "at", "row", "one"]
theorem sc_is_table : FnScope NN_is_table ["table"] (defScope S_is_table) := ⟨rfl, rfl, rfl, by decide +kernel, rfl, by decide +kernel, by decide +kernel⟩
abbrev S_look_number : Stmt := top 11
abbrev NN_look_number : List Str := ["thing", "low", "high"]
theorem sc_look_number : FnScope NN_look_number ["thing", "low", "high"] (defScope S_look_number) := ⟨rfl, rfl, rfl, by decide +kernel, rfl, by decide +kernel, by decide +kernel⟩
abbrev S_chosen : Stmt := top 21
abbrev NN_chosen : List Str := ["chain", "kind"]
theorem sc_chosen : FnScope NN_chosen ["chain", "kind"] (defScope S_chosen) := ⟨rfl, rfl, rfl, by decide +kernel, rfl, by decide +kernel, by decide +kernel⟩
abbrev S_look_table : Stmt := top 17
abbrev NN_look_table : List Str := ["table"]
theorem sc_look_table : FnScope NN_look_table ["table"] (defScope S_look_table) := ⟨rfl, rfl, rfl, by decide +kernel, rfl, by decide +kernel, by decide +kernel⟩
abbrev S_joined : Stmt := top 28
abbrev NN_joined : List Str := ["table", "other"]
theorem sc_joined : FnScope NN_joined ["table", "other"] (defScope S_joined) := ⟨rfl, rfl, rfl, by decide +kernel, rfl, by decide +kernel, by decide +kernel⟩
abbrev S_parting : Stmt := top 24
abbrev NN_parting : List Str := ["table", "other", "place", "one", "two", "kind"]
theorem sc_parting : FnScope NN_parting ["table", "other"] (defScope S_parting) := ⟨rfl, rfl, rfl, by decide +kernel, rfl, by decide +kernel, by decide +kernel⟩
abbrev S_shifted : Stmt := top 27
abbrev NN_shifted : List Str := ["table", "by", "found", "begin", "end", "chain", "kind", "goal", "clean"]
theorem sc_shifted : FnScope NN_shifted ["table", "by"] (defScope S_shifted) := ⟨rfl, rfl, rfl, by decide +kernel, rfl, by decide +kernel, by decide +kernel⟩
abbrev S_slim : Stmt := top 25
abbrev NN_slim : List Str := ["chain", "wish", "at", "less"]
theorem sc_slim : FnScope NN_slim ["chain"] (defScope S_slim) := ⟨rfl, rfl, rfl, by decide +kernel, rfl, by decide +kernel, by decide +kernel⟩
abbrev S_trimmed : Stmt := top 26
abbrev NN_trimmed : List Str := ["table", "found", "begin", "end", "chain"]
theorem sc_trimmed : FnScope NN_trimmed ["table"] (defScope S_trimmed) := ⟨rfl, rfl, rfl, by decide +kernel, rfl, by decide +kernel, by decide +kernel⟩
abbrev S__law_does : Stmt := top 36
abbrev NN__law_does : List Str := ["kind", "one", "two"]
theorem sc__law_does : FnScope NN__law_does ["kind", "one", "two"] (defScope S__law_does) := ⟨rfl, rfl, rfl, by decide +kernel, rfl, by decide +kernel, by decide +kernel⟩
abbrev S__law_asked : Stmt := top 37
abbrev NN__law_asked : List Str := ["kind", "one", "two", "told", "caught", "e"]
theorem sc__law_asked : FnScope NN__law_asked ["kind", "one", "two"] (defScope S__law_asked) := ⟨rfl, rfl, rfl, by decide +kernel, rfl, by decide +kernel, by decide +kernel⟩
abbrev S_law : Stmt := top 38
abbrev NN_law : List Str := ["script", "town", "table", "far_on", "told", "due", "begin", "end", "chain", "far", "bad", "touch", "other", "meets", "one", "kind", "goal", "clean"]
theorem sc_law : FnScope NN_law ["script"] (defScope S_law) := ⟨rfl, rfl, rfl, by decide +kernel, rfl, by decide +kernel, by decide +kernel⟩
end CL
namespace CL
open PySem PySem.Spec L2
def hd__law_draw : He.DefD := ⟨("_law_draw", none), "_law_draw", "_law_draw", defArgs S__law_draw, defBody S__law_draw, defScope S__law_draw, [], []⟩
def hd__law_pick : He.DefD := ⟨("_law_pick", none), "_law_pick", "_law_pick", defArgs S__law_pick, defBody S__law_pick, defScope S__law_pick, [], []⟩
def hd__law_chain : He.DefD := ⟨("_law_chain", none), "_law_chain", "_law_chain", defArgs S__law_chain, defBody S__law_chain, defScope S__law_chain, [], []⟩
def hd__law_refusal : He.DefD := ⟨("_law_refusal", none), "_law_refusal", "_law_refusal", defArgs S__law_refusal, defBody S__law_refusal, defScope S__law_refusal, [], []⟩
def hd__law_table : He.DefD := ⟨("_law_table", none), "_law_table", "_law_table", defArgs S__law_table, defBody S__law_table, defScope S__law_table, [], []⟩
def hd__law_town : He.DefD := ⟨("_law_town", none), "_law_town", "_law_town", defArgs S__law_town, defBody S__law_town, defScope S__law_town, [], []⟩
def hd_all_edges : He.DefD := ⟨("all_edges", none), "all_edges", "all_edges", defArgs S_all_edges, defBody S_all_edges, defScope S_all_edges, [], []⟩
def hd_choice : He.DefD := ⟨("choice", none), "choice", "choice", defArgs S_choice, defBody S_choice, defScope S_choice, [], []⟩
def hd_all_choices : He.DefD := ⟨("all_choices", none), "all_choices", "all_choices", defArgs S_all_choices, defBody S_all_choices, defScope S_all_choices, [], []⟩
def hd_found_in : He.DefD := ⟨("found_in", none), "found_in", "found_in", defArgs S_found_in, defBody S_found_in, defScope S_found_in, [], []⟩
def hd_is_whole : He.DefD := ⟨("is_whole", none), "is_whole", "is_whole", defArgs S_is_whole, defBody S_is_whole, defScope S_is_whole, [], []⟩
def hd_is_chain : He.DefD := ⟨("is_chain", none), "is_chain", "is_chain", defArgs S_is_chain, defBody S_is_chain, defScope S_is_chain, [], []⟩
def hd_is_table : He.DefD := ⟨("is_table", none), "is_table", "is_table", defArgs S_is_table, defBody S_is_table, defScope S_is_table, [], []⟩
def hd_look_number : He.DefD := ⟨("look_number", none), "look_number", "look_number", defArgs S_look_number, defBody S_look_number, defScope S_look_number, [], []⟩
def hd_chosen : He.DefD := ⟨("chosen", none), "chosen", "chosen", defArgs S_chosen, defBody S_chosen, defScope S_chosen, [], []⟩
def hd_look_table : He.DefD := ⟨("look_table", none), "look_table", "look_table", defArgs S_look_table, defBody S_look_table, defScope S_look_table, [], []⟩
def hd_joined : He.DefD := ⟨("joined", none), "joined", "joined", defArgs S_joined, defBody S_joined, defScope S_joined, [], []⟩
def hd_parting : He.DefD := ⟨("parting", none), "parting", "parting", defArgs S_parting, defBody S_parting, defScope S_parting, [], []⟩
def hd_shifted : He.DefD := ⟨("shifted", none), "shifted", "shifted", defArgs S_shifted, defBody S_shifted, defScope S_shifted, [], []⟩
def hd_slim : He.DefD := ⟨("slim", none), "slim", "slim", defArgs S_slim, defBody S_slim, defScope S_slim, [], []⟩
def hd_trimmed : He.DefD := ⟨("trimmed", none), "trimmed", "trimmed", defArgs S_trimmed, defBody S_trimmed, defScope S_trimmed, [], []⟩
def hd__law_does : He.DefD := ⟨("_law_does", none), "_law_does", "_law_does", defArgs S__law_does, defBody S__law_does, defScope S__law_does, [], []⟩
def hd__law_asked : He.DefD := ⟨("_law_asked", none), "_law_asked", "_law_asked", defArgs S__law_asked, defBody S__law_asked, defScope S__law_asked, [], []⟩
def hd_law : He.DefD := ⟨("law", none), "law", "law", defArgs S_law, defBody S_law, defScope S_law, [], []⟩
def hfn : List He.DefD := [hd__law_draw, hd__law_pick, hd__law_chain, hd__law_refusal, hd__law_table, hd__law_town, hd_all_edges, hd_choice, hd_all_choices, hd_found_in, hd_is_whole, hd_is_chain, hd_is_table, hd_look_number, hd_chosen, hd_look_table, hd_joined, hd_parting, hd_shifted, hd_slim, hd_trimmed, hd__law_does, hd__law_asked, hd_law]
def hfa0 : List He.Fa := [.glo "_law_draw", .glo "_law_pick", .glo "_law_chain", .glo "_law_refusal", .glo "_law_table", .glo "_law_town", .glo "all_edges", .glo "choice", .glo "all_choices", .glo "found_in", .glo "is_whole", .glo "is_chain", .glo "is_table", .glo "look_number", .glo "chosen", .glo "look_table", .glo "joined", .glo "parting", .glo "shifted", .glo "slim", .glo "trimmed", .glo "_law_does", .glo "_law_asked", .glo "law", .free "ValueError"]
def hfa1 : List He.Fa := [.free "all", .free "bool", .free "int", .free "isinstance", .free "len", .free "list", .free "max", .free "range", .free "set", .free "sorted", .free "tuple", .glo "BadNumber", .glo "BadOrder", .glo "BadTable", .glo "BadText", .glo "BadTree", .glo "LaneError", .glo "NoPlace", .glo "Over", .glo "Stuck", .exc "BadNumber", .exc "BadTable", .int "KINDS" 5, .int "MOST_PLACE" 100000]
def hfa : List He.Fa := hfa0 ++ hfa1
def hex (K : PySem.W.Frag) : Bool := mAll "LaneError" ["LaneError", "BadNumber", "BadTree", "BadOrder", "BadTable", "Stuck", "Over", "BadText"] K && (kAll (fun K => .ref (He.ga K "BadNumber")) [("LaneError", false), ("BadNumber", true), ("BadTree", false), ("BadOrder", false), ("BadTable", false), ("Stuck", false), ("Over", false), ("BadText", false)] K && (kAll (fun K => .ref (He.ga K "BadOrder")) [("LaneError", false), ("BadNumber", false), ("BadTree", false), ("BadOrder", true), ("BadTable", false), ("Stuck", false), ("Over", false), ("BadText", false)] K && (kAll (fun K => .ref (He.ga K "BadTable")) [("LaneError", false), ("BadNumber", false), ("BadTree", false), ("BadOrder", false), ("BadTable", true), ("Stuck", false), ("Over", false), ("BadText", false)] K && (kAll (fun K => .ref (He.ga K "BadText")) [("LaneError", false), ("BadNumber", false), ("BadTree", false), ("BadOrder", false), ("BadTable", false), ("Stuck", false), ("Over", false), ("BadText", true)] K && (kAll (fun K => .ref (He.ga K "BadTree")) [("LaneError", false), ("BadNumber", false), ("BadTree", true), ("BadOrder", false), ("BadTable", false), ("Stuck", false), ("Over", false), ("BadText", false)] K && (kAll (fun K => .ref (He.ga K "LaneError")) [("LaneError", true), ("BadNumber", true), ("BadTree", true), ("BadOrder", true), ("BadTable", true), ("Stuck", true), ("Over", true), ("BadText", true)] K && (kAll (fun K => .ref (He.ga K "NoPlace")) [("LaneError", false), ("BadNumber", false), ("BadTree", false), ("BadOrder", false), ("BadTable", false), ("Stuck", false), ("Over", false), ("BadText", false)] K && (kAll (fun K => .ref (He.ga K "Over")) [("LaneError", false), ("BadNumber", false), ("BadTree", false), ("BadOrder", false), ("BadTable", false), ("Stuck", false), ("Over", true), ("BadText", false)] K && (kAll (fun K => .ref (He.ga K "Stuck")) [("LaneError", false), ("BadNumber", false), ("BadTree", false), ("BadOrder", false), ("BadTable", false), ("Stuck", true), ("Over", false), ("BadText", false)] K && (kAll (fun _ => .type "ValueError") [("LaneError", true), ("BadNumber", true), ("BadTree", true), ("BadOrder", true), ("BadTable", true), ("Stuck", true), ("Over", true), ("BadText", true)] K && (true)))))))))))
abbrev RR : PySem.W.OpenRow := PySem.W.OpenLaw.row PySem.Challenge.rw_coldlanes_k27_whole_moved
noncomputable abbrev hk : PySem.W.Hook := hookS 5 hfa hfn hex
noncomputable def hob (s : PySem.W.SharedT) : He.AlX := obF 5 hfa hfn hex s
theorem hob_eq (s : PySem.W.SharedT) : hob s = hk.obs s.abs := obF_eq 5 hfa hfn hex s
def loose0 : List PySem.Str := ["LaneError", "BadNumber", "BadTree", "BadOrder", "BadTable", "NoPlace", "Stuck", "Over", "BadText", "is_whole", "look_number", "KINDS", "MOST_PLACE", "is_table", "is_chain", "look_table", "found_in", "choice", "chosen", "all_choices", "all_edges", "parting", "slim", "trimmed", "shifted", "joined", "_law_town", "_law_draw", "_law_pick", "_law_refusal"]
def loose1 : List PySem.Str := ["_law_chain", "_law_table", "_law_does", "_law_asked"]
def loose : List PySem.Str := loose0 ++ loose1
theorem hr1 (w : World) (os : OsState) : (HandSHeadRun.endF (HandSHeadRun.stepQ (HandSHeadRun.denQ HandSHeadRun.tabQ) RR.prog w) 12000 RR.prog w os).map (fun s => HandSHeadRun.looksF RR.prog (PySem.W.boot_heap w.params) s.abs) = some true := by
  kernel_rfl
theorem hr2 (w : World) (os : OsState) : (HandSHeadRun.endF (HandSHeadRun.stepQ (HandSHeadRun.denQ HandSHeadRun.tabQ) RR.prog w) 12000 RR.prog w os).map (fun s => HandSHeadRun.seenQ (PySem.W.view RR.prog [38]) loose (importedModules RR.prog.main.body) (fun s => PySem.W.xlAt (PySem.W.view RR.prog [38]) [] s && PySem.W.recOk RR.toRowW.records s) s.abs) = some (PySem.W.openGood (PySem.W.view RR.prog [38]) loose) := by
  kernel_rfl
theorem hr3 (w : World) (os : OsState) : (HandSHeadRun.endF (HandSHeadRun.stepQ (HandSHeadRun.denQ HandSHeadRun.tabQ) RR.prog w) 12000 RR.prog w os).map (fun s => hob s) = some (hk.val w) := by
  kernel_rfl
theorem hrun (w : World) : HandSHeadRun.RunEq RR (PySem.W.view RR.prog [38]) hk hob 12000 loose w := run_of (hr1 w) (hr2 w) (hr3 w)
end CL
namespace CL
open PySem PySem.Spec L2
def m_is_whole : Sl → Mo Fl := (mRet (vAnd (e1 (isT .int) (eVar 0)) (vAnd (vNot (e1 (isT .bool) (eVar 0))) (eChain leD leD (eVar 1) (eVar 0) (eVar 2)))))
def f_is_whole : List Da → Mo Da := fnM 3 m_is_whole
end CL
namespace CL
open PySem PySem.Spec L2
def m_look_number (g_is_whole : List Da → Mo Da) : Sl → Mo Fl := (mIf (tNot_ (tst (eCall (fun ds => ar 3 g_is_whole (ds ++ [])) (aCons (eVar 0) (aCons (eVar 1) (aCons (eVar 2) aNil)))))) (mRaise "BadNumber") mNil)
def f_look_number : List Da → Mo Da := fnM 3 (m_look_number f_is_whole)
end CL
namespace CL
open PySem PySem.Spec L2
def m_found_in : Sl → Mo Fl := (mSeq (mPar 2 3 (aCons (eC (.int 0)) (aCons (eCall (one lenD) (aCons (eVar 0) aNil)) aNil))) (mSeq (whileF (tst (e2 ltD (eVar 2) (eVar 3))) (mSeq (mSet 4 (e2 fdivD (e2 addD (eVar 2) (eVar 3)) (eC (.int 2)))) (mIf (tst (e2 leD (e2 ixD (e2 ixD (eVar 0) (eVar 4)) (eC (.int 1))) (eVar 1))) (mSet 2 (e2 addD (eVar 4) (eC (.int 1)))) (mSet 3 (eVar 4)))) 1000000) (mRet (eIf (tAnd_ (tst (e2 ltD (eVar 2) (eCall (one lenD) (aCons (eVar 0) aNil)))) (tst (e2 leD (e2 ixD (e2 ixD (eVar 0) (eVar 2)) (eC (.int 0))) (eVar 1)))) (e2 ixD (e2 ixD (eVar 0) (eVar 2)) (eC (.int 2))) (eTup aNil)))))
def f_found_in : List Da → Mo Da := fnM 5 m_found_in
def m_is_chain (g_is_whole : List Da → Mo Da) : Sl → Mo Fl := (mSeq (mIf (tOr_ (tNot_ (tst (e1 (isT .tuple) (eVar 0)))) (tst (e2 eqD (eVar 0) (eTup aNil)))) (mRet (eC (.bl false))) mNil) (mSeq (mFor (iV (eVar 0)) (gN 1) (mSeq (mIf (tOr_ (tNot_ (tst (e1 (isT .tuple) (eVar 1)))) (tOr_ (tst (e2 neD (eCall (one lenD) (aCons (eVar 1) aNil)) (eC (.int 3)))) (tNot_ (tst (eCall (fun ds => ar 3 g_is_whole (ds ++ [])) (aCons (e2 ixD (eVar 1) (eC (.int 1))) (aCons (eC (.int 0)) (aCons (eC (.int 100000)) aNil)))))))) (mRet (eC (.bl false))) mNil) (mIf (tOr_ (tAnd_ (tst (e2 (isB true) (e2 ixD (eVar 1) (eC (.int 0))) (eC (.non)))) (tNot_ (tst (eCall (fun ds => ar 3 g_is_whole (ds ++ [])) (aCons (e2 ixD (eVar 1) (eC (.int 0))) (aCons (eC (.int 0)) (aCons (e2 subD (eC (.int 5)) (eC (.int 1))) aNil))))))) (tNot_ (tst (e1 (isT .bool) (e2 ixD (eVar 1) (eC (.int 2))))))) (mRet (eC (.bl false))) mNil))) (mRet (eC (.bl true)))))
def f_is_chain : List Da → Mo Da := fnM 2 (m_is_chain f_is_whole)
def m_is_table (g_is_chain g_is_whole : List Da → Mo Da) : Sl → Mo Fl := (mSeq (mIf (tNot_ (tst (e1 (isT .list) (eVar 0)))) (mRet (eC (.bl false))) mNil) (mSeq (mSet 1 (eC (.int 0))) (mSeq (mFor (iV (eVar 0)) (gN 2) (mSeq (mIf (tOr_ (tNot_ (tst (e1 (isT .tuple) (eVar 2)))) (tOr_ (tst (e2 neD (eCall (one lenD) (aCons (eVar 2) aNil)) (eC (.int 3)))) (tNot_ (tst (eCall (fun ds => ar 1 g_is_chain (ds ++ [])) (aCons (e2 ixD (eVar 2) (eC (.int 2))) aNil)))))) (mRet (eC (.bl false))) mNil) (mSeq (mIf (tOr_ (tNot_ (tst (eCall (one allD) (aCons (eL (lComp (iV (eSl slA (eVar 2) noP (soP (eC (.int 2))))) (gN 3) tYes_ (eCall (fun ds => ar 3 g_is_whole (ds ++ [])) (aCons (eVar 3) (aCons (eC (.int 0)) (aCons (eC (.int 100000)) aNil)))) [3])) aNil)))) (tOr_ (tst (e2 ltD (e2 ixD (eVar 2) (eC (.int 0))) (eVar 1))) (tst (e2 leD (e2 ixD (eVar 2) (eC (.int 1))) (e2 ixD (eVar 2) (eC (.int 0))))))) (mRet (eC (.bl false))) mNil) (mSet 1 (e2 ixD (eVar 2) (eC (.int 1))))))) (mRet (eC (.bl true))))))
def f_is_table : List Da → Mo Da := fnM 4 (m_is_table f_is_chain f_is_whole)
def m_look_table (g_is_table : List Da → Mo Da) : Sl → Mo Fl := (mIf (tNot_ (tst (eCall (fun ds => ar 1 g_is_table (ds ++ [])) (aCons (eVar 0) aNil)))) (mRaise "BadTable") mNil)
def f_look_table : List Da → Mo Da := fnM 1 (m_look_table f_is_table)
end CL
namespace CL
open PySem PySem.Spec L2
def m__law_draw : Sl → Mo Fl := (mSeq (mSet 2 (e2 ixD (eVar 0) (eC (.int 0)))) (mSeq (mSetI (e2 addD (e2 ixD (eVar 0) (eC (.int 1))) (eC (.int 1))) (eVar 0) (eC (.int 1))) (mSeq (mSet 3 (e2 modD (e2 ixD (eVar 0) (eC (.int 1))) (eCall (one lenD) (aCons (eVar 2) aNil)))) (mSeq (mSet 4 (e2 ixD (eVar 2) (eVar 3))) (mSeq (mIf (tst (e2 geD (eVar 4) (eC (.int 1000000000000000000)))) (mSeq (mSetI (e2 fdivD (eVar 4) (eVar 1)) (eVar 2) (eVar 3)) (mRet (e2 modD (eVar 4) (eVar 1)))) mNil) (mSeq (mSet 5 (e2 modD (e2 addD (eVar 4) (e2 mulD (eC (.int 104729)) (e2 ixD (eVar 0) (eC (.int 1))))) (eC (.int 4294967291)))) (mSeq (mSet 5 (e2 modD (e2 powD (eVar 5) (eC (.int 5))) (eC (.int 4294967279)))) (mRet (e2 modD (e2 fdivD (e2 modD (e2 addD (e2 mulD (e2 fdivD (eVar 5) (eC (.int 64))) (eC (.int 69621))) (eVar 5)) (eC (.int 4294967231))) (eC (.int 8))) (eVar 1))))))))))
def f__law_draw : List Da → Mo Da := fnM 6 m__law_draw
def m__law_town : Sl → Mo Fl := (mRet (eH (lDisp (aCons (eIf (tst (e2 neD (eVar 0) (eL (lDisp aNil)))) (eH (lCall (one listD) (aCons (eVar 0) aNil))) (eH (lDisp (aCons (eC (.int 0)) aNil)))) (aCons (eC (.int 0)) aNil)))))
def f__law_town : List Da → Mo Da := fnM 1 m__law_town
end CL
namespace CL
open PySem PySem.Spec L2
def g_shifted_by_ {α : Type} (us ms ws : List α) : List α := us ++ (match ms, ws with | [], [w0] => [w0] | _, _ => [])
def gD_shifted_by (ds es : List Da) : List Da := g_shifted_by_ ds [] es
end CL
namespace CL
open PySem PySem.Spec L2
def m_choice : Sl → Mo Fl := (mSeq (mSet 2 (eL (lComp (iV (eVar 0)) (gN 5) (tOr_ (tst (e2 (isB false) (e2 ixD (eVar 5) (eC (.int 0))) (eC (.non)))) (tst (e2 eqD (e2 ixD (eVar 5) (eC (.int 0))) (eVar 1)))) (eVar 5) [5]))) (mSeq (mSet 3 (eL (lComp (iV (eVar 2)) (gN 5) (tNot_ (tst (e2 ixD (eVar 5) (eC (.int 2))))) (e2 ixD (eVar 5) (eC (.int 1))) [5]))) (mSeq (mSet 4 (eIf (tst (e2 neD (eVar 2) (eL (lDisp aNil)))) (eTup (aCons (e2 ixD (e2 ixD (eVar 2) (eC (.int 0))) (eC (.int 1))) (aCons (e2 ixD (e2 ixD (eVar 2) (eC (.int 0))) (eC (.int 2))) aNil))) (eC (.non)))) (mRet (eTup (aCons (eVar 4) (aCons (eIf (tst (e2 neD (eVar 3) (eL (lDisp aNil)))) (e2 ixD (eVar 3) (eC (.int 0))) (eC (.non))) aNil)))))))
def f_choice : List Da → Mo Da := fnM 6 m_choice
end CL
namespace CL
open PySem PySem.Spec L2
def m_chosen (g_is_chain g_look_number g_choice : List Da → Mo Da) : Sl → Mo Fl := (mSeq (mIf (tAnd_ (tst (e2 neD (eVar 0) (eTup aNil))) (tNot_ (tst (eCall (fun ds => ar 1 g_is_chain (ds ++ [])) (aCons (eVar 0) aNil))))) (mRaise "BadTable") mNil) (mSeq (mExpr (eCall (fun ds => ar 3 g_look_number (ds ++ [])) (aCons (eVar 1) (aCons (eC (.int 0)) (aCons (e2 subD (eC (.int 5)) (eC (.int 1))) aNil))))) (mRet (eCall (fun ds => ar 2 g_choice (ds ++ [])) (aCons (eVar 0) (aCons (eVar 1) aNil))))))
def f_chosen : List Da → Mo Da := fnM 2 (m_chosen f_is_chain f_look_number f_choice)
end CL
namespace CL
open PySem PySem.Spec L2
def m_joined (g_look_table : List Da → Mo Da) : Sl → Mo Fl := (mSeq (mExpr (eCall (fun ds => ar 1 g_look_table (ds ++ [])) (aCons (eVar 0) aNil))) (mSeq (mExpr (eCall (fun ds => ar 1 g_look_table (ds ++ [])) (aCons (eVar 1) aNil))) (mSeq (mIf (tAnd_ (tst (e2 neD (eVar 0) (eL (lDisp aNil)))) (tAnd_ (tst (e2 neD (eVar 1) (eL (lDisp aNil)))) (tst (e2 ltD (e2 ixD (e2 ixD (eVar 1) (eC (.int 0))) (eC (.int 0))) (e2 ixD (e2 ixD (eVar 0) (e1 negD (eC (.int 1)))) (eC (.int 1))))))) (mRaise "BadTable") mNil) (mRet (eL (l2 catL (eL (lCall (one listD) (aCons (eVar 0) aNil))) (eL (lCall (one listD) (aCons (eVar 1) aNil)))))))))
def f_joined : List Da → Mo Da := fnM 2 (m_joined f_look_table)
end CL
namespace CL
open PySem PySem.Spec L2
def m_all_edges : Sl → Mo Fl := (mRet (eL (lComp2 (iV (eVar 0)) (gN 1) tYes_ (iV (eSl slA (eVar 1) noP (soP (eC (.int 2))))) (gN 2) tYes_ (eVar 2) [1, 2] [2])))
def f_all_edges : List Da → Mo Da := fnM 3 m_all_edges
end CL
namespace CL
open PySem PySem.Spec L2
def m_parting (g_look_table g_all_edges g_found_in g_choice : List Da → Mo Da) : Sl → Mo Fl := (mSeq (mExpr (eCall (fun ds => ar 1 g_look_table (ds ++ [])) (aCons (eVar 0) aNil))) (mSeq (mExpr (eCall (fun ds => ar 1 g_look_table (ds ++ [])) (aCons (eVar 1) aNil))) (mSeq (mFor (iV (eL (lCall (one sortSetD) (aCons (e2 addD (eCall (fun ds => ar 1 g_all_edges (ds ++ [])) (aCons (eVar 0) aNil)) (eCall (fun ds => ar 1 g_all_edges (ds ++ [])) (aCons (eVar 1) aNil))) aNil)))) (gN 2) (mSeq (mPar 3 4 (aCons (eCall (fun ds => ar 2 g_found_in (ds ++ [])) (aCons (eVar 0) (aCons (eVar 2) aNil))) (aCons (eCall (fun ds => ar 2 g_found_in (ds ++ [])) (aCons (eVar 1) (aCons (eVar 2) aNil))) aNil))) (mFor (iR1 (aCons (eC (.int 5)) aNil)) (gN 5) (mIf (tst (e2 neD (eCall (fun ds => ar 2 g_choice (ds ++ [])) (aCons (eVar 3) (aCons (eVar 5) aNil))) (eCall (fun ds => ar 2 g_choice (ds ++ [])) (aCons (eVar 4) (aCons (eVar 5) aNil))))) (mRet (eTup (aCons (eVar 2) (aCons (eVar 5) aNil)))) mNil)))) (mRet (eC (.non))))))
def f_parting : List Da → Mo Da := fnM 6 (m_parting f_look_table f_all_edges f_found_in f_choice)
end CL
namespace CL
open PySem PySem.Spec L2
def m_shifted (g_look_table g_is_whole : List Da → Mo Da) : Sl → Mo Fl := (mSeq (mExpr (eCall (fun ds => ar 1 g_look_table (ds ++ [])) (aCons (eVar 0) aNil))) (mSeq (mIf (tNot_ (tst (eCall (fun ds => ar 3 g_is_whole (ds ++ [])) (aCons (eVar 1) (aCons (eC (.int 0)) (aCons (eC (.int 100000)) aNil)))))) (mRaise "BadNumber") mNil) (mSeq (mSet 2 (eH (lDisp aNil))) (mSeq (mFor (iV (eVar 0)) (gT 3 (gsC (gN 3) (gsC (gN 4) (gsC (gN 5) gsN)))) (mExpr (eApp (eVar 2) (eTup (aCons (e2 addD (eVar 3) (eVar 1)) (aCons (e2 addD (eVar 4) (eVar 1)) (aCons (eCall (one tupleD) (aCons (eL (lComp (iV (eVar 5)) (gT 3 (gsC (gN 6) (gsC (gN 7) (gsC (gN 8) gsN)))) tYes_ (eTup (aCons (eVar 6) (aCons (e2 addD (eVar 7) (eVar 1)) (aCons (eVar 8) aNil)))) [6, 7, 8])) aNil)) aNil))))))) (mSeq (mExpr (eCall (fun ds => ar 1 g_look_table (ds ++ [])) (aCons (eVar 2) aNil))) (mRet (eF (eVar 2))))))))
def f_shifted : List Da → Mo Da := fnM 9 (m_shifted f_look_table f_is_whole)
end CL
namespace CL
open PySem PySem.Spec L2
def m_all_choices (g_choice : List Da → Mo Da) : Sl → Mo Fl := (mRet (eL (lComp (iR1 (aCons (eC (.int 5)) aNil)) (gN 1) tYes_ (eCall (fun ds => ar 2 g_choice (ds ++ [])) (aCons (eVar 0) (aCons (eVar 1) aNil))) [1])))
def f_all_choices : List Da → Mo Da := fnM 2 (m_all_choices f_choice)
end CL
namespace CL
open PySem PySem.Spec L2
def m_slim (g_all_choices : List Da → Mo Da) : Sl → Mo Fl := (mSeq (mSet 1 (eCall (fun ds => ar 1 g_all_choices (ds ++ [])) (aCons (eVar 0) aNil))) (mSeq (mSet 2 (e2 subD (eCall (one lenD) (aCons (eVar 0) aNil)) (eC (.int 1)))) (mSeq (whileF (tst (e2 geD (eVar 2) (eC (.int 0)))) (mSeq (mSet 3 (e2 addD (eSl slA (eVar 0) noP (soP (eVar 2))) (eSl slA (eVar 0) (soP (e2 addD (eVar 2) (eC (.int 1)))) noP))) (mSeq (mIf (tst (e2 eqD (eCall (fun ds => ar 1 g_all_choices (ds ++ [])) (aCons (eVar 3) aNil)) (eVar 1))) (mSeq (mSet 0 (eVar 3)) (mSet 2 (eCall (one lenD) (aCons (eVar 0) aNil)))) mNil) (mAug 2 (fun i j => i - j) (eC (.int 1))))) 1000000) (mRet (eVar 0)))))
def f_slim : List Da → Mo Da := fnM 4 (m_slim f_all_choices)
end CL
namespace CL
open PySem PySem.Spec L2
def m_trimmed (g_look_table g_slim : List Da → Mo Da) : Sl → Mo Fl := (mSeq (mExpr (eCall (fun ds => ar 1 g_look_table (ds ++ [])) (aCons (eVar 0) aNil))) (mSeq (mSet 1 (eH (lDisp aNil))) (mSeq (mFor (iV (eVar 0)) (gT 3 (gsC (gN 2) (gsC (gN 3) (gsC (gN 4) gsN)))) (mSeq (mSet 4 (eCall (fun ds => ar 1 g_slim (ds ++ [])) (aCons (eVar 4) aNil))) (mIf (tAnd_ (tst (e2 neD (eVar 1) (eL (lDisp aNil)))) (tAnd_ (tst (e2 eqD (e2 ixD (e2 ixD (eVar 1) (e1 negD (eC (.int 1)))) (eC (.int 1))) (eVar 2))) (tst (e2 eqD (e2 ixD (e2 ixD (eVar 1) (e1 negD (eC (.int 1)))) (eC (.int 2))) (eVar 4))))) (mSetI (eTup (aCons (e2 ixD (e2 ixD (eVar 1) (e1 negD (eC (.int 1)))) (eC (.int 0))) (aCons (eVar 3) (aCons (eVar 4) aNil)))) (eVar 1) (e1 negD (eC (.int 1)))) (mExpr (eApp (eVar 1) (eTup (aCons (eVar 2) (aCons (eVar 3) (aCons (eVar 4) aNil))))))))) (mRet (eF (eVar 1))))))
def f_trimmed : List Da → Mo Da := fnM 5 (m_trimmed f_look_table f_slim)
end CL
namespace CL
open PySem PySem.Spec L2
def m__law_does (g_shifted g_joined g_parting g_trimmed g_chosen : List Da → Mo Da) : Sl → Mo Fl := (mSeq (mIf (tst (e2 eqD (eVar 0) (eC (.int 0)))) (mRet (eCallK (fun ds => ar 2 g_shifted ds) 1 1 gD_shifted_by (aCons (eVar 1) aNil) (aCons (eVar 2) aNil))) mNil) (mSeq (mIf (tst (e2 eqD (eVar 0) (eC (.int 1)))) (mRet (eCall (fun ds => ar 2 g_joined (ds ++ [])) (aCons (eVar 1) (aCons (eVar 2) aNil)))) mNil) (mSeq (mIf (tst (e2 eqD (eVar 0) (eC (.int 2)))) (mRet (eCall (fun ds => ar 2 g_parting (ds ++ [])) (aCons (eVar 1) (aCons (eVar 2) aNil)))) mNil) (mRet (eIf (tst (e2 eqD (eVar 0) (eC (.int 3)))) (eCall (fun ds => ar 1 g_trimmed (ds ++ [])) (aCons (eVar 1) aNil)) (eCall (fun ds => ar 2 g_chosen (ds ++ [])) (aCons (eVar 1) (aCons (eVar 2) aNil))))))))
def f__law_does : List Da → Mo Da := fnM 3 (m__law_does f_shifted f_joined f_parting f_trimmed f_chosen)
end CL
namespace CL
open PySem PySem.Spec L2
def m__law_refusal : Sl → Mo Fl := (mSeq (mSet 1 (eL (lDisp (aCons (e1 (isX [("LaneError", false), ("BadNumber", true), ("BadTree", false), ("BadOrder", false), ("BadTable", false), ("Stuck", false), ("Over", false), ("BadText", false)]) (eVar 0)) (aCons (e1 (isX [("LaneError", false), ("BadNumber", false), ("BadTree", true), ("BadOrder", false), ("BadTable", false), ("Stuck", false), ("Over", false), ("BadText", false)]) (eVar 0)) (aCons (e1 (isX [("LaneError", false), ("BadNumber", false), ("BadTree", false), ("BadOrder", true), ("BadTable", false), ("Stuck", false), ("Over", false), ("BadText", false)]) (eVar 0)) aNil)))))) (mSeq (mSet 1 (eL (l2 catL (eVar 1) (eL (lDisp (aCons (e1 (isX [("LaneError", false), ("BadNumber", false), ("BadTree", false), ("BadOrder", false), ("BadTable", true), ("Stuck", false), ("Over", false), ("BadText", false)]) (eVar 0)) (aCons (e1 (isX [("LaneError", false), ("BadNumber", false), ("BadTree", false), ("BadOrder", false), ("BadTable", false), ("Stuck", false), ("Over", false), ("BadText", false)]) (eVar 0)) (aCons (e1 (isX [("LaneError", false), ("BadNumber", false), ("BadTree", false), ("BadOrder", false), ("BadTable", false), ("Stuck", true), ("Over", false), ("BadText", false)]) (eVar 0)) aNil)))))))) (mSeq (mSet 1 (eL (l2 catL (eVar 1) (eL (lDisp (aCons (e1 (isX [("LaneError", false), ("BadNumber", false), ("BadTree", false), ("BadOrder", false), ("BadTable", false), ("Stuck", false), ("Over", true), ("BadText", false)]) (eVar 0)) (aCons (e1 (isX [("LaneError", false), ("BadNumber", false), ("BadTree", false), ("BadOrder", false), ("BadTable", false), ("Stuck", false), ("Over", false), ("BadText", true)]) (eVar 0)) aNil))))))) (mSeq (mIf (tOr_ (tst (e2 neD (eCount (eVar 1) (eC (.bl true))) (eC (.int 1)))) (tOr_ (tNot_ (tst (e1 (isX [("LaneError", true), ("BadNumber", true), ("BadTree", true), ("BadOrder", true), ("BadTable", true), ("Stuck", true), ("Over", true), ("BadText", true)]) (eVar 0)))) (tNot_ (tst (e1 (isX [("LaneError", true), ("BadNumber", true), ("BadTree", true), ("BadOrder", true), ("BadTable", true), ("Stuck", true), ("Over", true), ("BadText", true)]) (eVar 0)))))) (mRet (eC (.str "odd"))) mNil) (mRet (e2 ixD (eL (lDisp (aCons (eC (.str "number")) (aCons (eC (.str "tree")) (aCons (eC (.str "order")) (aCons (eC (.str "table")) (aCons (eC (.str "place")) (aCons (eC (.str "stuck")) (aCons (eC (.str "over")) (aCons (eC (.str "text")) aNil)))))))))) (eIndex (eVar 1) (eC (.bl true)))))))))
def f__law_refusal : List Da → Mo Da := fnM 2 m__law_refusal
end CL
namespace CL
open PySem PySem.Spec L2
def m__law_asked (g__law_does g__law_refusal : List Da → Mo Da) : Sl → Mo Fl := (mSeq (mSet 3 (eC (.non))) (mSeq (mSet 4 (eC (.non))) (mSeq (mTry ["LaneError", "BadNumber", "BadTree", "BadOrder", "BadTable", "Stuck", "Over", "BadText"] 5 4 (mSet 3 (eCall (fun ds => ar 3 g__law_does (ds ++ [])) (aCons (eVar 0) (aCons (eVar 1) (aCons (eVar 2) aNil)))))) (mRet (eIf (tst (e2 (isB false) (eVar 4) (eC (.non)))) (eVar 3) (eCall (fun ds => ar 1 g__law_refusal (ds ++ [])) (aCons (eVar 4) aNil)))))))
def f__law_asked : List Da → Mo Da := fnM 6 (m__law_asked f__law_does f__law_refusal)
end CL
namespace CL
open PySem PySem.Spec L2
def m__law_pick (g__law_draw : List Da → Mo Da) : Sl → Mo Fl := (mRet (e2 ixD (eVar 1) (eCall (fun ds => ar 2 g__law_draw (ds ++ [])) (aCons (eVar 0) (aCons (eCall (one lenD) (aCons (eVar 1) aNil)) aNil)))))
def f__law_pick : List Da → Mo Da := fnM 2 (m__law_pick f__law_draw)
end CL
namespace CL
open PySem PySem.Spec L2
def m__law_chain (g__law_draw g__law_pick : List Da → Mo Da) : Sl → Mo Fl := (mSeq (mSet 1 (eH (lDisp aNil))) (mSeq (mFor (iR1 (aCons (e2 addD (eC (.int 1)) (eCall (fun ds => ar 2 g__law_draw (ds ++ [])) (aCons (eVar 0) (aCons (eC (.int 3)) aNil)))) aNil)) (gN 2) (mExpr (eApp (eVar 1) (eTup (aCons (eCall (fun ds => ar 2 g__law_pick (ds ++ [])) (aCons (eVar 0) (aCons (eL (lDisp (aCons (eC (.non)) (aCons (eC (.int 0)) (aCons (eC (.int 1)) (aCons (eC (.int 4)) aNil)))))) aNil))) (aCons (eCall (fun ds => ar 2 g__law_pick (ds ++ [])) (aCons (eVar 0) (aCons (eL (lDisp (aCons (eC (.int 0)) (aCons (eC (.int 5)) (aCons (eC (.int 300)) (aCons (eC (.int 100000)) aNil)))))) aNil))) (aCons (e2 eqD (eCall (fun ds => ar 2 g__law_draw (ds ++ [])) (aCons (eVar 0) (aCons (eC (.int 2)) aNil))) (eC (.int 1))) aNil))))))) (mRet (eCall (one tupleD) (aCons (eVar 1) aNil)))))
def f__law_chain : List Da → Mo Da := fnM 3 (m__law_chain f__law_draw f__law_pick)
end CL
namespace CL
open PySem PySem.Spec L2
def m__law_table (g__law_draw g__law_chain g__law_pick : List Da → Mo Da) : Sl → Mo Fl := (mSeq (mSet 1 (eL (lComp (iR1 (aCons (e2 addD (eC (.int 1)) (eCall (fun ds => ar 2 g__law_draw (ds ++ [])) (aCons (eVar 0) (aCons (eC (.int 3)) aNil)))) aNil)) (gN 4) tYes_ (eCall (fun ds => ar 1 g__law_chain (ds ++ [])) (aCons (eVar 0) aNil)) [4]))) (mSeq (mSet 2 (eH (lDisp aNil))) (mSeq (mSet 3 (eC (.int 0))) (mSeq (mFor (iR1 (aCons (eCall (fun ds => ar 2 g__law_draw (ds ++ [])) (aCons (eVar 0) (aCons (eC (.int 9)) aNil))) aNil)) (gN 4) (mSeq (mSet 5 (e2 addD (eVar 3) (eCall (fun ds => ar 2 g__law_pick (ds ++ [])) (aCons (eVar 0) (aCons (eL (lDisp (aCons (eC (.int 0)) (aCons (eC (.int 1)) (aCons (eC (.int 5)) (aCons (eC (.int 127)) (aCons (eC (.int 128)) (aCons (eCall (fun ds => ar 2 g__law_draw (ds ++ [])) (aCons (eVar 0) (aCons (eC (.int 3000)) aNil))) aNil)))))))) aNil))))) (mSeq (mSet 3 (e2 addD (e2 addD (eVar 5) (eC (.int 1))) (eCall (fun ds => ar 2 g__law_pick (ds ++ [])) (aCons (eVar 0) (aCons (eL (lDisp (aCons (eC (.int 0)) (aCons (eC (.int 1)) (aCons (eC (.int 126)) (aCons (eC (.int 127)) (aCons (eCall (fun ds => ar 2 g__law_draw (ds ++ [])) (aCons (eVar 0) (aCons (eC (.int 3000)) aNil))) aNil))))))) aNil))))) (mExpr (eApp (eVar 2) (eTup (aCons (eVar 5) (aCons (eVar 3) (aCons (eCall (fun ds => ar 2 g__law_pick (ds ++ [])) (aCons (eVar 0) (aCons (eVar 1) aNil))) aNil))))))))) (mRet (eF (eVar 2)))))))
def f__law_table : List Da → Mo Da := fnM 6 (m__law_table f__law_draw f__law_chain f__law_pick)
end CL
namespace CL
open PySem PySem.Spec L2
def m_law (g__law_town g__law_table g__law_draw g__law_pick g__law_asked g_joined : List Da → Mo Da) : Sl → Mo Fl := (mSeq (mSet 1 (eCall (fun ds => ar 1 g__law_town (ds ++ [])) (aCons (eVar 0) aNil))) (mSeq (mSet 2 (eCall (fun ds => ar 1 g__law_table (ds ++ [])) (aCons (eVar 1) aNil))) (mSeq (mSet 3 (eCall (fun ds => ar 2 g__law_pick (ds ++ [])) (aCons (eVar 1) (aCons (eL (lDisp (aCons (eC (.int 0)) (aCons (eC (.int 1)) (aCons (eC (.int 1000)) (aCons (eC (.int 90000)) (aCons (eCall (fun ds => ar 2 g__law_draw (ds ++ [])) (aCons (eVar 1) (aCons (eC (.int 1001)) aNil))) aNil))))))) aNil)))) (mSeq (mSet 4 (eCall (fun ds => ar 3 g__law_asked (ds ++ [])) (aCons (eC (.int 0)) (aCons (eVar 2) (aCons (eVar 3) aNil))))) (mSeq (mSet 5 (eH (lDisp aNil))) (mSeq (mFor (iV (eVar 2)) (gT 3 (gsC (gN 6) (gsC (gN 7) (gsC (gN 8) gsN)))) (mExpr (eApp (eVar 5) (eTup (aCons (e2 addD (eVar 6) (eVar 3)) (aCons (e2 addD (eVar 7) (eVar 3)) (aCons (eCall (one tupleD) (aCons (eL (lComp (iV (eVar 8)) (gT 3 (gsC (gN 15) (gsC (gN 16) (gsC (gN 17) gsN)))) tYes_ (eTup (aCons (eVar 15) (aCons (e2 addD (eVar 16) (eVar 3)) (aCons (eVar 17) aNil)))) [15, 16, 17])) aNil)) aNil))))))) (mSeq (mSet 9 (eL (lDisp (aCons (eC (.int 0)) aNil)))) (mSeq (mFor (iV (eVar 5)) (gT 3 (gsC (gN 6) (gsC (gN 7) (gsC (gN 8) gsN)))) (mSet 9 (eL (l2 catL (eL (l2 catL (eVar 9) (eL (lDisp (aCons (eVar 6) (aCons (eVar 7) aNil)))))) (eL (lComp (iV (eVar 8)) (gN 14) tYes_ (e2 ixD (eVar 14) (eC (.int 1))) [14])))))) (mSeq (mIf (tst (e2 neD (eVar 4) (eIf (tst (e2 leD (eCall (one max1) (aCons (eVar 9) aNil)) (eC (.int 100000)))) (eVar 5) (eC (.str "table"))))) (mRet (eC (.bl false))) mNil) (mSeq (mIf (tAnd_ (tst (e2 neD (eVar 2) (eL (lDisp aNil)))) (tst (e2 ltD (e2 ixD (e2 ixD (eVar 2) (e1 negD (eC (.int 1)))) (eC (.int 1))) (eC (.int 100000))))) (mSeq (mSet 11 (eL (lDisp (aCons (eTup (aCons (e2 ixD (e2 ixD (eVar 2) (e1 negD (eC (.int 1)))) (eC (.int 1))) (aCons (e2 addD (e2 ixD (e2 ixD (eVar 2) (e1 negD (eC (.int 1)))) (eC (.int 1))) (eC (.int 1))) (aCons (e2 ixD (e2 ixD (eVar 2) (e1 negD (eC (.int 1)))) (eC (.int 2))) aNil)))) aNil)))) (mIf (tst (e2 neD (eCall (fun ds => ar 3 g__law_asked (ds ++ [])) (aCons (eC (.int 1)) (aCons (eVar 2) (aCons (eVar 11) aNil)))) (e2 addD (eVar 2) (eVar 11)))) (mRet (eC (.bl false))) mNil)) mNil) (mSeq (mIf (tAnd_ (tst (e2 gtD (eVar 3) (eC (.int 0)))) (tst (e2 neD (eVar 2) (eL (lDisp aNil))))) (mSeq (mSet 12 (eCall (fun ds => ar 1 g__law_table (ds ++ [])) (aCons (eVar 1) aNil))) (mSeq (mSet 13 (vAnd (e2 neD (eVar 12) (eL (lDisp aNil))) (e2 ltD (e2 ixD (e2 ixD (eVar 12) (eC (.int 0))) (eC (.int 0))) (e2 ixD (e2 ixD (eVar 2) (e1 negD (eC (.int 1)))) (eC (.int 1)))))) (mIf (tOr_ (tst (e2 neD (eCall (fun ds => ar 3 g__law_asked (ds ++ [])) (aCons (eC (.int 1)) (aCons (eVar 2) (aCons (eVar 12) aNil)))) (eIf (tst (eVar 13)) (eC (.str "table")) (e2 addD (eVar 2) (eVar 12))))) (tst (e2 neD (eCall (fun ds => ar 2 g_joined (ds ++ [])) (aCons (eVar 2) (aCons (eL (lDisp aNil)) aNil))) (eVar 2)))) (mRet (eC (.bl false))) mNil))) mNil) (mSeq (mFor (iV (eL (lDisp (aCons (e2 subD (eC (.int 0)) (eC (.int 1))) (aCons (eC (.int 100001)) (aCons (eC (.bl true)) (aCons (eC (.non)) (aCons (eC (.str "1")) aNil)))))))) (gN 10) (mIf (tOr_ (tst (e2 neD (eCall (fun ds => ar 3 g__law_asked (ds ++ [])) (aCons (eC (.int 0)) (aCons (eVar 2) (aCons (eVar 10) aNil)))) (eC (.str "number")))) (tst (e2 neD (eCall (fun ds => ar 3 g__law_asked (ds ++ [])) (aCons (eC (.int 4)) (aCons (eTup aNil) (aCons (eCall (fun ds => ar 2 g__law_pick (ds ++ [])) (aCons (eVar 1) (aCons (eL (lDisp (aCons (eC (.int 5)) (aCons (e2 subD (eC (.int 0)) (eC (.int 1))) (aCons (eC (.bl true)) (aCons (eC (.non)) aNil)))))) aNil))) aNil)))) (eC (.str "number"))))) (mRet (eC (.bl false))) mNil)) (mSeq (mFor (iV (eL (lDisp (aCons (eC (.non)) (aCons (eC (.int 5)) (aCons (eL (lDisp (aCons (eTup (aCons (eC (.int 1)) (aCons (eC (.int 1)) (aCons (eTup (aCons (eTup (aCons (eC (.non)) (aCons (eC (.int 0)) (aCons (eC (.bl false)) aNil)))) aNil)) aNil)))) aNil))) (aCons (eL (lDisp (aCons (eTup (aCons (eC (.int 0)) (aCons (eC (.int 1)) (aCons (eTup aNil) aNil)))) aNil))) (aCons (eTup (aCons (eTup (aCons (eC (.int 0)) (aCons (eC (.int 1)) aNil))) aNil)) (aCons (eL (lDisp (aCons (eTup (aCons (eC (.int 0)) (aCons (eC (.int 2)) (aCons (eTup (aCons (eTup (aCons (eC (.int 9)) (aCons (eC (.int 0)) (aCons (eC (.bl false)) aNil)))) aNil)) aNil)))) aNil))) aNil))))))))) (gN 10) (mSeq (mIf (tst (e2 neD (eL (lDisp (aCons (eCall (fun ds => ar 3 g__law_asked (ds ++ [])) (aCons (eC (.int 0)) (aCons (eVar 10) (aCons (eC (.int 0)) aNil)))) (aCons (eCall (fun ds => ar 3 g__law_asked (ds ++ [])) (aCons (eC (.int 1)) (aCons (eVar 10) (aCons (eL (lDisp aNil)) aNil)))) (aCons (eCall (fun ds => ar 3 g__law_asked (ds ++ [])) (aCons (eC (.int 1)) (aCons (eL (lDisp aNil)) (aCons (eVar 10) aNil)))) (aCons (eCall (fun ds => ar 3 g__law_asked (ds ++ [])) (aCons (eC (.int 2)) (aCons (eVar 10) (aCons (eL (lDisp aNil)) aNil)))) (aCons (eCall (fun ds => ar 3 g__law_asked (ds ++ [])) (aCons (eC (.int 2)) (aCons (eL (lDisp aNil)) (aCons (eVar 10) aNil)))) aNil))))))) (eL (l2 repL (eL (lDisp (aCons (eC (.str "table")) aNil))) (eC (.int 5)))))) (mRet (eC (.bl false))) mNil) (mIf (tOr_ (tst (e2 neD (eCall (fun ds => ar 3 g__law_asked (ds ++ [])) (aCons (eC (.int 3)) (aCons (eVar 10) (aCons (eC (.int 0)) aNil)))) (eC (.str "table")))) (tst (e2 neD (eCall (fun ds => ar 3 g__law_asked (ds ++ [])) (aCons (eC (.int 4)) (aCons (eVar 10) (aCons (eC (.int 9)) aNil)))) (eC (.str "table"))))) (mRet (eC (.bl false))) mNil))) (mRet (vAnd (e2 eqD (eCall (fun ds => ar 3 g__law_asked (ds ++ [])) (aCons (eC (.int 4)) (aCons (eTup (aCons (eTup (aCons (eC (.non)) (aCons (eC (.int 5)) aNil))) aNil)) (aCons (eC (.int 0)) aNil)))) (eC (.str "table"))) (vAnd (e2 eqD (eCall (fun ds => ar 2 g_joined (ds ++ [])) (aCons (eL (lDisp aNil)) (aCons (eVar 2) aNil))) (eVar 2)) (e2 eqD (eCall (fun ds => ar 3 g__law_asked (ds ++ [])) (aCons (eC (.int 4)) (aCons (eC (.int 5)) (aCons (eC (.int 9)) aNil)))) (eC (.str "table")))))))))))))))))))
def f_law : List Da → Mo Da := fnM 18 (m_law f__law_town f__law_table f__law_draw f__law_pick f__law_asked f_joined)
end CL
namespace CL
open PySem PySem.Spec L2
end CL
namespace CL
open PySem PySem.Spec L2
structure Tx (K : PySem.W.Frag) (mg : Str → Option Value) : Prop where
  n_ValueError : mg "ValueError" = none
  n_all : mg "all" = none
  n_bool : mg "bool" = none
  n_int : mg "int" = none
  n_isinstance : mg "isinstance" = none
  n_len : mg "len" = none
  n_list : mg "list" = none
  n_max : mg "max" = none
  n_range : mg "range" = none
  n_set : mg "set" = none
  n_sorted : mg "sorted" = none
  n_tuple : mg "tuple" = none
  c_KINDS : ∃ t, mg "KINDS" = some (.int 5 t)
  c_MOST_PLACE : ∃ t, mg "MOST_PLACE" = some (.int 100000 t)
  g_BadNumber : mg "BadNumber" = some (.ref (He.ga K "BadNumber"))
  g_BadOrder : mg "BadOrder" = some (.ref (He.ga K "BadOrder"))
  g_BadTable : mg "BadTable" = some (.ref (He.ga K "BadTable"))
  g_BadText : mg "BadText" = some (.ref (He.ga K "BadText"))
  g_BadTree : mg "BadTree" = some (.ref (He.ga K "BadTree"))
  g_LaneError : mg "LaneError" = some (.ref (He.ga K "LaneError"))
  g_NoPlace : mg "NoPlace" = some (.ref (He.ga K "NoPlace"))
  g_Over : mg "Over" = some (.ref (He.ga K "Over"))
  g_Stuck : mg "Stuck" = some (.ref (He.ga K "Stuck"))
  x_BadNumber : (He.Fa.exc "BadNumber").ok K = true
  x_BadTable : (He.Fa.exc "BadTable").ok K = true
  m_LaneError : ∀ c ∈ (["LaneError", "BadNumber", "BadTree", "BadOrder", "BadTable", "Stuck", "Over", "BadText"] : List Str), PySem.W.exmOne K (.ref (He.ga K c)) (.ref (He.ga K "LaneError")) = some true
  k_BadNumber : ∀ p ∈ ([("LaneError", false), ("BadNumber", true), ("BadTree", false), ("BadOrder", false), ("BadTable", false), ("Stuck", false), ("Over", false), ("BadText", false)] : List (Str × Bool)), exB p.1 K = true ∧ kitB p.1 (.ref (He.ga K "BadNumber")) p.2 K = true
  k_BadOrder : ∀ p ∈ ([("LaneError", false), ("BadNumber", false), ("BadTree", false), ("BadOrder", true), ("BadTable", false), ("Stuck", false), ("Over", false), ("BadText", false)] : List (Str × Bool)), exB p.1 K = true ∧ kitB p.1 (.ref (He.ga K "BadOrder")) p.2 K = true
  k_BadTable : ∀ p ∈ ([("LaneError", false), ("BadNumber", false), ("BadTree", false), ("BadOrder", false), ("BadTable", true), ("Stuck", false), ("Over", false), ("BadText", false)] : List (Str × Bool)), exB p.1 K = true ∧ kitB p.1 (.ref (He.ga K "BadTable")) p.2 K = true
  k_BadText : ∀ p ∈ ([("LaneError", false), ("BadNumber", false), ("BadTree", false), ("BadOrder", false), ("BadTable", false), ("Stuck", false), ("Over", false), ("BadText", true)] : List (Str × Bool)), exB p.1 K = true ∧ kitB p.1 (.ref (He.ga K "BadText")) p.2 K = true
  k_BadTree : ∀ p ∈ ([("LaneError", false), ("BadNumber", false), ("BadTree", true), ("BadOrder", false), ("BadTable", false), ("Stuck", false), ("Over", false), ("BadText", false)] : List (Str × Bool)), exB p.1 K = true ∧ kitB p.1 (.ref (He.ga K "BadTree")) p.2 K = true
  k_LaneError : ∀ p ∈ ([("LaneError", true), ("BadNumber", true), ("BadTree", true), ("BadOrder", true), ("BadTable", true), ("Stuck", true), ("Over", true), ("BadText", true)] : List (Str × Bool)), exB p.1 K = true ∧ kitB p.1 (.ref (He.ga K "LaneError")) p.2 K = true
  k_NoPlace : ∀ p ∈ ([("LaneError", false), ("BadNumber", false), ("BadTree", false), ("BadOrder", false), ("BadTable", false), ("Stuck", false), ("Over", false), ("BadText", false)] : List (Str × Bool)), exB p.1 K = true ∧ kitB p.1 (.ref (He.ga K "NoPlace")) p.2 K = true
  k_Over : ∀ p ∈ ([("LaneError", false), ("BadNumber", false), ("BadTree", false), ("BadOrder", false), ("BadTable", false), ("Stuck", false), ("Over", true), ("BadText", false)] : List (Str × Bool)), exB p.1 K = true ∧ kitB p.1 (.ref (He.ga K "Over")) p.2 K = true
  k_Stuck : ∀ p ∈ ([("LaneError", false), ("BadNumber", false), ("BadTree", false), ("BadOrder", false), ("BadTable", false), ("Stuck", true), ("Over", false), ("BadText", false)] : List (Str × Bool)), exB p.1 K = true ∧ kitB p.1 (.ref (He.ga K "Stuck")) p.2 K = true
  k_ValueError : ∀ p ∈ ([("LaneError", true), ("BadNumber", true), ("BadTree", true), ("BadOrder", true), ("BadTable", true), ("Stuck", true), ("Over", true), ("BadText", true)] : List (Str × Bool)), exB p.1 K = true ∧ kitB p.1 (.type "ValueError") p.2 K = true
  d__law_draw : mg "_law_draw" = some (.ref (He.ga K "_law_draw")) ∧ ∃ fd, FunD K "_law_draw" "_law_draw" (defArgs S__law_draw) (defBody S__law_draw) (defScope S__law_draw) [] [] (He.ga K "_law_draw") fd
  d__law_pick : mg "_law_pick" = some (.ref (He.ga K "_law_pick")) ∧ ∃ fd, FunD K "_law_pick" "_law_pick" (defArgs S__law_pick) (defBody S__law_pick) (defScope S__law_pick) [] [] (He.ga K "_law_pick") fd
  d__law_chain : mg "_law_chain" = some (.ref (He.ga K "_law_chain")) ∧ ∃ fd, FunD K "_law_chain" "_law_chain" (defArgs S__law_chain) (defBody S__law_chain) (defScope S__law_chain) [] [] (He.ga K "_law_chain") fd
  d__law_refusal : mg "_law_refusal" = some (.ref (He.ga K "_law_refusal")) ∧ ∃ fd, FunD K "_law_refusal" "_law_refusal" (defArgs S__law_refusal) (defBody S__law_refusal) (defScope S__law_refusal) [] [] (He.ga K "_law_refusal") fd
  d__law_table : mg "_law_table" = some (.ref (He.ga K "_law_table")) ∧ ∃ fd, FunD K "_law_table" "_law_table" (defArgs S__law_table) (defBody S__law_table) (defScope S__law_table) [] [] (He.ga K "_law_table") fd
  d__law_town : mg "_law_town" = some (.ref (He.ga K "_law_town")) ∧ ∃ fd, FunD K "_law_town" "_law_town" (defArgs S__law_town) (defBody S__law_town) (defScope S__law_town) [] [] (He.ga K "_law_town") fd
  d_all_edges : mg "all_edges" = some (.ref (He.ga K "all_edges")) ∧ ∃ fd, FunD K "all_edges" "all_edges" (defArgs S_all_edges) (defBody S_all_edges) (defScope S_all_edges) [] [] (He.ga K "all_edges") fd
  d_choice : mg "choice" = some (.ref (He.ga K "choice")) ∧ ∃ fd, FunD K "choice" "choice" (defArgs S_choice) (defBody S_choice) (defScope S_choice) [] [] (He.ga K "choice") fd
  d_all_choices : mg "all_choices" = some (.ref (He.ga K "all_choices")) ∧ ∃ fd, FunD K "all_choices" "all_choices" (defArgs S_all_choices) (defBody S_all_choices) (defScope S_all_choices) [] [] (He.ga K "all_choices") fd
  d_found_in : mg "found_in" = some (.ref (He.ga K "found_in")) ∧ ∃ fd, FunD K "found_in" "found_in" (defArgs S_found_in) (defBody S_found_in) (defScope S_found_in) [] [] (He.ga K "found_in") fd
  d_is_whole : mg "is_whole" = some (.ref (He.ga K "is_whole")) ∧ ∃ fd, FunD K "is_whole" "is_whole" (defArgs S_is_whole) (defBody S_is_whole) (defScope S_is_whole) [] [] (He.ga K "is_whole") fd
  d_is_chain : mg "is_chain" = some (.ref (He.ga K "is_chain")) ∧ ∃ fd, FunD K "is_chain" "is_chain" (defArgs S_is_chain) (defBody S_is_chain) (defScope S_is_chain) [] [] (He.ga K "is_chain") fd
  d_is_table : mg "is_table" = some (.ref (He.ga K "is_table")) ∧ ∃ fd, FunD K "is_table" "is_table" (defArgs S_is_table) (defBody S_is_table) (defScope S_is_table) [] [] (He.ga K "is_table") fd
  d_look_number : mg "look_number" = some (.ref (He.ga K "look_number")) ∧ ∃ fd, FunD K "look_number" "look_number" (defArgs S_look_number) (defBody S_look_number) (defScope S_look_number) [] [] (He.ga K "look_number") fd
  d_chosen : mg "chosen" = some (.ref (He.ga K "chosen")) ∧ ∃ fd, FunD K "chosen" "chosen" (defArgs S_chosen) (defBody S_chosen) (defScope S_chosen) [] [] (He.ga K "chosen") fd
  d_look_table : mg "look_table" = some (.ref (He.ga K "look_table")) ∧ ∃ fd, FunD K "look_table" "look_table" (defArgs S_look_table) (defBody S_look_table) (defScope S_look_table) [] [] (He.ga K "look_table") fd
  d_joined : mg "joined" = some (.ref (He.ga K "joined")) ∧ ∃ fd, FunD K "joined" "joined" (defArgs S_joined) (defBody S_joined) (defScope S_joined) [] [] (He.ga K "joined") fd
  d_parting : mg "parting" = some (.ref (He.ga K "parting")) ∧ ∃ fd, FunD K "parting" "parting" (defArgs S_parting) (defBody S_parting) (defScope S_parting) [] [] (He.ga K "parting") fd
  d_shifted : mg "shifted" = some (.ref (He.ga K "shifted")) ∧ ∃ fd, FunD K "shifted" "shifted" (defArgs S_shifted) (defBody S_shifted) (defScope S_shifted) [] [] (He.ga K "shifted") fd
  d_slim : mg "slim" = some (.ref (He.ga K "slim")) ∧ ∃ fd, FunD K "slim" "slim" (defArgs S_slim) (defBody S_slim) (defScope S_slim) [] [] (He.ga K "slim") fd
  d_trimmed : mg "trimmed" = some (.ref (He.ga K "trimmed")) ∧ ∃ fd, FunD K "trimmed" "trimmed" (defArgs S_trimmed) (defBody S_trimmed) (defScope S_trimmed) [] [] (He.ga K "trimmed") fd
  d__law_does : mg "_law_does" = some (.ref (He.ga K "_law_does")) ∧ ∃ fd, FunD K "_law_does" "_law_does" (defArgs S__law_does) (defBody S__law_does) (defScope S__law_does) [] [] (He.ga K "_law_does") fd
  d__law_asked : mg "_law_asked" = some (.ref (He.ga K "_law_asked")) ∧ ∃ fd, FunD K "_law_asked" "_law_asked" (defArgs S__law_asked) (defBody S__law_asked) (defScope S__law_asked) [] [] (He.ga K "_law_asked") fd
  d_law : mg "law" = some (.ref (He.ga K "law")) ∧ ∃ fd, FunD K "law" "law" (defArgs S_law) (defBody S_law) (defScope S_law) [] [] (He.ga K "law") fd
def gV_shifted_by (K : PySem.W.Frag) (ds es : List V) : List V := g_shifted_by_ ds [] es
section
variable {P : Program} {wd : World} {K : PySem.W.Frag} {mg : Str → Option Value} {base : Heap}
theorem okf__law_draw (T : Tx K mg) {fd : FuncData} (F : FunD K "_law_draw" "_law_draw" (defArgs S__law_draw) (defBody S__law_draw) (defScope S__law_draw) [] [] (He.ga K "_law_draw") fd)   : FnOk P wd K mg base (L2.CX P wd) (1) (He.ga K "_law_draw") fd ["town", "many"] (SpOf K 2 f__law_draw) := by
  refine ok_of F sc__law_draw rfl rfl fun cdv A outer s H E hr => ?_
  have nd := sc__law_draw.nd
  have tk : Takes (cxOf (L2.CX P wd) P wd K mg base NN__law_draw "_law_draw" (defScope S__law_draw) (He.ga K "_law_draw") cdv A outer s H E) (fun cls d _ H => E cls d H) := takes_of rfl rfl rfl rfl
  have hx : ∀ σ, PassesAt (L2.CX P wd) (cxOf (L2.CX P wd) P wd K mg base NN__law_draw "_law_draw" (defScope S__law_draw) (He.ga K "_law_draw") cdv A outer s H E) σ E := fun σ => passAt (W := fun cls d _ H => E cls d H) (takes_of rfl rfl rfl rfl) σ
  have hx0 : ∀ {X : Cx} (σ : L2.St), PassesAt (L2.CX X.prog X.w) X σ E0 := fun σ pins H s e s' I c => passL pins σ H s e s' I c
  have po : PassesOwn (model P wd) (cxOf (L2.CX P wd) P wd K mg base NN__law_draw "_law_draw" (defScope S__law_draw) (He.ga K "_law_draw") cdv A outer s H E).A (cxOf (L2.CX P wd) P wd K mg base NN__law_draw "_law_draw" (defScope S__law_draw) (He.ga K "_law_draw") cdv A outer s H E).env (cxOf (L2.CX P wd) P wd K mg base NN__law_draw "_law_draw" (defScope S__law_draw) (He.ga K "_law_draw") cdv A outer s H E).xe := passes_of rfl
  have qq : QB (cxOf (L2.CX P wd) P wd K mg base NN__law_draw "_law_draw" (defScope S__law_draw) (He.ga K "_law_draw") cdv A outer s H E) (fun _ => E) (defBody S__law_draw) _ (m__law_draw ) :=
  (qb_cons (qs_set 2 nd (q_sub1 (q_var 0) q_int))
  (qb_cons (qs_setI (q_op q_add (q_sub1 (q_var 0) q_int) q_int) (q_var 0) q_int)
  (qb_cons (qs_set 3 nd (q_op q_mod (q_sub1 (q_var 0) q_int) (q_len T.n_len (qa_cons (q_var 2) qa_nil))))
  (qb_cons (qs_set 4 nd (q_sub1 (q_var 2) (q_var 3)))
  (qb_cons (qs_if (qt_cmp q_ge (q_var 4) q_int) (qb_cons (qs_setI (q_op q_fdiv (q_var 4) (q_var 1)) (q_var 2) (q_var 3))
  (qb_one (qs_ret (q_op q_mod (q_var 4) (q_var 1))))) qb_nil)
  (qb_cons (qs_set 5 nd (q_op q_mod (q_op q_add (q_var 4) (q_op q_mul q_int (q_sub1 (q_var 0) q_int))) q_int))
  (qb_cons (qs_set 5 nd (q_op q_mod (q_op q_pow (q_var 5) q_int) q_int))
  (qb_one (qs_ret (q_op q_mod (q_op q_fdiv (q_op q_mod (q_op q_add (q_op q_mul (q_op q_fdiv (q_var 5) q_int) q_int) (q_var 5)) q_int) q_int) (q_var 1)))))))))))
  exact ⟨_, qq.ps, qq.ss⟩
theorem ok__law_draw (T : Tx K mg)   : Cal P wd K mg base (1) "_law_draw" 2 f__law_draw [] := by
  obtain ⟨h1, fd, F⟩ := T.d__law_draw
  exact ⟨⟨_, fd, _, [], h1, F.kp, F.bindsN (ps := ["town", "many"]) fun _ _ _ _ _ _ us hl => match us, hl with | [_, _], _ => rfl, .nil, okf__law_draw T F  ⟩⟩
theorem okf__law_pick (T : Tx K mg) {fd : FuncData} (F : FunD K "_law_pick" "_law_pick" (defArgs S__law_pick) (defBody S__law_pick) (defScope S__law_pick) [] [] (He.ga K "_law_pick") fd)  (C__law_draw : Cal P wd K mg base 1 "_law_draw" 2 f__law_draw []) : FnOk P wd K mg base (L2.CX P wd) (2) (He.ga K "_law_pick") fd ["town", "some"] (SpOf K 2 f__law_pick) := by
  refine ok_of F sc__law_pick rfl rfl fun cdv A outer s H E hr => ?_
  have nd := sc__law_pick.nd
  have tk : Takes (cxOf (L2.CX P wd) P wd K mg base NN__law_pick "_law_pick" (defScope S__law_pick) (He.ga K "_law_pick") cdv A outer s H E) (fun cls d _ H => E cls d H) := takes_of rfl rfl rfl rfl
  have hx : ∀ σ, PassesAt (L2.CX P wd) (cxOf (L2.CX P wd) P wd K mg base NN__law_pick "_law_pick" (defScope S__law_pick) (He.ga K "_law_pick") cdv A outer s H E) σ E := fun σ => passAt (W := fun cls d _ H => E cls d H) (takes_of rfl rfl rfl rfl) σ
  have hx0 : ∀ {X : Cx} (σ : L2.St), PassesAt (L2.CX X.prog X.w) X σ E0 := fun σ pins H s e s' I c => passL pins σ H s e s' I c
  have po : PassesOwn (model P wd) (cxOf (L2.CX P wd) P wd K mg base NN__law_pick "_law_pick" (defScope S__law_pick) (He.ga K "_law_pick") cdv A outer s H E).A (cxOf (L2.CX P wd) P wd K mg base NN__law_pick "_law_pick" (defScope S__law_pick) (He.ga K "_law_pick") cdv A outer s H E).env (cxOf (L2.CX P wd) P wd K mg base NN__law_pick "_law_pick" (defScope S__law_pick) (He.ga K "_law_pick") cdv A outer s H E).xe := passes_of rfl
  have qq : QB (cxOf (L2.CX P wd) P wd K mg base NN__law_pick "_law_pick" (defScope S__law_pick) (He.ga K "_law_pick") cdv A outer s H E) (fun _ => E) (defBody S__law_pick) _ (m__law_pick f__law_draw) :=
  (qb_one (qs_ret (q_sub1 (q_var 1) (q_call C__law_draw (hr.mono (by omega)) hx (qa_cons (q_var 0) (qa_cons (q_len T.n_len (qa_cons (q_var 1) qa_nil)) qa_nil))))))
  exact ⟨_, qq.ps, qq.ss⟩
theorem ok__law_pick (T : Tx K mg)  (C__law_draw : Cal P wd K mg base 1 "_law_draw" 2 f__law_draw []) : Cal P wd K mg base (2) "_law_pick" 2 f__law_pick [] := by
  obtain ⟨h1, fd, F⟩ := T.d__law_pick
  exact ⟨⟨_, fd, _, [], h1, F.kp, F.bindsN (ps := ["town", "some"]) fun _ _ _ _ _ _ us hl => match us, hl with | [_, _], _ => rfl, .nil, okf__law_pick T F  C__law_draw⟩⟩
theorem okf__law_chain (T : Tx K mg) {fd : FuncData} (F : FunD K "_law_chain" "_law_chain" (defArgs S__law_chain) (defBody S__law_chain) (defScope S__law_chain) [] [] (He.ga K "_law_chain") fd)  (C__law_draw : Cal P wd K mg base 1 "_law_draw" 2 f__law_draw []) (C__law_pick : Cal P wd K mg base 2 "_law_pick" 2 f__law_pick []) : FnOk P wd K mg base (L2.CX P wd) (3) (He.ga K "_law_chain") fd ["town"] (SpOf K 1 f__law_chain) := by
  refine ok_of F sc__law_chain rfl rfl fun cdv A outer s H E hr => ?_
  have nd := sc__law_chain.nd
  have tk : Takes (cxOf (L2.CX P wd) P wd K mg base NN__law_chain "_law_chain" (defScope S__law_chain) (He.ga K "_law_chain") cdv A outer s H E) (fun cls d _ H => E cls d H) := takes_of rfl rfl rfl rfl
  have hx : ∀ σ, PassesAt (L2.CX P wd) (cxOf (L2.CX P wd) P wd K mg base NN__law_chain "_law_chain" (defScope S__law_chain) (He.ga K "_law_chain") cdv A outer s H E) σ E := fun σ => passAt (W := fun cls d _ H => E cls d H) (takes_of rfl rfl rfl rfl) σ
  have hx0 : ∀ {X : Cx} (σ : L2.St), PassesAt (L2.CX X.prog X.w) X σ E0 := fun σ pins H s e s' I c => passL pins σ H s e s' I c
  have po : PassesOwn (model P wd) (cxOf (L2.CX P wd) P wd K mg base NN__law_chain "_law_chain" (defScope S__law_chain) (He.ga K "_law_chain") cdv A outer s H E).A (cxOf (L2.CX P wd) P wd K mg base NN__law_chain "_law_chain" (defScope S__law_chain) (He.ga K "_law_chain") cdv A outer s H E).env (cxOf (L2.CX P wd) P wd K mg base NN__law_chain "_law_chain" (defScope S__law_chain) (He.ga K "_law_chain") cdv A outer s H E).xe := passes_of rfl
  have qq : QB (cxOf (L2.CX P wd) P wd K mg base NN__law_chain "_law_chain" (defScope S__law_chain) (He.ga K "_law_chain") cdv A outer s H E) (fun _ => E) (defBody S__law_chain) _ (m__law_chain f__law_draw f__law_pick) :=
  (qb_cons (qs_set 1 nd (q_H (ql_disp qa_nil)))
  (qb_cons (qs_for po (by rfl) (qi_r1 T.n_range (qa_cons (q_op q_add q_int (q_call C__law_draw (hr.mono (by omega)) hx (qa_cons (q_var 0) (qa_cons q_int qa_nil)))) qa_nil)) (qg_name 2 nd) (qb_one (qs_expr (q_app (q_var 1) (q_tup (qa_cons (q_call C__law_pick (hr.mono (by omega)) hx (qa_cons (q_var 0) (qa_cons (q_L (ql_disp (qa_cons q_non (qa_cons q_int (qa_cons q_int (qa_cons q_int qa_nil)))))) qa_nil))) (qa_cons (q_call C__law_pick (hr.mono (by omega)) hx (qa_cons (q_var 0) (qa_cons (q_L (ql_disp (qa_cons q_int (qa_cons q_int (qa_cons q_int (qa_cons q_int qa_nil)))))) qa_nil))) (qa_cons (q_cmp (q_eq hr.units) (q_call C__law_draw (hr.mono (by omega)) hx (qa_cons (q_var 0) (qa_cons q_int qa_nil))) q_int) qa_nil))))))))
  (qb_one (qs_ret (q_tupleOf T.n_tuple (qa_cons (q_var 1) qa_nil))))))
  exact ⟨_, qq.ps, qq.ss⟩
theorem ok__law_chain (T : Tx K mg)  (C__law_draw : Cal P wd K mg base 1 "_law_draw" 2 f__law_draw []) (C__law_pick : Cal P wd K mg base 2 "_law_pick" 2 f__law_pick []) : Cal P wd K mg base (3) "_law_chain" 1 f__law_chain [] := by
  obtain ⟨h1, fd, F⟩ := T.d__law_chain
  exact ⟨⟨_, fd, _, [], h1, F.kp, F.bindsN (ps := ["town"]) fun _ _ _ _ _ _ us hl => match us, hl with | [_], _ => rfl, .nil, okf__law_chain T F  C__law_draw C__law_pick⟩⟩
theorem okf__law_refusal (T : Tx K mg) {fd : FuncData} (F : FunD K "_law_refusal" "_law_refusal" (defArgs S__law_refusal) (defBody S__law_refusal) (defScope S__law_refusal) [] [] (He.ga K "_law_refusal") fd)   : FnOk P wd K mg base (L2.CX P wd) (1) (He.ga K "_law_refusal") fd ["caught"] (SpOf K 1 f__law_refusal) := by
  refine ok_of F sc__law_refusal rfl rfl fun cdv A outer s H E hr => ?_
  have nd := sc__law_refusal.nd
  have tk : Takes (cxOf (L2.CX P wd) P wd K mg base NN__law_refusal "_law_refusal" (defScope S__law_refusal) (He.ga K "_law_refusal") cdv A outer s H E) (fun cls d _ H => E cls d H) := takes_of rfl rfl rfl rfl
  have hx : ∀ σ, PassesAt (L2.CX P wd) (cxOf (L2.CX P wd) P wd K mg base NN__law_refusal "_law_refusal" (defScope S__law_refusal) (He.ga K "_law_refusal") cdv A outer s H E) σ E := fun σ => passAt (W := fun cls d _ H => E cls d H) (takes_of rfl rfl rfl rfl) σ
  have hx0 : ∀ {X : Cx} (σ : L2.St), PassesAt (L2.CX X.prog X.w) X σ E0 := fun σ pins H s e s' I c => passL pins σ H s e s' I c
  have po : PassesOwn (model P wd) (cxOf (L2.CX P wd) P wd K mg base NN__law_refusal "_law_refusal" (defScope S__law_refusal) (He.ga K "_law_refusal") cdv A outer s H E).A (cxOf (L2.CX P wd) P wd K mg base NN__law_refusal "_law_refusal" (defScope S__law_refusal) (He.ga K "_law_refusal") cdv A outer s H E).env (cxOf (L2.CX P wd) P wd K mg base NN__law_refusal "_law_refusal" (defScope S__law_refusal) (He.ga K "_law_refusal") cdv A outer s H E).xe := passes_of rfl
  have qq : QB (cxOf (L2.CX P wd) P wd K mg base NN__law_refusal "_law_refusal" (defScope S__law_refusal) (He.ga K "_law_refusal") cdv A outer s H E) (fun _ => E) (defBody S__law_refusal) _ (m__law_refusal ) :=
  (qb_cons (qs_set 1 nd (q_L (ql_disp (qa_cons (q_isX T.n_isinstance T.g_BadNumber T.k_BadNumber (q_var 0)) (qa_cons (q_isX T.n_isinstance T.g_BadTree T.k_BadTree (q_var 0)) (qa_cons (q_isX T.n_isinstance T.g_BadOrder T.k_BadOrder (q_var 0)) qa_nil))))))
  (qb_cons (qs_set 1 nd (q_L (ql_op ql_cat (q_var 1) (q_L (ql_disp (qa_cons (q_isX T.n_isinstance T.g_BadTable T.k_BadTable (q_var 0)) (qa_cons (q_isX T.n_isinstance T.g_NoPlace T.k_NoPlace (q_var 0)) (qa_cons (q_isX T.n_isinstance T.g_Stuck T.k_Stuck (q_var 0)) qa_nil))))))))
  (qb_cons (qs_set 1 nd (q_L (ql_op ql_cat (q_var 1) (q_L (ql_disp (qa_cons (q_isX T.n_isinstance T.g_Over T.k_Over (q_var 0)) (qa_cons (q_isX T.n_isinstance T.g_BadText T.k_BadText (q_var 0)) qa_nil)))))))
  (qb_cons (qs_if (qt_w (qw_or (qt_cmp (q_ne hr.units) (q_count (room1 hr) (q_var 1) q_bl) q_int) (qw_or (qt_not (qt_val (q_isX T.n_isinstance T.g_LaneError T.k_LaneError (q_var 0)))) (qw_or1 (qt_not (qt_val (q_isXb T.n_isinstance T.n_ValueError T.k_ValueError (q_var 0)))))))) (qb_one (qs_ret q_str)) qb_nil)
  (qb_one (qs_ret (q_sub1 (q_L (ql_disp (qa_cons q_str (qa_cons q_str (qa_cons q_str (qa_cons q_str (qa_cons q_str (qa_cons q_str (qa_cons q_str (qa_cons q_str qa_nil)))))))))) (q_index (room1 hr) (q_var 1) q_bl))))))))
  exact ⟨_, qq.ps, qq.ss⟩
theorem ok__law_refusal (T : Tx K mg)   : Cal P wd K mg base (1) "_law_refusal" 1 f__law_refusal [] := by
  obtain ⟨h1, fd, F⟩ := T.d__law_refusal
  exact ⟨⟨_, fd, _, [], h1, F.kp, F.bindsN (ps := ["caught"]) fun _ _ _ _ _ _ us hl => match us, hl with | [_], _ => rfl, .nil, okf__law_refusal T F  ⟩⟩
theorem okf__law_table (T : Tx K mg) {fd : FuncData} (F : FunD K "_law_table" "_law_table" (defArgs S__law_table) (defBody S__law_table) (defScope S__law_table) [] [] (He.ga K "_law_table") fd)  (C__law_draw : Cal P wd K mg base 1 "_law_draw" 2 f__law_draw []) (C__law_chain : Cal P wd K mg base 3 "_law_chain" 1 f__law_chain []) (C__law_pick : Cal P wd K mg base 2 "_law_pick" 2 f__law_pick []) : FnOk P wd K mg base (L2.CX P wd) (4) (He.ga K "_law_table") fd ["town"] (SpOf K 1 f__law_table) := by
  refine ok_of F sc__law_table rfl rfl fun cdv A outer s H E hr => ?_
  have nd := sc__law_table.nd
  have tk : Takes (cxOf (L2.CX P wd) P wd K mg base NN__law_table "_law_table" (defScope S__law_table) (He.ga K "_law_table") cdv A outer s H E) (fun cls d _ H => E cls d H) := takes_of rfl rfl rfl rfl
  have hx : ∀ σ, PassesAt (L2.CX P wd) (cxOf (L2.CX P wd) P wd K mg base NN__law_table "_law_table" (defScope S__law_table) (He.ga K "_law_table") cdv A outer s H E) σ E := fun σ => passAt (W := fun cls d _ H => E cls d H) (takes_of rfl rfl rfl rfl) σ
  have hx0 : ∀ {X : Cx} (σ : L2.St), PassesAt (L2.CX X.prog X.w) X σ E0 := fun σ pins H s e s' I c => passL pins σ H s e s' I c
  have po : PassesOwn (model P wd) (cxOf (L2.CX P wd) P wd K mg base NN__law_table "_law_table" (defScope S__law_table) (He.ga K "_law_table") cdv A outer s H E).A (cxOf (L2.CX P wd) P wd K mg base NN__law_table "_law_table" (defScope S__law_table) (He.ga K "_law_table") cdv A outer s H E).env (cxOf (L2.CX P wd) P wd K mg base NN__law_table "_law_table" (defScope S__law_table) (He.ga K "_law_table") cdv A outer s H E).xe := passes_of rfl
  have qq : QB (cxOf (L2.CX P wd) P wd K mg base NN__law_table "_law_table" (defScope S__law_table) (He.ga K "_law_table") cdv A outer s H E) (fun _ => E) (defBody S__law_table) _ (m__law_table f__law_draw f__law_chain f__law_pick) :=
  (qb_cons (by exact qs_setLc 1 (by rfl) nd (qi_r1 T.n_range (qa_cons (q_op q_add q_int (q_call C__law_draw (hr.mono (by omega)) hx (qa_cons (q_var 0) (qa_cons q_int qa_nil)))) qa_nil)) (blkOk_by (own := [("k", 4)]) (N := NN__law_table) (sc := defScope S__law_table) (by decide +kernel)) (fun _ _ _ _ _ => (qg_name 4 nd)) (fun _ _ _ _ _ => qts_nil) (fun _ _ _ _ _ => (q_call C__law_chain (hr.mono (by omega)) hx0 (qa_cons (q_var 0) qa_nil))) eL s_L (sw_true rfl rfl rfl (by decide +kernel)))
  (qb_cons (qs_set 2 nd (q_H (ql_disp qa_nil)))
  (qb_cons (qs_set 3 nd q_int)
  (qb_cons (qs_for po (by rfl) (qi_r1 T.n_range (qa_cons (q_call C__law_draw (hr.mono (by omega)) hx (qa_cons (q_var 0) (qa_cons q_int qa_nil))) qa_nil)) (qg_name 4 nd) (qb_cons (qs_set 5 nd (q_op q_add (q_var 3) (q_call C__law_pick (hr.mono (by omega)) hx (qa_cons (q_var 0) (qa_cons (q_L (ql_disp (qa_cons q_int (qa_cons q_int (qa_cons q_int (qa_cons q_int (qa_cons q_int (qa_cons (q_call C__law_draw (hr.mono (by omega)) hx (qa_cons (q_var 0) (qa_cons q_int qa_nil))) qa_nil)))))))) qa_nil)))))
  (qb_cons (qs_set 3 nd (q_op q_add (q_op q_add (q_var 5) q_int) (q_call C__law_pick (hr.mono (by omega)) hx (qa_cons (q_var 0) (qa_cons (q_L (ql_disp (qa_cons q_int (qa_cons q_int (qa_cons q_int (qa_cons q_int (qa_cons (q_call C__law_draw (hr.mono (by omega)) hx (qa_cons (q_var 0) (qa_cons q_int qa_nil))) qa_nil))))))) qa_nil)))))
  (qb_one (qs_expr (q_app (q_var 2) (q_tup (qa_cons (q_var 5) (qa_cons (q_var 3) (qa_cons (q_call C__law_pick (hr.mono (by omega)) hx (qa_cons (q_var 0) (qa_cons (q_var 1) qa_nil))) qa_nil))))))))))
  (qb_one (qs_ret (q_F (q_var 2))))))))
  exact ⟨_, qq.ps, qq.ss⟩
theorem ok__law_table (T : Tx K mg)  (C__law_draw : Cal P wd K mg base 1 "_law_draw" 2 f__law_draw []) (C__law_chain : Cal P wd K mg base 3 "_law_chain" 1 f__law_chain []) (C__law_pick : Cal P wd K mg base 2 "_law_pick" 2 f__law_pick []) : Cal P wd K mg base (4) "_law_table" 1 f__law_table [] := by
  obtain ⟨h1, fd, F⟩ := T.d__law_table
  exact ⟨⟨_, fd, _, [], h1, F.kp, F.bindsN (ps := ["town"]) fun _ _ _ _ _ _ us hl => match us, hl with | [_], _ => rfl, .nil, okf__law_table T F  C__law_draw C__law_chain C__law_pick⟩⟩
theorem okf__law_town (T : Tx K mg) {fd : FuncData} (F : FunD K "_law_town" "_law_town" (defArgs S__law_town) (defBody S__law_town) (defScope S__law_town) [] [] (He.ga K "_law_town") fd)   : FnOk P wd K mg base (L2.CX P wd) (1) (He.ga K "_law_town") fd ["script"] (SpOf K 1 f__law_town) := by
  refine ok_of F sc__law_town rfl rfl fun cdv A outer s H E hr => ?_
  have nd := sc__law_town.nd
  have tk : Takes (cxOf (L2.CX P wd) P wd K mg base NN__law_town "_law_town" (defScope S__law_town) (He.ga K "_law_town") cdv A outer s H E) (fun cls d _ H => E cls d H) := takes_of rfl rfl rfl rfl
  have hx : ∀ σ, PassesAt (L2.CX P wd) (cxOf (L2.CX P wd) P wd K mg base NN__law_town "_law_town" (defScope S__law_town) (He.ga K "_law_town") cdv A outer s H E) σ E := fun σ => passAt (W := fun cls d _ H => E cls d H) (takes_of rfl rfl rfl rfl) σ
  have hx0 : ∀ {X : Cx} (σ : L2.St), PassesAt (L2.CX X.prog X.w) X σ E0 := fun σ pins H s e s' I c => passL pins σ H s e s' I c
  have po : PassesOwn (model P wd) (cxOf (L2.CX P wd) P wd K mg base NN__law_town "_law_town" (defScope S__law_town) (He.ga K "_law_town") cdv A outer s H E).A (cxOf (L2.CX P wd) P wd K mg base NN__law_town "_law_town" (defScope S__law_town) (He.ga K "_law_town") cdv A outer s H E).env (cxOf (L2.CX P wd) P wd K mg base NN__law_town "_law_town" (defScope S__law_town) (He.ga K "_law_town") cdv A outer s H E).xe := passes_of rfl
  have qq : QB (cxOf (L2.CX P wd) P wd K mg base NN__law_town "_law_town" (defScope S__law_town) (He.ga K "_law_town") cdv A outer s H E) (fun _ => E) (defBody S__law_town) _ (m__law_town ) :=
  (qb_one (qs_ret (q_H (ql_disp (qa_cons (q_ifx (qt_cmp (q_ne hr.units) (q_var 0) (q_L (ql_disp qa_nil))) (q_H (ql_listOf T.n_list (qa_cons (q_var 0) qa_nil))) (q_H (ql_disp (qa_cons q_int qa_nil)))) (qa_cons q_int qa_nil))))))
  exact ⟨_, qq.ps, qq.ss⟩
theorem ok__law_town (T : Tx K mg)   : Cal P wd K mg base (1) "_law_town" 1 f__law_town [] := by
  obtain ⟨h1, fd, F⟩ := T.d__law_town
  exact ⟨⟨_, fd, _, [], h1, F.kp, F.bindsN (ps := ["script"]) fun _ _ _ _ _ _ us hl => match us, hl with | [_], _ => rfl, .nil, okf__law_town T F  ⟩⟩
theorem okf_all_edges (T : Tx K mg) {fd : FuncData} (F : FunD K "all_edges" "all_edges" (defArgs S_all_edges) (defBody S_all_edges) (defScope S_all_edges) [] [] (He.ga K "all_edges") fd)   : FnOk P wd K mg base (L2.CX P wd) (1) (He.ga K "all_edges") fd ["table"] (SpOf K 1 f_all_edges) := by
  refine ok_of F sc_all_edges rfl rfl fun cdv A outer s H E hr => ?_
  have nd := sc_all_edges.nd
  have tk : Takes (cxOf (L2.CX P wd) P wd K mg base NN_all_edges "all_edges" (defScope S_all_edges) (He.ga K "all_edges") cdv A outer s H E) (fun cls d _ H => E cls d H) := takes_of rfl rfl rfl rfl
  have hx : ∀ σ, PassesAt (L2.CX P wd) (cxOf (L2.CX P wd) P wd K mg base NN_all_edges "all_edges" (defScope S_all_edges) (He.ga K "all_edges") cdv A outer s H E) σ E := fun σ => passAt (W := fun cls d _ H => E cls d H) (takes_of rfl rfl rfl rfl) σ
  have hx0 : ∀ {X : Cx} (σ : L2.St), PassesAt (L2.CX X.prog X.w) X σ E0 := fun σ pins H s e s' I c => passL pins σ H s e s' I c
  have po : PassesOwn (model P wd) (cxOf (L2.CX P wd) P wd K mg base NN_all_edges "all_edges" (defScope S_all_edges) (He.ga K "all_edges") cdv A outer s H E).A (cxOf (L2.CX P wd) P wd K mg base NN_all_edges "all_edges" (defScope S_all_edges) (He.ga K "all_edges") cdv A outer s H E).env (cxOf (L2.CX P wd) P wd K mg base NN_all_edges "all_edges" (defScope S_all_edges) (He.ga K "all_edges") cdv A outer s H E).xe := passes_of rfl
  have qq : QB (cxOf (L2.CX P wd) P wd K mg base NN_all_edges "all_edges" (defScope S_all_edges) (He.ga K "all_edges") cdv A outer s H E) (fun _ => E) (defBody S_all_edges) _ (m_all_edges ) :=
  (qb_one (qs_ret (q_L (by exact ql_comp2 (by rfl) nd (qi_v (q_var 0)) (blkOk_by (own := [("row", 1), ("one", 2)]) (N := NN_all_edges) (sc := defScope S_all_edges) (by decide +kernel)) (fun _ _ _ _ _ => (qg_name 1 nd)) (fun _ _ _ _ _ => qts_nil) (fun _ _ _ _ _ => (qi_v (q_slice (q_var 1) qp_none (qp_some q_int)))) (fun _ _ _ _ _ => (qg_name 2 nd)) (fun _ _ _ _ _ => qts_nil) (fun _ _ _ _ _ => (q_var 2))))))
  exact ⟨_, qq.ps, qq.ss⟩
theorem ok_all_edges (T : Tx K mg)   : Cal P wd K mg base (1) "all_edges" 1 f_all_edges [] := by
  obtain ⟨h1, fd, F⟩ := T.d_all_edges
  exact ⟨⟨_, fd, _, [], h1, F.kp, F.bindsN (ps := ["table"]) fun _ _ _ _ _ _ us hl => match us, hl with | [_], _ => rfl, .nil, okf_all_edges T F  ⟩⟩
theorem okf_choice (T : Tx K mg) {fd : FuncData} (F : FunD K "choice" "choice" (defArgs S_choice) (defBody S_choice) (defScope S_choice) [] [] (He.ga K "choice") fd)   : FnOk P wd K mg base (L2.CX P wd) (1) (He.ga K "choice") fd ["chain", "kind"] (SpOf K 2 f_choice) := by
  refine ok_of F sc_choice rfl rfl fun cdv A outer s H E hr => ?_
  have nd := sc_choice.nd
  have tk : Takes (cxOf (L2.CX P wd) P wd K mg base NN_choice "choice" (defScope S_choice) (He.ga K "choice") cdv A outer s H E) (fun cls d _ H => E cls d H) := takes_of rfl rfl rfl rfl
  have hx : ∀ σ, PassesAt (L2.CX P wd) (cxOf (L2.CX P wd) P wd K mg base NN_choice "choice" (defScope S_choice) (He.ga K "choice") cdv A outer s H E) σ E := fun σ => passAt (W := fun cls d _ H => E cls d H) (takes_of rfl rfl rfl rfl) σ
  have hx0 : ∀ {X : Cx} (σ : L2.St), PassesAt (L2.CX X.prog X.w) X σ E0 := fun σ pins H s e s' I c => passL pins σ H s e s' I c
  have po : PassesOwn (model P wd) (cxOf (L2.CX P wd) P wd K mg base NN_choice "choice" (defScope S_choice) (He.ga K "choice") cdv A outer s H E).A (cxOf (L2.CX P wd) P wd K mg base NN_choice "choice" (defScope S_choice) (He.ga K "choice") cdv A outer s H E).env (cxOf (L2.CX P wd) P wd K mg base NN_choice "choice" (defScope S_choice) (He.ga K "choice") cdv A outer s H E).xe := passes_of rfl
  have qq : QB (cxOf (L2.CX P wd) P wd K mg base NN_choice "choice" (defScope S_choice) (He.ga K "choice") cdv A outer s H E) (fun _ => E) (defBody S_choice) _ (m_choice ) :=
  (qb_cons (by exact qs_setLc 2 (by rfl) nd (qi_v (q_var 0)) (blkOk_by (own := [("one", 5)]) (N := NN_choice) (sc := defScope S_choice) (by decide +kernel)) (fun _ _ _ _ _ => (qg_name 5 nd)) (fun _ _ _ _ _ => (qts_one (qt_w (qw_or (qt_cmp q_is (q_sub1 (q_var 5) q_int) q_non) (qw_or1 (qt_cmp (q_eq hr.units) (q_sub1 (q_var 5) q_int) (q_var 1))))))) (fun _ _ _ _ _ => (q_var 5)) eL s_L (sw_true rfl rfl rfl (by decide +kernel)))
  (qb_cons (by exact qs_setLc 3 (by rfl) nd (qi_v (q_var 2)) (blkOk_by (own := [("one", 5)]) (N := NN_choice) (sc := defScope S_choice) (by decide +kernel)) (fun _ _ _ _ _ => (qg_name 5 nd)) (fun _ _ _ _ _ => (qts_one (qt_not (qt_val (q_sub1 (q_var 5) q_int))))) (fun _ _ _ _ _ => (q_sub1 (q_var 5) q_int)) eL s_L (sw_true rfl rfl rfl (by decide +kernel)))
  (qb_cons (qs_set 4 nd (q_ifx (qt_cmp (q_ne hr.units) (q_var 2) (q_L (ql_disp qa_nil))) (q_tup (qa_cons (q_sub1 (q_sub1 (q_var 2) q_int) q_int) (qa_cons (q_sub1 (q_sub1 (q_var 2) q_int) q_int) qa_nil))) q_non))
  (qb_one (qs_ret (q_tup (qa_cons (q_var 4) (qa_cons (q_ifx (qt_cmp (q_ne hr.units) (q_var 3) (q_L (ql_disp qa_nil))) (q_sub1 (q_var 3) q_int) q_non) qa_nil))))))))
  exact ⟨_, qq.ps, qq.ss⟩
theorem ok_choice (T : Tx K mg)   : Cal P wd K mg base (1) "choice" 2 f_choice [] := by
  obtain ⟨h1, fd, F⟩ := T.d_choice
  exact ⟨⟨_, fd, _, [], h1, F.kp, F.bindsN (ps := ["chain", "kind"]) fun _ _ _ _ _ _ us hl => match us, hl with | [_, _], _ => rfl, .nil, okf_choice T F  ⟩⟩
theorem okf_all_choices (T : Tx K mg) {fd : FuncData} (F : FunD K "all_choices" "all_choices" (defArgs S_all_choices) (defBody S_all_choices) (defScope S_all_choices) [] [] (He.ga K "all_choices") fd)  (C_choice : Cal P wd K mg base 1 "choice" 2 f_choice []) : FnOk P wd K mg base (L2.CX P wd) (2) (He.ga K "all_choices") fd ["chain"] (SpOf K 1 f_all_choices) := by
  refine ok_of F sc_all_choices rfl rfl fun cdv A outer s H E hr => ?_
  have nd := sc_all_choices.nd
  have tk : Takes (cxOf (L2.CX P wd) P wd K mg base NN_all_choices "all_choices" (defScope S_all_choices) (He.ga K "all_choices") cdv A outer s H E) (fun cls d _ H => E cls d H) := takes_of rfl rfl rfl rfl
  have hx : ∀ σ, PassesAt (L2.CX P wd) (cxOf (L2.CX P wd) P wd K mg base NN_all_choices "all_choices" (defScope S_all_choices) (He.ga K "all_choices") cdv A outer s H E) σ E := fun σ => passAt (W := fun cls d _ H => E cls d H) (takes_of rfl rfl rfl rfl) σ
  have hx0 : ∀ {X : Cx} (σ : L2.St), PassesAt (L2.CX X.prog X.w) X σ E0 := fun σ pins H s e s' I c => passL pins σ H s e s' I c
  have po : PassesOwn (model P wd) (cxOf (L2.CX P wd) P wd K mg base NN_all_choices "all_choices" (defScope S_all_choices) (He.ga K "all_choices") cdv A outer s H E).A (cxOf (L2.CX P wd) P wd K mg base NN_all_choices "all_choices" (defScope S_all_choices) (He.ga K "all_choices") cdv A outer s H E).env (cxOf (L2.CX P wd) P wd K mg base NN_all_choices "all_choices" (defScope S_all_choices) (He.ga K "all_choices") cdv A outer s H E).xe := passes_of rfl
  have qq : QB (cxOf (L2.CX P wd) P wd K mg base NN_all_choices "all_choices" (defScope S_all_choices) (He.ga K "all_choices") cdv A outer s H E) (fun _ => E) (defBody S_all_choices) _ (m_all_choices f_choice) :=
  (qb_one (qs_ret (q_L (by exact ql_comp (by rfl) nd (qi_r1 T.n_range (qa_cons (q_gint T.c_KINDS) qa_nil)) (blkOk_by (own := [("kind", 1)]) (N := NN_all_choices) (sc := defScope S_all_choices) (by decide +kernel)) (fun _ _ _ _ _ => (qg_name 1 nd)) (fun _ _ _ _ _ => qts_nil) (fun _ _ _ _ _ => (q_call C_choice (hr.mono (by omega)) hx0 (qa_cons (q_var 0) (qa_cons (q_var 1) qa_nil))))))))
  exact ⟨_, qq.ps, qq.ss⟩
theorem ok_all_choices (T : Tx K mg)  (C_choice : Cal P wd K mg base 1 "choice" 2 f_choice []) : Cal P wd K mg base (2) "all_choices" 1 f_all_choices [] := by
  obtain ⟨h1, fd, F⟩ := T.d_all_choices
  exact ⟨⟨_, fd, _, [], h1, F.kp, F.bindsN (ps := ["chain"]) fun _ _ _ _ _ _ us hl => match us, hl with | [_], _ => rfl, .nil, okf_all_choices T F  C_choice⟩⟩
theorem okf_found_in (T : Tx K mg) {fd : FuncData} (F : FunD K "found_in" "found_in" (defArgs S_found_in) (defBody S_found_in) (defScope S_found_in) [] [] (He.ga K "found_in") fd)   : FnOk P wd K mg base (L2.CX P wd) (1) (He.ga K "found_in") fd ["table", "place"] (SpOf K 2 f_found_in) := by
  refine ok_of F sc_found_in rfl rfl fun cdv A outer s H E hr => ?_
  have nd := sc_found_in.nd
  have tk : Takes (cxOf (L2.CX P wd) P wd K mg base NN_found_in "found_in" (defScope S_found_in) (He.ga K "found_in") cdv A outer s H E) (fun cls d _ H => E cls d H) := takes_of rfl rfl rfl rfl
  have hx : ∀ σ, PassesAt (L2.CX P wd) (cxOf (L2.CX P wd) P wd K mg base NN_found_in "found_in" (defScope S_found_in) (He.ga K "found_in") cdv A outer s H E) σ E := fun σ => passAt (W := fun cls d _ H => E cls d H) (takes_of rfl rfl rfl rfl) σ
  have hx0 : ∀ {X : Cx} (σ : L2.St), PassesAt (L2.CX X.prog X.w) X σ E0 := fun σ pins H s e s' I c => passL pins σ H s e s' I c
  have po : PassesOwn (model P wd) (cxOf (L2.CX P wd) P wd K mg base NN_found_in "found_in" (defScope S_found_in) (He.ga K "found_in") cdv A outer s H E).A (cxOf (L2.CX P wd) P wd K mg base NN_found_in "found_in" (defScope S_found_in) (He.ga K "found_in") cdv A outer s H E).env (cxOf (L2.CX P wd) P wd K mg base NN_found_in "found_in" (defScope S_found_in) (He.ga K "found_in") cdv A outer s H E).xe := passes_of rfl
  have qq : QB (cxOf (L2.CX P wd) P wd K mg base NN_found_in "found_in" (defScope S_found_in) (He.ga K "found_in") cdv A outer s H E) (fun _ => E) (defBody S_found_in) _ (m_found_in ) :=
  (qb_cons (qs_par 2 3 (by rfl) nd (qa_cons q_int (qa_cons (q_len T.n_len (qa_cons (q_var 0) qa_nil)) qa_nil)))
  (qb_cons (qs_while 1000000 po (qt_cmp q_lt (q_var 2) (q_var 3)) (qb_cons (qs_set 4 nd (q_op q_fdiv (q_op q_add (q_var 2) (q_var 3)) q_int))
  (qb_one (qs_if (qt_cmp q_le (q_sub1 (q_sub1 (q_var 0) (q_var 4)) q_int) (q_var 1)) (qb_one (qs_set 2 nd (q_op q_add (q_var 4) q_int))) (qb_one (qs_set 3 nd (q_var 4)))))))
  (qb_one (qs_ret (q_ifx (qt_w (qw_and (qt_cmp q_lt (q_var 2) (q_len T.n_len (qa_cons (q_var 0) qa_nil))) (qw_and1 (qt_cmp q_le (q_sub1 (q_sub1 (q_var 0) (q_var 2)) q_int) (q_var 1))))) (q_sub1 (q_sub1 (q_var 0) (q_var 2)) q_int) (q_tup qa_nil))))))
  exact ⟨_, qq.ps, qq.ss⟩
theorem ok_found_in (T : Tx K mg)   : Cal P wd K mg base (1) "found_in" 2 f_found_in [] := by
  obtain ⟨h1, fd, F⟩ := T.d_found_in
  exact ⟨⟨_, fd, _, [], h1, F.kp, F.bindsN (ps := ["table", "place"]) fun _ _ _ _ _ _ us hl => match us, hl with | [_, _], _ => rfl, .nil, okf_found_in T F  ⟩⟩
theorem okf_is_whole (T : Tx K mg) {fd : FuncData} (F : FunD K "is_whole" "is_whole" (defArgs S_is_whole) (defBody S_is_whole) (defScope S_is_whole) [] [] (He.ga K "is_whole") fd)   : FnOk P wd K mg base (L2.CX P wd) (1) (He.ga K "is_whole") fd ["thing", "low", "high"] (SpOf K 3 f_is_whole) := by
  refine ok_of F sc_is_whole rfl rfl fun cdv A outer s H E hr => ?_
  have nd := sc_is_whole.nd
  have tk : Takes (cxOf (L2.CX P wd) P wd K mg base NN_is_whole "is_whole" (defScope S_is_whole) (He.ga K "is_whole") cdv A outer s H E) (fun cls d _ H => E cls d H) := takes_of rfl rfl rfl rfl
  have hx : ∀ σ, PassesAt (L2.CX P wd) (cxOf (L2.CX P wd) P wd K mg base NN_is_whole "is_whole" (defScope S_is_whole) (He.ga K "is_whole") cdv A outer s H E) σ E := fun σ => passAt (W := fun cls d _ H => E cls d H) (takes_of rfl rfl rfl rfl) σ
  have hx0 : ∀ {X : Cx} (σ : L2.St), PassesAt (L2.CX X.prog X.w) X σ E0 := fun σ pins H s e s' I c => passL pins σ H s e s' I c
  have po : PassesOwn (model P wd) (cxOf (L2.CX P wd) P wd K mg base NN_is_whole "is_whole" (defScope S_is_whole) (He.ga K "is_whole") cdv A outer s H E).A (cxOf (L2.CX P wd) P wd K mg base NN_is_whole "is_whole" (defScope S_is_whole) (He.ga K "is_whole") cdv A outer s H E).env (cxOf (L2.CX P wd) P wd K mg base NN_is_whole "is_whole" (defScope S_is_whole) (He.ga K "is_whole") cdv A outer s H E).xe := passes_of rfl
  have qq : QB (cxOf (L2.CX P wd) P wd K mg base NN_is_whole "is_whole" (defScope S_is_whole) (He.ga K "is_whole") cdv A outer s H E) (fun _ => E) (defBody S_is_whole) _ (m_is_whole ) :=
  (qb_one (qs_ret (q_and (q_isi .int T.n_isinstance T.n_int (q_var 0)) (q_and (q_not (q_isi .bool T.n_isinstance T.n_bool (q_var 0))) (q_one (q_chain q_le q_le (q_var 1) (q_var 0) (q_var 2)))))))
  exact ⟨_, qq.ps, qq.ss⟩
theorem ok_is_whole (T : Tx K mg)   : Cal P wd K mg base (1) "is_whole" 3 f_is_whole [] := by
  obtain ⟨h1, fd, F⟩ := T.d_is_whole
  exact ⟨⟨_, fd, _, [], h1, F.kp, F.bindsN (ps := ["thing", "low", "high"]) fun _ _ _ _ _ _ us hl => match us, hl with | [_, _, _], _ => rfl, .nil, okf_is_whole T F  ⟩⟩
theorem okf_is_chain (T : Tx K mg) {fd : FuncData} (F : FunD K "is_chain" "is_chain" (defArgs S_is_chain) (defBody S_is_chain) (defScope S_is_chain) [] [] (He.ga K "is_chain") fd)  (C_is_whole : Cal P wd K mg base 1 "is_whole" 3 f_is_whole []) : FnOk P wd K mg base (L2.CX P wd) (2) (He.ga K "is_chain") fd ["chain"] (SpOf K 1 f_is_chain) := by
  refine ok_of F sc_is_chain rfl rfl fun cdv A outer s H E hr => ?_
  have nd := sc_is_chain.nd
  have tk : Takes (cxOf (L2.CX P wd) P wd K mg base NN_is_chain "is_chain" (defScope S_is_chain) (He.ga K "is_chain") cdv A outer s H E) (fun cls d _ H => E cls d H) := takes_of rfl rfl rfl rfl
  have hx : ∀ σ, PassesAt (L2.CX P wd) (cxOf (L2.CX P wd) P wd K mg base NN_is_chain "is_chain" (defScope S_is_chain) (He.ga K "is_chain") cdv A outer s H E) σ E := fun σ => passAt (W := fun cls d _ H => E cls d H) (takes_of rfl rfl rfl rfl) σ
  have hx0 : ∀ {X : Cx} (σ : L2.St), PassesAt (L2.CX X.prog X.w) X σ E0 := fun σ pins H s e s' I c => passL pins σ H s e s' I c
  have po : PassesOwn (model P wd) (cxOf (L2.CX P wd) P wd K mg base NN_is_chain "is_chain" (defScope S_is_chain) (He.ga K "is_chain") cdv A outer s H E).A (cxOf (L2.CX P wd) P wd K mg base NN_is_chain "is_chain" (defScope S_is_chain) (He.ga K "is_chain") cdv A outer s H E).env (cxOf (L2.CX P wd) P wd K mg base NN_is_chain "is_chain" (defScope S_is_chain) (He.ga K "is_chain") cdv A outer s H E).xe := passes_of rfl
  have qq : QB (cxOf (L2.CX P wd) P wd K mg base NN_is_chain "is_chain" (defScope S_is_chain) (He.ga K "is_chain") cdv A outer s H E) (fun _ => E) (defBody S_is_chain) _ (m_is_chain f_is_whole) :=
  (qb_cons (qs_if (qt_w (qw_or (qt_not (qt_val (q_isi .tuple T.n_isinstance T.n_tuple (q_var 0)))) (qw_or1 (qt_cmp (q_eq hr.units) (q_var 0) (q_tup qa_nil))))) (qb_one (qs_ret q_bl)) qb_nil)
  (qb_cons (qs_for po (by rfl) (qi_v (q_var 0)) (qg_name 1 nd) (qb_cons (qs_if (qt_w (qw_or (qt_not (qt_val (q_isi .tuple T.n_isinstance T.n_tuple (q_var 1)))) (qw_or (qt_cmp (q_ne hr.units) (q_len T.n_len (qa_cons (q_var 1) qa_nil)) q_int) (qw_or1 (qt_not (qt_val (q_call C_is_whole (hr.mono (by omega)) hx (qa_cons (q_sub1 (q_var 1) q_int) (qa_cons q_int (qa_cons (q_gint T.c_MOST_PLACE) qa_nil)))))))))) (qb_one (qs_ret q_bl)) qb_nil)
  (qb_one (qs_if (qt_w (qw_or (qt_w (qw_and (qt_cmp q_isNot (q_sub1 (q_var 1) q_int) q_non) (qw_and1 (qt_not (qt_val (q_call C_is_whole (hr.mono (by omega)) hx (qa_cons (q_sub1 (q_var 1) q_int) (qa_cons q_int (qa_cons (q_op q_sub (q_gint T.c_KINDS) q_int) qa_nil))))))))) (qw_or1 (qt_not (qt_val (q_isi .bool T.n_isinstance T.n_bool (q_sub1 (q_var 1) q_int))))))) (qb_one (qs_ret q_bl)) qb_nil))))
  (qb_one (qs_ret q_bl))))
  exact ⟨_, qq.ps, qq.ss⟩
theorem ok_is_chain (T : Tx K mg)  (C_is_whole : Cal P wd K mg base 1 "is_whole" 3 f_is_whole []) : Cal P wd K mg base (2) "is_chain" 1 f_is_chain [] := by
  obtain ⟨h1, fd, F⟩ := T.d_is_chain
  exact ⟨⟨_, fd, _, [], h1, F.kp, F.bindsN (ps := ["chain"]) fun _ _ _ _ _ _ us hl => match us, hl with | [_], _ => rfl, .nil, okf_is_chain T F  C_is_whole⟩⟩
theorem okf_is_table (T : Tx K mg) {fd : FuncData} (F : FunD K "is_table" "is_table" (defArgs S_is_table) (defBody S_is_table) (defScope S_is_table) [] [] (He.ga K "is_table") fd)  (C_is_chain : Cal P wd K mg base 2 "is_chain" 1 f_is_chain []) (C_is_whole : Cal P wd K mg base 1 "is_whole" 3 f_is_whole []) : FnOk P wd K mg base (L2.CX P wd) (3) (He.ga K "is_table") fd ["table"] (SpOf K 1 f_is_table) := by
  refine ok_of F sc_is_table rfl rfl fun cdv A outer s H E hr => ?_
  have nd := sc_is_table.nd
  have tk : Takes (cxOf (L2.CX P wd) P wd K mg base NN_is_table "is_table" (defScope S_is_table) (He.ga K "is_table") cdv A outer s H E) (fun cls d _ H => E cls d H) := takes_of rfl rfl rfl rfl
  have hx : ∀ σ, PassesAt (L2.CX P wd) (cxOf (L2.CX P wd) P wd K mg base NN_is_table "is_table" (defScope S_is_table) (He.ga K "is_table") cdv A outer s H E) σ E := fun σ => passAt (W := fun cls d _ H => E cls d H) (takes_of rfl rfl rfl rfl) σ
  have hx0 : ∀ {X : Cx} (σ : L2.St), PassesAt (L2.CX X.prog X.w) X σ E0 := fun σ pins H s e s' I c => passL pins σ H s e s' I c
  have po : PassesOwn (model P wd) (cxOf (L2.CX P wd) P wd K mg base NN_is_table "is_table" (defScope S_is_table) (He.ga K "is_table") cdv A outer s H E).A (cxOf (L2.CX P wd) P wd K mg base NN_is_table "is_table" (defScope S_is_table) (He.ga K "is_table") cdv A outer s H E).env (cxOf (L2.CX P wd) P wd K mg base NN_is_table "is_table" (defScope S_is_table) (He.ga K "is_table") cdv A outer s H E).xe := passes_of rfl
  have qq : QB (cxOf (L2.CX P wd) P wd K mg base NN_is_table "is_table" (defScope S_is_table) (He.ga K "is_table") cdv A outer s H E) (fun _ => E) (defBody S_is_table) _ (m_is_table f_is_chain f_is_whole) :=
  (qb_cons (qs_if (qt_not (qt_val (q_isi .list T.n_isinstance T.n_list (q_var 0)))) (qb_one (qs_ret q_bl)) qb_nil)
  (qb_cons (qs_set 1 nd q_int)
  (qb_cons (qs_for po (by rfl) (qi_v (q_var 0)) (qg_name 2 nd) (qb_cons (qs_if (qt_w (qw_or (qt_not (qt_val (q_isi .tuple T.n_isinstance T.n_tuple (q_var 2)))) (qw_or (qt_cmp (q_ne hr.units) (q_len T.n_len (qa_cons (q_var 2) qa_nil)) q_int) (qw_or1 (qt_not (qt_val (q_call C_is_chain (hr.mono (by omega)) hx (qa_cons (q_sub1 (q_var 2) q_int) qa_nil)))))))) (qb_one (qs_ret q_bl)) qb_nil)
  (qb_cons (qs_if (qt_w (qw_or (qt_not (qt_val (q_all (by rfl) T.n_all (qa_cons (q_L (by exact ql_comp (by rfl) nd (qi_v (q_slice (q_var 2) qp_none (qp_some q_int))) (blkOk_by (own := [("one", 3)]) (N := NN_is_table) (sc := defScope S_is_table) (by decide +kernel)) (fun _ _ _ _ _ => (qg_name 3 nd)) (fun _ _ _ _ _ => qts_nil) (fun _ _ _ _ _ => (q_call C_is_whole (hr.mono (by omega)) hx0 (qa_cons (q_var 3) (qa_cons q_int (qa_cons (q_gint T.c_MOST_PLACE) qa_nil))))))) qa_nil)))) (qw_or (qt_cmp q_lt (q_sub1 (q_var 2) q_int) (q_var 1)) (qw_or1 (qt_cmp q_le (q_sub1 (q_var 2) q_int) (q_sub1 (q_var 2) q_int)))))) (qb_one (qs_ret q_bl)) qb_nil)
  (qb_one (qs_set 1 nd (q_sub1 (q_var 2) q_int))))))
  (qb_one (qs_ret q_bl)))))
  exact ⟨_, qq.ps, qq.ss⟩
theorem ok_is_table (T : Tx K mg)  (C_is_chain : Cal P wd K mg base 2 "is_chain" 1 f_is_chain []) (C_is_whole : Cal P wd K mg base 1 "is_whole" 3 f_is_whole []) : Cal P wd K mg base (3) "is_table" 1 f_is_table [] := by
  obtain ⟨h1, fd, F⟩ := T.d_is_table
  exact ⟨⟨_, fd, _, [], h1, F.kp, F.bindsN (ps := ["table"]) fun _ _ _ _ _ _ us hl => match us, hl with | [_], _ => rfl, .nil, okf_is_table T F  C_is_chain C_is_whole⟩⟩
theorem okf_look_number (T : Tx K mg) {fd : FuncData} (F : FunD K "look_number" "look_number" (defArgs S_look_number) (defBody S_look_number) (defScope S_look_number) [] [] (He.ga K "look_number") fd)  (C_is_whole : Cal P wd K mg base 1 "is_whole" 3 f_is_whole []) : FnOk P wd K mg base (L2.CX P wd) (2) (He.ga K "look_number") fd ["thing", "low", "high"] (SpOf K 3 f_look_number) := by
  refine ok_of F sc_look_number rfl rfl fun cdv A outer s H E hr => ?_
  have nd := sc_look_number.nd
  have tk : Takes (cxOf (L2.CX P wd) P wd K mg base NN_look_number "look_number" (defScope S_look_number) (He.ga K "look_number") cdv A outer s H E) (fun cls d _ H => E cls d H) := takes_of rfl rfl rfl rfl
  have hx : ∀ σ, PassesAt (L2.CX P wd) (cxOf (L2.CX P wd) P wd K mg base NN_look_number "look_number" (defScope S_look_number) (He.ga K "look_number") cdv A outer s H E) σ E := fun σ => passAt (W := fun cls d _ H => E cls d H) (takes_of rfl rfl rfl rfl) σ
  have hx0 : ∀ {X : Cx} (σ : L2.St), PassesAt (L2.CX X.prog X.w) X σ E0 := fun σ pins H s e s' I c => passL pins σ H s e s' I c
  have po : PassesOwn (model P wd) (cxOf (L2.CX P wd) P wd K mg base NN_look_number "look_number" (defScope S_look_number) (He.ga K "look_number") cdv A outer s H E).A (cxOf (L2.CX P wd) P wd K mg base NN_look_number "look_number" (defScope S_look_number) (He.ga K "look_number") cdv A outer s H E).env (cxOf (L2.CX P wd) P wd K mg base NN_look_number "look_number" (defScope S_look_number) (He.ga K "look_number") cdv A outer s H E).xe := passes_of rfl
  have qq : QB (cxOf (L2.CX P wd) P wd K mg base NN_look_number "look_number" (defScope S_look_number) (He.ga K "look_number") cdv A outer s H E) (fun _ => E) (defBody S_look_number) _ (m_look_number f_is_whole) :=
  (qb_one (qs_if (qt_not (qt_val (q_call C_is_whole (hr.mono (by omega)) hx (qa_cons (q_var 0) (qa_cons (q_var 1) (qa_cons (q_var 2) qa_nil)))))) (qb_one (qs_raise rfl tk T.x_BadNumber T.g_BadNumber)) qb_nil))
  exact ⟨_, qq.ps, qq.ss⟩
theorem ok_look_number (T : Tx K mg)  (C_is_whole : Cal P wd K mg base 1 "is_whole" 3 f_is_whole []) : Cal P wd K mg base (2) "look_number" 3 f_look_number [] := by
  obtain ⟨h1, fd, F⟩ := T.d_look_number
  exact ⟨⟨_, fd, _, [], h1, F.kp, F.bindsN (ps := ["thing", "low", "high"]) fun _ _ _ _ _ _ us hl => match us, hl with | [_, _, _], _ => rfl, .nil, okf_look_number T F  C_is_whole⟩⟩
theorem okf_chosen (T : Tx K mg) {fd : FuncData} (F : FunD K "chosen" "chosen" (defArgs S_chosen) (defBody S_chosen) (defScope S_chosen) [] [] (He.ga K "chosen") fd)  (C_is_chain : Cal P wd K mg base 2 "is_chain" 1 f_is_chain []) (C_look_number : Cal P wd K mg base 2 "look_number" 3 f_look_number []) (C_choice : Cal P wd K mg base 1 "choice" 2 f_choice []) : FnOk P wd K mg base (L2.CX P wd) (3) (He.ga K "chosen") fd ["chain", "kind"] (SpOf K 2 f_chosen) := by
  refine ok_of F sc_chosen rfl rfl fun cdv A outer s H E hr => ?_
  have nd := sc_chosen.nd
  have tk : Takes (cxOf (L2.CX P wd) P wd K mg base NN_chosen "chosen" (defScope S_chosen) (He.ga K "chosen") cdv A outer s H E) (fun cls d _ H => E cls d H) := takes_of rfl rfl rfl rfl
  have hx : ∀ σ, PassesAt (L2.CX P wd) (cxOf (L2.CX P wd) P wd K mg base NN_chosen "chosen" (defScope S_chosen) (He.ga K "chosen") cdv A outer s H E) σ E := fun σ => passAt (W := fun cls d _ H => E cls d H) (takes_of rfl rfl rfl rfl) σ
  have hx0 : ∀ {X : Cx} (σ : L2.St), PassesAt (L2.CX X.prog X.w) X σ E0 := fun σ pins H s e s' I c => passL pins σ H s e s' I c
  have po : PassesOwn (model P wd) (cxOf (L2.CX P wd) P wd K mg base NN_chosen "chosen" (defScope S_chosen) (He.ga K "chosen") cdv A outer s H E).A (cxOf (L2.CX P wd) P wd K mg base NN_chosen "chosen" (defScope S_chosen) (He.ga K "chosen") cdv A outer s H E).env (cxOf (L2.CX P wd) P wd K mg base NN_chosen "chosen" (defScope S_chosen) (He.ga K "chosen") cdv A outer s H E).xe := passes_of rfl
  have qq : QB (cxOf (L2.CX P wd) P wd K mg base NN_chosen "chosen" (defScope S_chosen) (He.ga K "chosen") cdv A outer s H E) (fun _ => E) (defBody S_chosen) _ (m_chosen f_is_chain f_look_number f_choice) :=
  (qb_cons (qs_if (qt_w (qw_and (qt_cmp (q_ne hr.units) (q_var 0) (q_tup qa_nil)) (qw_and1 (qt_not (qt_val (q_call C_is_chain (hr.mono (by omega)) hx (qa_cons (q_var 0) qa_nil))))))) (qb_one (qs_raise rfl tk T.x_BadTable T.g_BadTable)) qb_nil)
  (qb_cons (qs_expr (q_call C_look_number (hr.mono (by omega)) hx (qa_cons (q_var 1) (qa_cons q_int (qa_cons (q_op q_sub (q_gint T.c_KINDS) q_int) qa_nil)))))
  (qb_one (qs_ret (q_call C_choice (hr.mono (by omega)) hx (qa_cons (q_var 0) (qa_cons (q_var 1) qa_nil)))))))
  exact ⟨_, qq.ps, qq.ss⟩
theorem ok_chosen (T : Tx K mg)  (C_is_chain : Cal P wd K mg base 2 "is_chain" 1 f_is_chain []) (C_look_number : Cal P wd K mg base 2 "look_number" 3 f_look_number []) (C_choice : Cal P wd K mg base 1 "choice" 2 f_choice []) : Cal P wd K mg base (3) "chosen" 2 f_chosen [] := by
  obtain ⟨h1, fd, F⟩ := T.d_chosen
  exact ⟨⟨_, fd, _, [], h1, F.kp, F.bindsN (ps := ["chain", "kind"]) fun _ _ _ _ _ _ us hl => match us, hl with | [_, _], _ => rfl, .nil, okf_chosen T F  C_is_chain C_look_number C_choice⟩⟩
theorem okf_look_table (T : Tx K mg) {fd : FuncData} (F : FunD K "look_table" "look_table" (defArgs S_look_table) (defBody S_look_table) (defScope S_look_table) [] [] (He.ga K "look_table") fd)  (C_is_table : Cal P wd K mg base 3 "is_table" 1 f_is_table []) : FnOk P wd K mg base (L2.CX P wd) (4) (He.ga K "look_table") fd ["table"] (SpOf K 1 f_look_table) := by
  refine ok_of F sc_look_table rfl rfl fun cdv A outer s H E hr => ?_
  have nd := sc_look_table.nd
  have tk : Takes (cxOf (L2.CX P wd) P wd K mg base NN_look_table "look_table" (defScope S_look_table) (He.ga K "look_table") cdv A outer s H E) (fun cls d _ H => E cls d H) := takes_of rfl rfl rfl rfl
  have hx : ∀ σ, PassesAt (L2.CX P wd) (cxOf (L2.CX P wd) P wd K mg base NN_look_table "look_table" (defScope S_look_table) (He.ga K "look_table") cdv A outer s H E) σ E := fun σ => passAt (W := fun cls d _ H => E cls d H) (takes_of rfl rfl rfl rfl) σ
  have hx0 : ∀ {X : Cx} (σ : L2.St), PassesAt (L2.CX X.prog X.w) X σ E0 := fun σ pins H s e s' I c => passL pins σ H s e s' I c
  have po : PassesOwn (model P wd) (cxOf (L2.CX P wd) P wd K mg base NN_look_table "look_table" (defScope S_look_table) (He.ga K "look_table") cdv A outer s H E).A (cxOf (L2.CX P wd) P wd K mg base NN_look_table "look_table" (defScope S_look_table) (He.ga K "look_table") cdv A outer s H E).env (cxOf (L2.CX P wd) P wd K mg base NN_look_table "look_table" (defScope S_look_table) (He.ga K "look_table") cdv A outer s H E).xe := passes_of rfl
  have qq : QB (cxOf (L2.CX P wd) P wd K mg base NN_look_table "look_table" (defScope S_look_table) (He.ga K "look_table") cdv A outer s H E) (fun _ => E) (defBody S_look_table) _ (m_look_table f_is_table) :=
  (qb_one (qs_if (qt_not (qt_val (q_call C_is_table (hr.mono (by omega)) hx (qa_cons (q_var 0) qa_nil)))) (qb_one (qs_raise rfl tk T.x_BadTable T.g_BadTable)) qb_nil))
  exact ⟨_, qq.ps, qq.ss⟩
theorem ok_look_table (T : Tx K mg)  (C_is_table : Cal P wd K mg base 3 "is_table" 1 f_is_table []) : Cal P wd K mg base (4) "look_table" 1 f_look_table [] := by
  obtain ⟨h1, fd, F⟩ := T.d_look_table
  exact ⟨⟨_, fd, _, [], h1, F.kp, F.bindsN (ps := ["table"]) fun _ _ _ _ _ _ us hl => match us, hl with | [_], _ => rfl, .nil, okf_look_table T F  C_is_table⟩⟩
theorem okf_joined (T : Tx K mg) {fd : FuncData} (F : FunD K "joined" "joined" (defArgs S_joined) (defBody S_joined) (defScope S_joined) [] [] (He.ga K "joined") fd)  (C_look_table : Cal P wd K mg base 4 "look_table" 1 f_look_table []) : FnOk P wd K mg base (L2.CX P wd) (5) (He.ga K "joined") fd ["table", "other"] (SpOf K 2 f_joined) := by
  refine ok_of F sc_joined rfl rfl fun cdv A outer s H E hr => ?_
  have nd := sc_joined.nd
  have tk : Takes (cxOf (L2.CX P wd) P wd K mg base NN_joined "joined" (defScope S_joined) (He.ga K "joined") cdv A outer s H E) (fun cls d _ H => E cls d H) := takes_of rfl rfl rfl rfl
  have hx : ∀ σ, PassesAt (L2.CX P wd) (cxOf (L2.CX P wd) P wd K mg base NN_joined "joined" (defScope S_joined) (He.ga K "joined") cdv A outer s H E) σ E := fun σ => passAt (W := fun cls d _ H => E cls d H) (takes_of rfl rfl rfl rfl) σ
  have hx0 : ∀ {X : Cx} (σ : L2.St), PassesAt (L2.CX X.prog X.w) X σ E0 := fun σ pins H s e s' I c => passL pins σ H s e s' I c
  have po : PassesOwn (model P wd) (cxOf (L2.CX P wd) P wd K mg base NN_joined "joined" (defScope S_joined) (He.ga K "joined") cdv A outer s H E).A (cxOf (L2.CX P wd) P wd K mg base NN_joined "joined" (defScope S_joined) (He.ga K "joined") cdv A outer s H E).env (cxOf (L2.CX P wd) P wd K mg base NN_joined "joined" (defScope S_joined) (He.ga K "joined") cdv A outer s H E).xe := passes_of rfl
  have qq : QB (cxOf (L2.CX P wd) P wd K mg base NN_joined "joined" (defScope S_joined) (He.ga K "joined") cdv A outer s H E) (fun _ => E) (defBody S_joined) _ (m_joined f_look_table) :=
  (qb_cons (qs_expr (q_call C_look_table (hr.mono (by omega)) hx (qa_cons (q_var 0) qa_nil)))
  (qb_cons (qs_expr (q_call C_look_table (hr.mono (by omega)) hx (qa_cons (q_var 1) qa_nil)))
  (qb_cons (qs_if (qt_w (qw_and (qt_cmp (q_ne hr.units) (q_var 0) (q_L (ql_disp qa_nil))) (qw_and (qt_cmp (q_ne hr.units) (q_var 1) (q_L (ql_disp qa_nil))) (qw_and1 (qt_cmp q_lt (q_sub1 (q_sub1 (q_var 1) q_int) q_int) (q_sub1 (q_sub1 (q_var 0) (q_neg q_int)) q_int)))))) (qb_one (qs_raise rfl tk T.x_BadTable T.g_BadTable)) qb_nil)
  (qb_one (qs_ret (q_L (ql_op ql_cat (q_L (ql_listOf T.n_list (qa_cons (q_var 0) qa_nil))) (q_L (ql_listOf T.n_list (qa_cons (q_var 1) qa_nil))))))))))
  exact ⟨_, qq.ps, qq.ss⟩
theorem ok_joined (T : Tx K mg)  (C_look_table : Cal P wd K mg base 4 "look_table" 1 f_look_table []) : Cal P wd K mg base (5) "joined" 2 f_joined [] := by
  obtain ⟨h1, fd, F⟩ := T.d_joined
  exact ⟨⟨_, fd, _, [], h1, F.kp, F.bindsN (ps := ["table", "other"]) fun _ _ _ _ _ _ us hl => match us, hl with | [_, _], _ => rfl, .nil, okf_joined T F  C_look_table⟩⟩
theorem okf_parting (T : Tx K mg) {fd : FuncData} (F : FunD K "parting" "parting" (defArgs S_parting) (defBody S_parting) (defScope S_parting) [] [] (He.ga K "parting") fd)  (C_look_table : Cal P wd K mg base 4 "look_table" 1 f_look_table []) (C_all_edges : Cal P wd K mg base 1 "all_edges" 1 f_all_edges []) (C_found_in : Cal P wd K mg base 1 "found_in" 2 f_found_in []) (C_choice : Cal P wd K mg base 1 "choice" 2 f_choice []) : FnOk P wd K mg base (L2.CX P wd) (5) (He.ga K "parting") fd ["table", "other"] (SpOf K 2 f_parting) := by
  refine ok_of F sc_parting rfl rfl fun cdv A outer s H E hr => ?_
  have nd := sc_parting.nd
  have tk : Takes (cxOf (L2.CX P wd) P wd K mg base NN_parting "parting" (defScope S_parting) (He.ga K "parting") cdv A outer s H E) (fun cls d _ H => E cls d H) := takes_of rfl rfl rfl rfl
  have hx : ∀ σ, PassesAt (L2.CX P wd) (cxOf (L2.CX P wd) P wd K mg base NN_parting "parting" (defScope S_parting) (He.ga K "parting") cdv A outer s H E) σ E := fun σ => passAt (W := fun cls d _ H => E cls d H) (takes_of rfl rfl rfl rfl) σ
  have hx0 : ∀ {X : Cx} (σ : L2.St), PassesAt (L2.CX X.prog X.w) X σ E0 := fun σ pins H s e s' I c => passL pins σ H s e s' I c
  have po : PassesOwn (model P wd) (cxOf (L2.CX P wd) P wd K mg base NN_parting "parting" (defScope S_parting) (He.ga K "parting") cdv A outer s H E).A (cxOf (L2.CX P wd) P wd K mg base NN_parting "parting" (defScope S_parting) (He.ga K "parting") cdv A outer s H E).env (cxOf (L2.CX P wd) P wd K mg base NN_parting "parting" (defScope S_parting) (He.ga K "parting") cdv A outer s H E).xe := passes_of rfl
  have qq : QB (cxOf (L2.CX P wd) P wd K mg base NN_parting "parting" (defScope S_parting) (He.ga K "parting") cdv A outer s H E) (fun _ => E) (defBody S_parting) _ (m_parting f_look_table f_all_edges f_found_in f_choice) :=
  (qb_cons (qs_expr (q_call C_look_table (hr.mono (by omega)) hx (qa_cons (q_var 0) qa_nil)))
  (qb_cons (qs_expr (q_call C_look_table (hr.mono (by omega)) hx (qa_cons (q_var 1) qa_nil)))
  (qb_cons (qs_for po (by rfl) (qi_v (q_L (ql_sortSet (by rfl) T.n_sorted T.n_set (qa_cons (q_op q_add (q_call C_all_edges (hr.mono (by omega)) hx (qa_cons (q_var 0) qa_nil)) (q_call C_all_edges (hr.mono (by omega)) hx (qa_cons (q_var 1) qa_nil))) qa_nil)))) (qg_name 2 nd) (qb_cons (qs_par 3 4 (by rfl) nd (qa_cons (q_call C_found_in (hr.mono (by omega)) hx (qa_cons (q_var 0) (qa_cons (q_var 2) qa_nil))) (qa_cons (q_call C_found_in (hr.mono (by omega)) hx (qa_cons (q_var 1) (qa_cons (q_var 2) qa_nil))) qa_nil)))
  (qb_one (qs_for po (by rfl) (qi_r1 T.n_range (qa_cons (q_gint T.c_KINDS) qa_nil)) (qg_name 5 nd) (qb_one (qs_if (qt_cmp (q_ne hr.units) (q_call C_choice (hr.mono (by omega)) hx (qa_cons (q_var 3) (qa_cons (q_var 5) qa_nil))) (q_call C_choice (hr.mono (by omega)) hx (qa_cons (q_var 4) (qa_cons (q_var 5) qa_nil)))) (qb_one (qs_ret (q_tup (qa_cons (q_var 2) (qa_cons (q_var 5) qa_nil))))) qb_nil))))))
  (qb_one (qs_ret q_non)))))
  exact ⟨_, qq.ps, qq.ss⟩
theorem ok_parting (T : Tx K mg)  (C_look_table : Cal P wd K mg base 4 "look_table" 1 f_look_table []) (C_all_edges : Cal P wd K mg base 1 "all_edges" 1 f_all_edges []) (C_found_in : Cal P wd K mg base 1 "found_in" 2 f_found_in []) (C_choice : Cal P wd K mg base 1 "choice" 2 f_choice []) : Cal P wd K mg base (5) "parting" 2 f_parting [] := by
  obtain ⟨h1, fd, F⟩ := T.d_parting
  exact ⟨⟨_, fd, _, [], h1, F.kp, F.bindsN (ps := ["table", "other"]) fun _ _ _ _ _ _ us hl => match us, hl with | [_, _], _ => rfl, .nil, okf_parting T F  C_look_table C_all_edges C_found_in C_choice⟩⟩
theorem vals_shifted_by {vs mz zs : List V} {us mv ws : List Value} (r1 : Vals vs us) (r2 : Vals mz mv) (r3 : Vals zs ws) : Vals (g_shifted_by_ vs mz zs) (g_shifted_by_ us mv ws) := by
  unfold g_shifted_by_
  refine r1.append ?_
  rcases r2 with _ | ⟨a0, r2⟩ <;> (try rcases r2 with _ | ⟨a1, r2⟩) <;> (try rcases r2 with _ | ⟨a2, r2⟩) <;> (try rcases r2 with _ | ⟨a3, r2⟩) <;> rcases r3 with _ | ⟨b0, r3⟩ <;> (try rcases r3 with _ | ⟨b1, r3⟩) <;> (try rcases r3 with _ | ⟨b2, r3⟩) <;> (try rcases r3 with _ | ⟨b3, r3⟩) <;> (try rcases r3 with _ | ⟨b4, r3⟩) <;> first | exact .nil | exact (.cons (by assumption) .nil) | exact (.cons (by assumption) (.cons (by assumption) .nil)) | exact (.cons (by assumption) (.cons (by assumption) (.cons (by assumption) .nil))) | exact (.cons (by assumption) (.cons (by assumption) (.cons (by assumption) (.cons (by assumption) .nil)))) | exact (.cons (by assumption) (.cons (by assumption) (.cons (by assumption) (.cons (by assumption) (.cons (by assumption) .nil)))))
theorem okf_shifted (T : Tx K mg) {fd : FuncData} (F : FunD K "shifted" "shifted" (defArgs S_shifted) (defBody S_shifted) (defScope S_shifted) [] [] (He.ga K "shifted") fd)  (C_look_table : Cal P wd K mg base 4 "look_table" 1 f_look_table []) (C_is_whole : Cal P wd K mg base 1 "is_whole" 3 f_is_whole []) : FnOk P wd K mg base (L2.CX P wd) (5) (He.ga K "shifted") fd ["table", "by"] (SpOf K 2 f_shifted) := by
  refine ok_of F sc_shifted rfl rfl fun cdv A outer s H E hr => ?_
  have nd := sc_shifted.nd
  have tk : Takes (cxOf (L2.CX P wd) P wd K mg base NN_shifted "shifted" (defScope S_shifted) (He.ga K "shifted") cdv A outer s H E) (fun cls d _ H => E cls d H) := takes_of rfl rfl rfl rfl
  have hx : ∀ σ, PassesAt (L2.CX P wd) (cxOf (L2.CX P wd) P wd K mg base NN_shifted "shifted" (defScope S_shifted) (He.ga K "shifted") cdv A outer s H E) σ E := fun σ => passAt (W := fun cls d _ H => E cls d H) (takes_of rfl rfl rfl rfl) σ
  have hx0 : ∀ {X : Cx} (σ : L2.St), PassesAt (L2.CX X.prog X.w) X σ E0 := fun σ pins H s e s' I c => passL pins σ H s e s' I c
  have po : PassesOwn (model P wd) (cxOf (L2.CX P wd) P wd K mg base NN_shifted "shifted" (defScope S_shifted) (He.ga K "shifted") cdv A outer s H E).A (cxOf (L2.CX P wd) P wd K mg base NN_shifted "shifted" (defScope S_shifted) (He.ga K "shifted") cdv A outer s H E).env (cxOf (L2.CX P wd) P wd K mg base NN_shifted "shifted" (defScope S_shifted) (He.ga K "shifted") cdv A outer s H E).xe := passes_of rfl
  have qq : QB (cxOf (L2.CX P wd) P wd K mg base NN_shifted "shifted" (defScope S_shifted) (He.ga K "shifted") cdv A outer s H E) (fun _ => E) (defBody S_shifted) _ (m_shifted f_look_table f_is_whole) :=
  (qb_cons (qs_expr (q_call C_look_table (hr.mono (by omega)) hx (qa_cons (q_var 0) qa_nil)))
  (qb_cons (qs_if (qt_not (qt_val (q_call C_is_whole (hr.mono (by omega)) hx (qa_cons (q_var 1) (qa_cons q_int (qa_cons q_int qa_nil)))))) (qb_one (qs_raise rfl tk T.x_BadNumber T.g_BadNumber)) qb_nil)
  (qb_cons (qs_set 2 nd (q_H (ql_disp qa_nil)))
  (qb_cons (qs_for po (by rfl) (qi_v (q_var 0)) (qg_tup 3 (by rfl) (qgs_cons (qg_name 3 nd) (qgs_cons (qg_name 4 nd) (qgs_cons (qg_name 5 nd) qgs_nil)))) (qb_one (qs_expr (q_app (q_var 2) (q_tup (qa_cons (q_op q_add (q_var 3) (q_var 1)) (qa_cons (q_op q_add (q_var 4) (q_var 1)) (qa_cons (q_tupleOf T.n_tuple (qa_cons (q_L (by exact ql_comp (by rfl) nd (qi_v (q_var 5)) (blkOk_by (own := [("kind", 6), ("goal", 7), ("clean", 8)]) (N := NN_shifted) (sc := defScope S_shifted) (by decide +kernel)) (fun _ _ _ _ _ => (qg_tup 3 (by rfl) (qgs_cons (qg_name 6 nd) (qgs_cons (qg_name 7 nd) (qgs_cons (qg_name 8 nd) qgs_nil))))) (fun _ _ _ _ _ => qts_nil) (fun _ _ _ _ _ => (q_tup (qa_cons (q_var 6) (qa_cons (q_op q_add (q_var 7) (q_var 1)) (qa_cons (q_var 8) qa_nil))))))) qa_nil)) qa_nil))))))))
  (qb_cons (qs_expr (q_call C_look_table (hr.mono (by omega)) hx (qa_cons (q_var 2) qa_nil)))
  (qb_one (qs_ret (q_F (q_var 2)))))))))
  exact ⟨_, qq.ps, qq.ss⟩
theorem ok_shifted_by (T : Tx K mg)  (C_look_table : Cal P wd K mg base 4 "look_table" 1 f_look_table []) (C_is_whole : Cal P wd K mg base 1 "is_whole" 3 f_is_whole []) : CalK P wd K mg base (5) "shifted" 1 ["by"] 2 f_shifted (gV_shifted_by K) gD_shifted_by := by
  obtain ⟨h1, fd, F⟩ := T.d_shifted
  obtain ⟨mv, hb⟩ := kbindsE (ps := ["table", "by"]) F 1 ["by"] (fun us mv ws => g_shifted_by_ us mv ws) (fun r1 r2 r3 => vals_shifted_by r1 r2 r3) fun kV doc pm an cdv ct us ws h1 h2 => match us, ws, h1, h2 with | [_], [_], _, _ => rfl
  refine ⟨⟨_, fd, _, _, h1, F.kp, hb, okf_shifted T F  C_look_table C_is_whole⟩, fun w vs zs ds es m rv rz l1 l2 => ?_⟩
  unfold gV_shifted_by gD_shifted_by g_shifted_by_
  refine rv.append ?_
  match zs, es, rz, l2 with
  | [_], [_], .cons r_by (.nil), _ => exact .cons r_by (.nil)
theorem okf_slim (T : Tx K mg) {fd : FuncData} (F : FunD K "slim" "slim" (defArgs S_slim) (defBody S_slim) (defScope S_slim) [] [] (He.ga K "slim") fd)  (C_all_choices : Cal P wd K mg base 2 "all_choices" 1 f_all_choices []) : FnOk P wd K mg base (L2.CX P wd) (3) (He.ga K "slim") fd ["chain"] (SpOf K 1 f_slim) := by
  refine ok_of F sc_slim rfl rfl fun cdv A outer s H E hr => ?_
  have nd := sc_slim.nd
  have tk : Takes (cxOf (L2.CX P wd) P wd K mg base NN_slim "slim" (defScope S_slim) (He.ga K "slim") cdv A outer s H E) (fun cls d _ H => E cls d H) := takes_of rfl rfl rfl rfl
  have hx : ∀ σ, PassesAt (L2.CX P wd) (cxOf (L2.CX P wd) P wd K mg base NN_slim "slim" (defScope S_slim) (He.ga K "slim") cdv A outer s H E) σ E := fun σ => passAt (W := fun cls d _ H => E cls d H) (takes_of rfl rfl rfl rfl) σ
  have hx0 : ∀ {X : Cx} (σ : L2.St), PassesAt (L2.CX X.prog X.w) X σ E0 := fun σ pins H s e s' I c => passL pins σ H s e s' I c
  have po : PassesOwn (model P wd) (cxOf (L2.CX P wd) P wd K mg base NN_slim "slim" (defScope S_slim) (He.ga K "slim") cdv A outer s H E).A (cxOf (L2.CX P wd) P wd K mg base NN_slim "slim" (defScope S_slim) (He.ga K "slim") cdv A outer s H E).env (cxOf (L2.CX P wd) P wd K mg base NN_slim "slim" (defScope S_slim) (He.ga K "slim") cdv A outer s H E).xe := passes_of rfl
  have qq : QB (cxOf (L2.CX P wd) P wd K mg base NN_slim "slim" (defScope S_slim) (He.ga K "slim") cdv A outer s H E) (fun _ => E) (defBody S_slim) _ (m_slim f_all_choices) :=
  (qb_cons (qs_set 1 nd (q_call C_all_choices (hr.mono (by omega)) hx (qa_cons (q_var 0) qa_nil)))
  (qb_cons (qs_set 2 nd (q_op q_sub (q_len T.n_len (qa_cons (q_var 0) qa_nil)) q_int))
  (qb_cons (qs_while 1000000 po (qt_cmp q_ge (q_var 2) q_int) (qb_cons (qs_set 3 nd (q_op q_add (q_slice (q_var 0) qp_none (qp_some (q_var 2))) (q_slice (q_var 0) (qp_some (q_op q_add (q_var 2) q_int)) qp_none)))
  (qb_cons (qs_if (qt_cmp (q_eq hr.units) (q_call C_all_choices (hr.mono (by omega)) hx (qa_cons (q_var 3) qa_nil)) (q_var 1)) (qb_cons (qs_set 0 nd (q_var 3))
  (qb_one (qs_set 2 nd (q_len T.n_len (qa_cons (q_var 0) qa_nil))))) qb_nil)
  (qb_one (qs_aug 2 nd ip_sub q_int)))))
  (qb_one (qs_ret (q_var 0))))))
  exact ⟨_, qq.ps, qq.ss⟩
theorem ok_slim (T : Tx K mg)  (C_all_choices : Cal P wd K mg base 2 "all_choices" 1 f_all_choices []) : Cal P wd K mg base (3) "slim" 1 f_slim [] := by
  obtain ⟨h1, fd, F⟩ := T.d_slim
  exact ⟨⟨_, fd, _, [], h1, F.kp, F.bindsN (ps := ["chain"]) fun _ _ _ _ _ _ us hl => match us, hl with | [_], _ => rfl, .nil, okf_slim T F  C_all_choices⟩⟩
theorem okf_trimmed (T : Tx K mg) {fd : FuncData} (F : FunD K "trimmed" "trimmed" (defArgs S_trimmed) (defBody S_trimmed) (defScope S_trimmed) [] [] (He.ga K "trimmed") fd)  (C_look_table : Cal P wd K mg base 4 "look_table" 1 f_look_table []) (C_slim : Cal P wd K mg base 3 "slim" 1 f_slim []) : FnOk P wd K mg base (L2.CX P wd) (5) (He.ga K "trimmed") fd ["table"] (SpOf K 1 f_trimmed) := by
  refine ok_of F sc_trimmed rfl rfl fun cdv A outer s H E hr => ?_
  have nd := sc_trimmed.nd
  have tk : Takes (cxOf (L2.CX P wd) P wd K mg base NN_trimmed "trimmed" (defScope S_trimmed) (He.ga K "trimmed") cdv A outer s H E) (fun cls d _ H => E cls d H) := takes_of rfl rfl rfl rfl
  have hx : ∀ σ, PassesAt (L2.CX P wd) (cxOf (L2.CX P wd) P wd K mg base NN_trimmed "trimmed" (defScope S_trimmed) (He.ga K "trimmed") cdv A outer s H E) σ E := fun σ => passAt (W := fun cls d _ H => E cls d H) (takes_of rfl rfl rfl rfl) σ
  have hx0 : ∀ {X : Cx} (σ : L2.St), PassesAt (L2.CX X.prog X.w) X σ E0 := fun σ pins H s e s' I c => passL pins σ H s e s' I c
  have po : PassesOwn (model P wd) (cxOf (L2.CX P wd) P wd K mg base NN_trimmed "trimmed" (defScope S_trimmed) (He.ga K "trimmed") cdv A outer s H E).A (cxOf (L2.CX P wd) P wd K mg base NN_trimmed "trimmed" (defScope S_trimmed) (He.ga K "trimmed") cdv A outer s H E).env (cxOf (L2.CX P wd) P wd K mg base NN_trimmed "trimmed" (defScope S_trimmed) (He.ga K "trimmed") cdv A outer s H E).xe := passes_of rfl
  have qq : QB (cxOf (L2.CX P wd) P wd K mg base NN_trimmed "trimmed" (defScope S_trimmed) (He.ga K "trimmed") cdv A outer s H E) (fun _ => E) (defBody S_trimmed) _ (m_trimmed f_look_table f_slim) :=
  (qb_cons (qs_expr (q_call C_look_table (hr.mono (by omega)) hx (qa_cons (q_var 0) qa_nil)))
  (qb_cons (qs_set 1 nd (q_H (ql_disp qa_nil)))
  (qb_cons (qs_for po (by rfl) (qi_v (q_var 0)) (qg_tup 3 (by rfl) (qgs_cons (qg_name 2 nd) (qgs_cons (qg_name 3 nd) (qgs_cons (qg_name 4 nd) qgs_nil)))) (qb_cons (qs_set 4 nd (q_call C_slim (hr.mono (by omega)) hx (qa_cons (q_var 4) qa_nil)))
  (qb_one (qs_if (qt_w (qw_and (qt_cmp (q_ne hr.units) (q_var 1) (q_L (ql_disp qa_nil))) (qw_and (qt_cmp (q_eq hr.units) (q_sub1 (q_sub1 (q_var 1) (q_neg q_int)) q_int) (q_var 2)) (qw_and1 (qt_cmp (q_eq hr.units) (q_sub1 (q_sub1 (q_var 1) (q_neg q_int)) q_int) (q_var 4)))))) (qb_one (qs_setI (q_tup (qa_cons (q_sub1 (q_sub1 (q_var 1) (q_neg q_int)) q_int) (qa_cons (q_var 3) (qa_cons (q_var 4) qa_nil)))) (q_var 1) (q_neg q_int))) (qb_one (qs_expr (q_app (q_var 1) (q_tup (qa_cons (q_var 2) (qa_cons (q_var 3) (qa_cons (q_var 4) qa_nil)))))))))))
  (qb_one (qs_ret (q_F (q_var 1)))))))
  exact ⟨_, qq.ps, qq.ss⟩
theorem ok_trimmed (T : Tx K mg)  (C_look_table : Cal P wd K mg base 4 "look_table" 1 f_look_table []) (C_slim : Cal P wd K mg base 3 "slim" 1 f_slim []) : Cal P wd K mg base (5) "trimmed" 1 f_trimmed [] := by
  obtain ⟨h1, fd, F⟩ := T.d_trimmed
  exact ⟨⟨_, fd, _, [], h1, F.kp, F.bindsN (ps := ["table"]) fun _ _ _ _ _ _ us hl => match us, hl with | [_], _ => rfl, .nil, okf_trimmed T F  C_look_table C_slim⟩⟩
theorem okf__law_does (T : Tx K mg) {fd : FuncData} (F : FunD K "_law_does" "_law_does" (defArgs S__law_does) (defBody S__law_does) (defScope S__law_does) [] [] (He.ga K "_law_does") fd)  (C_shifted_by : CalK P wd K mg base 5 "shifted" 1 ["by"] 2 f_shifted (gV_shifted_by K) gD_shifted_by) (C_joined : Cal P wd K mg base 5 "joined" 2 f_joined []) (C_parting : Cal P wd K mg base 5 "parting" 2 f_parting []) (C_trimmed : Cal P wd K mg base 5 "trimmed" 1 f_trimmed []) (C_chosen : Cal P wd K mg base 3 "chosen" 2 f_chosen []) : FnOk P wd K mg base (L2.CX P wd) (6) (He.ga K "_law_does") fd ["kind", "one", "two"] (SpOf K 3 f__law_does) := by
  refine ok_of F sc__law_does rfl rfl fun cdv A outer s H E hr => ?_
  have nd := sc__law_does.nd
  have tk : Takes (cxOf (L2.CX P wd) P wd K mg base NN__law_does "_law_does" (defScope S__law_does) (He.ga K "_law_does") cdv A outer s H E) (fun cls d _ H => E cls d H) := takes_of rfl rfl rfl rfl
  have hx : ∀ σ, PassesAt (L2.CX P wd) (cxOf (L2.CX P wd) P wd K mg base NN__law_does "_law_does" (defScope S__law_does) (He.ga K "_law_does") cdv A outer s H E) σ E := fun σ => passAt (W := fun cls d _ H => E cls d H) (takes_of rfl rfl rfl rfl) σ
  have hx0 : ∀ {X : Cx} (σ : L2.St), PassesAt (L2.CX X.prog X.w) X σ E0 := fun σ pins H s e s' I c => passL pins σ H s e s' I c
  have po : PassesOwn (model P wd) (cxOf (L2.CX P wd) P wd K mg base NN__law_does "_law_does" (defScope S__law_does) (He.ga K "_law_does") cdv A outer s H E).A (cxOf (L2.CX P wd) P wd K mg base NN__law_does "_law_does" (defScope S__law_does) (He.ga K "_law_does") cdv A outer s H E).env (cxOf (L2.CX P wd) P wd K mg base NN__law_does "_law_does" (defScope S__law_does) (He.ga K "_law_does") cdv A outer s H E).xe := passes_of rfl
  have qq : QB (cxOf (L2.CX P wd) P wd K mg base NN__law_does "_law_does" (defScope S__law_does) (He.ga K "_law_does") cdv A outer s H E) (fun _ => E) (defBody S__law_does) _ (m__law_does f_shifted f_joined f_parting f_trimmed f_chosen) :=
  (qb_cons (qs_if (qt_cmp (q_eq hr.units) (q_var 0) q_int) (qb_one (qs_ret (q_callN C_shifted_by (hr.mono (by omega)) hx (qa_cons (q_var 1) qa_nil) (qk_cons (q_var 2) qk_nil)))) qb_nil)
  (qb_cons (qs_if (qt_cmp (q_eq hr.units) (q_var 0) q_int) (qb_one (qs_ret (q_call C_joined (hr.mono (by omega)) hx (qa_cons (q_var 1) (qa_cons (q_var 2) qa_nil))))) qb_nil)
  (qb_cons (qs_if (qt_cmp (q_eq hr.units) (q_var 0) q_int) (qb_one (qs_ret (q_call C_parting (hr.mono (by omega)) hx (qa_cons (q_var 1) (qa_cons (q_var 2) qa_nil))))) qb_nil)
  (qb_one (qs_ret (q_ifx (qt_cmp (q_eq hr.units) (q_var 0) q_int) (q_call C_trimmed (hr.mono (by omega)) hx (qa_cons (q_var 1) qa_nil)) (q_call C_chosen (hr.mono (by omega)) hx (qa_cons (q_var 1) (qa_cons (q_var 2) qa_nil)))))))))
  exact ⟨_, qq.ps, qq.ss⟩
theorem ok__law_does (T : Tx K mg)  (C_shifted_by : CalK P wd K mg base 5 "shifted" 1 ["by"] 2 f_shifted (gV_shifted_by K) gD_shifted_by) (C_joined : Cal P wd K mg base 5 "joined" 2 f_joined []) (C_parting : Cal P wd K mg base 5 "parting" 2 f_parting []) (C_trimmed : Cal P wd K mg base 5 "trimmed" 1 f_trimmed []) (C_chosen : Cal P wd K mg base 3 "chosen" 2 f_chosen []) : Cal P wd K mg base (6) "_law_does" 3 f__law_does [] := by
  obtain ⟨h1, fd, F⟩ := T.d__law_does
  exact ⟨⟨_, fd, _, [], h1, F.kp, F.bindsN (ps := ["kind", "one", "two"]) fun _ _ _ _ _ _ us hl => match us, hl with | [_, _, _], _ => rfl, .nil, okf__law_does T F  C_shifted_by C_joined C_parting C_trimmed C_chosen⟩⟩
theorem okf__law_asked (T : Tx K mg) {fd : FuncData} (F : FunD K "_law_asked" "_law_asked" (defArgs S__law_asked) (defBody S__law_asked) (defScope S__law_asked) [] [] (He.ga K "_law_asked") fd)  (C__law_does : Cal P wd K mg base 6 "_law_does" 3 f__law_does []) (C__law_refusal : Cal P wd K mg base 1 "_law_refusal" 1 f__law_refusal []) : FnOk P wd K mg base (L2.CX P wd) (7) (He.ga K "_law_asked") fd ["kind", "one", "two"] (SpOf K 3 f__law_asked) := by
  refine ok_of F sc__law_asked rfl rfl fun cdv A outer s H E hr => ?_
  have nd := sc__law_asked.nd
  have tk : Takes (cxOf (L2.CX P wd) P wd K mg base NN__law_asked "_law_asked" (defScope S__law_asked) (He.ga K "_law_asked") cdv A outer s H E) (fun cls d _ H => E cls d H) := takes_of rfl rfl rfl rfl
  have hx : ∀ σ, PassesAt (L2.CX P wd) (cxOf (L2.CX P wd) P wd K mg base NN__law_asked "_law_asked" (defScope S__law_asked) (He.ga K "_law_asked") cdv A outer s H E) σ E := fun σ => passAt (W := fun cls d _ H => E cls d H) (takes_of rfl rfl rfl rfl) σ
  have hx0 : ∀ {X : Cx} (σ : L2.St), PassesAt (L2.CX X.prog X.w) X σ E0 := fun σ pins H s e s' I c => passL pins σ H s e s' I c
  have po : PassesOwn (model P wd) (cxOf (L2.CX P wd) P wd K mg base NN__law_asked "_law_asked" (defScope S__law_asked) (He.ga K "_law_asked") cdv A outer s H E).A (cxOf (L2.CX P wd) P wd K mg base NN__law_asked "_law_asked" (defScope S__law_asked) (He.ga K "_law_asked") cdv A outer s H E).env (cxOf (L2.CX P wd) P wd K mg base NN__law_asked "_law_asked" (defScope S__law_asked) (He.ga K "_law_asked") cdv A outer s H E).xe := passes_of rfl
  have qq : QB (cxOf (L2.CX P wd) P wd K mg base NN__law_asked "_law_asked" (defScope S__law_asked) (He.ga K "_law_asked") cdv A outer s H E) (fun _ => E) (defBody S__law_asked) _ (m__law_asked f__law_does f__law_refusal) :=
  (qb_cons (qs_set 3 nd q_non)
  (qb_cons (qs_set 4 nd q_non)
  (qb_cons (qs_try (cs := ["LaneError", "BadNumber", "BadTree", "BadOrder", "BadTable", "Stuck", "Over", "BadText"]) 5 4 rfl rfl rfl nd T.m_LaneError T.g_LaneError (fun W pn xe tk2 => have hx := fun σ => passAt (W := W) tk2 σ; (qx_set 3 nd (q_call C__law_does (hr.mono (by omega)) hx (qa_cons (q_var 0) (qa_cons (q_var 1) (qa_cons (q_var 2) qa_nil)))))))
  (qb_one (qs_ret (q_ifx (qt_cmp q_is (q_var 4) q_non) (q_var 3) (q_call C__law_refusal (hr.mono (by omega)) hx (qa_cons (q_var 4) qa_nil))))))))
  exact ⟨_, qq.ps, qq.ss⟩
theorem ok__law_asked (T : Tx K mg)  (C__law_does : Cal P wd K mg base 6 "_law_does" 3 f__law_does []) (C__law_refusal : Cal P wd K mg base 1 "_law_refusal" 1 f__law_refusal []) : Cal P wd K mg base (7) "_law_asked" 3 f__law_asked [] := by
  obtain ⟨h1, fd, F⟩ := T.d__law_asked
  exact ⟨⟨_, fd, _, [], h1, F.kp, F.bindsN (ps := ["kind", "one", "two"]) fun _ _ _ _ _ _ us hl => match us, hl with | [_, _, _], _ => rfl, .nil, okf__law_asked T F  C__law_does C__law_refusal⟩⟩
theorem okf_law (T : Tx K mg) {fd : FuncData} (F : FunD K "law" "law" (defArgs S_law) (defBody S_law) (defScope S_law) [] [] (He.ga K "law") fd)  (C__law_town : Cal P wd K mg base 1 "_law_town" 1 f__law_town []) (C__law_table : Cal P wd K mg base 4 "_law_table" 1 f__law_table []) (C__law_draw : Cal P wd K mg base 1 "_law_draw" 2 f__law_draw []) (C__law_pick : Cal P wd K mg base 2 "_law_pick" 2 f__law_pick []) (C__law_asked : Cal P wd K mg base 7 "_law_asked" 3 f__law_asked []) (C_joined : Cal P wd K mg base 5 "joined" 2 f_joined []) : FnOk P wd K mg base (L2.CX P wd) (8) (He.ga K "law") fd ["script"] (SpOf K 1 f_law) := by
  refine ok_of F sc_law rfl rfl fun cdv A outer s H E hr => ?_
  have nd := sc_law.nd
  have tk : Takes (cxOf (L2.CX P wd) P wd K mg base NN_law "law" (defScope S_law) (He.ga K "law") cdv A outer s H E) (fun cls d _ H => E cls d H) := takes_of rfl rfl rfl rfl
  have hx : ∀ σ, PassesAt (L2.CX P wd) (cxOf (L2.CX P wd) P wd K mg base NN_law "law" (defScope S_law) (He.ga K "law") cdv A outer s H E) σ E := fun σ => passAt (W := fun cls d _ H => E cls d H) (takes_of rfl rfl rfl rfl) σ
  have hx0 : ∀ {X : Cx} (σ : L2.St), PassesAt (L2.CX X.prog X.w) X σ E0 := fun σ pins H s e s' I c => passL pins σ H s e s' I c
  have po : PassesOwn (model P wd) (cxOf (L2.CX P wd) P wd K mg base NN_law "law" (defScope S_law) (He.ga K "law") cdv A outer s H E).A (cxOf (L2.CX P wd) P wd K mg base NN_law "law" (defScope S_law) (He.ga K "law") cdv A outer s H E).env (cxOf (L2.CX P wd) P wd K mg base NN_law "law" (defScope S_law) (He.ga K "law") cdv A outer s H E).xe := passes_of rfl
  have qq : QB (cxOf (L2.CX P wd) P wd K mg base NN_law "law" (defScope S_law) (He.ga K "law") cdv A outer s H E) (fun _ => E) (defBody S_law) _ (m_law f__law_town f__law_table f__law_draw f__law_pick f__law_asked f_joined) :=
  (qb_cons (qs_set 1 nd (q_call C__law_town (hr.mono (by omega)) hx (qa_cons (q_var 0) qa_nil)))
  (qb_cons (qs_set 2 nd (q_call C__law_table (hr.mono (by omega)) hx (qa_cons (q_var 1) qa_nil)))
  (qb_cons (qs_set 3 nd (q_call C__law_pick (hr.mono (by omega)) hx (qa_cons (q_var 1) (qa_cons (q_L (ql_disp (qa_cons q_int (qa_cons q_int (qa_cons q_int (qa_cons q_int (qa_cons (q_call C__law_draw (hr.mono (by omega)) hx (qa_cons (q_var 1) (qa_cons q_int qa_nil))) qa_nil))))))) qa_nil))))
  (qb_cons (qs_set 4 nd (q_call C__law_asked (hr.mono (by omega)) hx (qa_cons q_int (qa_cons (q_var 2) (qa_cons (q_var 3) qa_nil)))))
  (qb_cons (qs_set 5 nd (q_H (ql_disp qa_nil)))
  (qb_cons (qs_for po (by rfl) (qi_v (q_var 2)) (qg_tup 3 (by rfl) (qgs_cons (qg_name 6 nd) (qgs_cons (qg_name 7 nd) (qgs_cons (qg_name 8 nd) qgs_nil)))) (qb_one (qs_expr (q_app (q_var 5) (q_tup (qa_cons (q_op q_add (q_var 6) (q_var 3)) (qa_cons (q_op q_add (q_var 7) (q_var 3)) (qa_cons (q_tupleOf T.n_tuple (qa_cons (q_L (by exact ql_comp (by rfl) nd (qi_v (q_var 8)) (blkOk_by (own := [("kind", 15), ("goal", 16), ("clean", 17)]) (N := NN_law) (sc := defScope S_law) (by decide +kernel)) (fun _ _ _ _ _ => (qg_tup 3 (by rfl) (qgs_cons (qg_name 15 nd) (qgs_cons (qg_name 16 nd) (qgs_cons (qg_name 17 nd) qgs_nil))))) (fun _ _ _ _ _ => qts_nil) (fun _ _ _ _ _ => (q_tup (qa_cons (q_var 15) (qa_cons (q_op q_add (q_var 16) (q_var 3)) (qa_cons (q_var 17) qa_nil))))))) qa_nil)) qa_nil))))))))
  (qb_cons (qs_set 9 nd (q_L (ql_disp (qa_cons q_int qa_nil))))
  (qb_cons (qs_for po (by rfl) (qi_v (q_var 5)) (qg_tup 3 (by rfl) (qgs_cons (qg_name 6 nd) (qgs_cons (qg_name 7 nd) (qgs_cons (qg_name 8 nd) qgs_nil)))) (qb_one (qs_set 9 nd (q_L (ql_op ql_cat (q_L (ql_op ql_cat (q_var 9) (q_L (ql_disp (qa_cons (q_var 6) (qa_cons (q_var 7) qa_nil)))))) (q_L (by exact ql_comp (by rfl) nd (qi_v (q_var 8)) (blkOk_by (own := [("one", 14)]) (N := NN_law) (sc := defScope S_law) (by decide +kernel)) (fun _ _ _ _ _ => (qg_name 14 nd)) (fun _ _ _ _ _ => qts_nil) (fun _ _ _ _ _ => (q_sub1 (q_var 14) q_int)))))))))
  (qb_cons (qs_if (qt_cmp (q_ne hr.units) (q_var 4) (q_ifx (qt_cmp q_le (q_max1 (by rfl) T.n_max (qa_cons (q_var 9) qa_nil)) q_int) (q_var 5) q_str)) (qb_one (qs_ret q_bl)) qb_nil)
  (qb_cons (qs_if (qt_w (qw_and (qt_cmp (q_ne hr.units) (q_var 2) (q_L (ql_disp qa_nil))) (qw_and1 (qt_cmp q_lt (q_sub1 (q_sub1 (q_var 2) (q_neg q_int)) q_int) q_int)))) (qb_cons (qs_set 11 nd (q_L (ql_disp (qa_cons (q_tup (qa_cons (q_sub1 (q_sub1 (q_var 2) (q_neg q_int)) q_int) (qa_cons (q_op q_add (q_sub1 (q_sub1 (q_var 2) (q_neg q_int)) q_int) q_int) (qa_cons (q_sub1 (q_sub1 (q_var 2) (q_neg q_int)) q_int) qa_nil)))) qa_nil))))
  (qb_one (qs_if (qt_cmp (q_ne hr.units) (q_call C__law_asked (hr.mono (by omega)) hx (qa_cons q_int (qa_cons (q_var 2) (qa_cons (q_var 11) qa_nil)))) (q_op q_add (q_var 2) (q_var 11))) (qb_one (qs_ret q_bl)) qb_nil))) qb_nil)
  (qb_cons (qs_if (qt_w (qw_and (qt_cmp q_gt (q_var 3) q_int) (qw_and1 (qt_cmp (q_ne hr.units) (q_var 2) (q_L (ql_disp qa_nil)))))) (qb_cons (qs_set 12 nd (q_call C__law_table (hr.mono (by omega)) hx (qa_cons (q_var 1) qa_nil)))
  (qb_cons (qs_set 13 nd (q_and (q_cmp (q_ne hr.units) (q_var 12) (q_L (ql_disp qa_nil))) (q_one (q_cmp q_lt (q_sub1 (q_sub1 (q_var 12) q_int) q_int) (q_sub1 (q_sub1 (q_var 2) (q_neg q_int)) q_int)))))
  (qb_one (qs_if (qt_w (qw_or (qt_cmp (q_ne hr.units) (q_call C__law_asked (hr.mono (by omega)) hx (qa_cons q_int (qa_cons (q_var 2) (qa_cons (q_var 12) qa_nil)))) (q_ifx (qt_val (q_var 13)) q_str (q_op q_add (q_var 2) (q_var 12)))) (qw_or1 (qt_cmp (q_ne hr.units) (q_call C_joined (hr.mono (by omega)) hx (qa_cons (q_var 2) (qa_cons (q_L (ql_disp qa_nil)) qa_nil))) (q_var 2))))) (qb_one (qs_ret q_bl)) qb_nil)))) qb_nil)
  (qb_cons (qs_for po (by rfl) (qi_v (q_L (ql_disp (qa_cons (q_op q_sub q_int q_int) (qa_cons q_int (qa_cons q_bl (qa_cons q_non (qa_cons q_str qa_nil)))))))) (qg_name 10 nd) (qb_one (qs_if (qt_w (qw_or (qt_cmp (q_ne hr.units) (q_call C__law_asked (hr.mono (by omega)) hx (qa_cons q_int (qa_cons (q_var 2) (qa_cons (q_var 10) qa_nil)))) q_str) (qw_or1 (qt_cmp (q_ne hr.units) (q_call C__law_asked (hr.mono (by omega)) hx (qa_cons q_int (qa_cons (q_tup qa_nil) (qa_cons (q_call C__law_pick (hr.mono (by omega)) hx (qa_cons (q_var 1) (qa_cons (q_L (ql_disp (qa_cons q_int (qa_cons (q_op q_sub q_int q_int) (qa_cons q_bl (qa_cons q_non qa_nil)))))) qa_nil))) qa_nil)))) q_str)))) (qb_one (qs_ret q_bl)) qb_nil)))
  (qb_cons (qs_for po (by rfl) (qi_v (q_L (ql_disp (qa_cons q_non (qa_cons q_int (qa_cons (q_L (ql_disp (qa_cons (q_tup (qa_cons q_int (qa_cons q_int (qa_cons (q_tup (qa_cons (q_tup (qa_cons q_non (qa_cons q_int (qa_cons q_bl qa_nil)))) qa_nil)) qa_nil)))) qa_nil))) (qa_cons (q_L (ql_disp (qa_cons (q_tup (qa_cons q_int (qa_cons q_int (qa_cons (q_tup qa_nil) qa_nil)))) qa_nil))) (qa_cons (q_tup (qa_cons (q_tup (qa_cons q_int (qa_cons q_int qa_nil))) qa_nil)) (qa_cons (q_L (ql_disp (qa_cons (q_tup (qa_cons q_int (qa_cons q_int (qa_cons (q_tup (qa_cons (q_tup (qa_cons q_int (qa_cons q_int (qa_cons q_bl qa_nil)))) qa_nil)) qa_nil)))) qa_nil))) qa_nil))))))))) (qg_name 10 nd) (qb_cons (qs_if (qt_cmp (q_ne hr.units) (q_L (ql_disp (qa_cons (q_call C__law_asked (hr.mono (by omega)) hx (qa_cons q_int (qa_cons (q_var 10) (qa_cons q_int qa_nil)))) (qa_cons (q_call C__law_asked (hr.mono (by omega)) hx (qa_cons q_int (qa_cons (q_var 10) (qa_cons (q_L (ql_disp qa_nil)) qa_nil)))) (qa_cons (q_call C__law_asked (hr.mono (by omega)) hx (qa_cons q_int (qa_cons (q_L (ql_disp qa_nil)) (qa_cons (q_var 10) qa_nil)))) (qa_cons (q_call C__law_asked (hr.mono (by omega)) hx (qa_cons q_int (qa_cons (q_var 10) (qa_cons (q_L (ql_disp qa_nil)) qa_nil)))) (qa_cons (q_call C__law_asked (hr.mono (by omega)) hx (qa_cons q_int (qa_cons (q_L (ql_disp qa_nil)) (qa_cons (q_var 10) qa_nil)))) qa_nil))))))) (q_L (ql_op ql_rep (q_L (ql_disp (qa_cons q_str qa_nil))) q_int))) (qb_one (qs_ret q_bl)) qb_nil)
  (qb_one (qs_if (qt_w (qw_or (qt_cmp (q_ne hr.units) (q_call C__law_asked (hr.mono (by omega)) hx (qa_cons q_int (qa_cons (q_var 10) (qa_cons q_int qa_nil)))) q_str) (qw_or1 (qt_cmp (q_ne hr.units) (q_call C__law_asked (hr.mono (by omega)) hx (qa_cons q_int (qa_cons (q_var 10) (qa_cons q_int qa_nil)))) q_str)))) (qb_one (qs_ret q_bl)) qb_nil))))
  (qb_one (qs_ret (q_and (q_cmp (q_eq hr.units) (q_call C__law_asked (hr.mono (by omega)) hx (qa_cons q_int (qa_cons (q_tup (qa_cons (q_tup (qa_cons q_non (qa_cons q_int qa_nil))) qa_nil)) (qa_cons q_int qa_nil)))) q_str) (q_and (q_cmp (q_eq hr.units) (q_call C_joined (hr.mono (by omega)) hx (qa_cons (q_L (ql_disp qa_nil)) (qa_cons (q_var 2) qa_nil))) (q_var 2)) (q_one (q_cmp (q_eq hr.units) (q_call C__law_asked (hr.mono (by omega)) hx (qa_cons q_int (qa_cons q_int (qa_cons q_int qa_nil)))) q_str)))))))))))))))))))
  exact ⟨_, qq.ps, qq.ss⟩
end
theorem the_law {w : World} {K : PySem.W.Frag} {mg : Str → Option Value} {base : Heap} {fd : FuncData} (T : Tx K mg) (F : FunD K "law" "law" (defArgs S_law) (defBody S_law) (defScope S_law) [] [] (He.ga K "law") fd) :
    FnOk (PySem.Challenge.rw_coldlanes_k27_whole_moved).prog w K mg base (L2.CX (PySem.Challenge.rw_coldlanes_k27_whole_moved).prog w) 8 (He.ga K "law") fd ["script"] (SpOf K 1 f_law) := by
    have C__law_draw := ok__law_draw (P := PySem.Challenge.rw_coldlanes_k27_whole_moved.prog) (wd := w) (base := base) T 
    have C__law_pick := ok__law_pick (P := PySem.Challenge.rw_coldlanes_k27_whole_moved.prog) (wd := w) (base := base) T C__law_draw
    have C__law_chain := ok__law_chain (P := PySem.Challenge.rw_coldlanes_k27_whole_moved.prog) (wd := w) (base := base) T C__law_draw C__law_pick
    have C__law_refusal := ok__law_refusal (P := PySem.Challenge.rw_coldlanes_k27_whole_moved.prog) (wd := w) (base := base) T 
    have C__law_table := ok__law_table (P := PySem.Challenge.rw_coldlanes_k27_whole_moved.prog) (wd := w) (base := base) T C__law_draw C__law_chain C__law_pick
    have C__law_town := ok__law_town (P := PySem.Challenge.rw_coldlanes_k27_whole_moved.prog) (wd := w) (base := base) T 
    have C_all_edges := ok_all_edges (P := PySem.Challenge.rw_coldlanes_k27_whole_moved.prog) (wd := w) (base := base) T 
    have C_choice := ok_choice (P := PySem.Challenge.rw_coldlanes_k27_whole_moved.prog) (wd := w) (base := base) T 
    have C_all_choices := ok_all_choices (P := PySem.Challenge.rw_coldlanes_k27_whole_moved.prog) (wd := w) (base := base) T C_choice
    have C_found_in := ok_found_in (P := PySem.Challenge.rw_coldlanes_k27_whole_moved.prog) (wd := w) (base := base) T 
    have C_is_whole := ok_is_whole (P := PySem.Challenge.rw_coldlanes_k27_whole_moved.prog) (wd := w) (base := base) T 
    have C_is_chain := ok_is_chain (P := PySem.Challenge.rw_coldlanes_k27_whole_moved.prog) (wd := w) (base := base) T C_is_whole
    have C_is_table := ok_is_table (P := PySem.Challenge.rw_coldlanes_k27_whole_moved.prog) (wd := w) (base := base) T C_is_chain C_is_whole
    have C_look_number := ok_look_number (P := PySem.Challenge.rw_coldlanes_k27_whole_moved.prog) (wd := w) (base := base) T C_is_whole
    have C_chosen := ok_chosen (P := PySem.Challenge.rw_coldlanes_k27_whole_moved.prog) (wd := w) (base := base) T C_is_chain C_look_number C_choice
    have C_look_table := ok_look_table (P := PySem.Challenge.rw_coldlanes_k27_whole_moved.prog) (wd := w) (base := base) T C_is_table
    have C_joined := ok_joined (P := PySem.Challenge.rw_coldlanes_k27_whole_moved.prog) (wd := w) (base := base) T C_look_table
    have C_parting := ok_parting (P := PySem.Challenge.rw_coldlanes_k27_whole_moved.prog) (wd := w) (base := base) T C_look_table C_all_edges C_found_in C_choice
    have C_shifted_by := ok_shifted_by (P := PySem.Challenge.rw_coldlanes_k27_whole_moved.prog) (wd := w) (base := base) T C_look_table C_is_whole
    have C_slim := ok_slim (P := PySem.Challenge.rw_coldlanes_k27_whole_moved.prog) (wd := w) (base := base) T C_all_choices
    have C_trimmed := ok_trimmed (P := PySem.Challenge.rw_coldlanes_k27_whole_moved.prog) (wd := w) (base := base) T C_look_table C_slim
    have C__law_does := ok__law_does (P := PySem.Challenge.rw_coldlanes_k27_whole_moved.prog) (wd := w) (base := base) T C_shifted_by C_joined C_parting C_trimmed C_chosen
    have C__law_asked := ok__law_asked (P := PySem.Challenge.rw_coldlanes_k27_whole_moved.prog) (wd := w) (base := base) T C__law_does C__law_refusal
    exact okf_law T F C__law_town C__law_table C__law_draw C__law_pick C__law_asked C_joined
theorem tx_of {w : World} {K : PySem.W.Frag} {h : Heap} {mg : Str → Option Value} (X : K.In h) (G : h.Ns mainGlobals mg) (c : He.SaysX hfa hfn [] [] hex w h K) : Tx K mg := by
  have e0 : hex K = true := c.more
  unfold hex at e0
  obtain ⟨z0, e1⟩ := He.ba e0
  obtain ⟨z1, e2⟩ := He.ba e1
  obtain ⟨z2, e3⟩ := He.ba e2
  obtain ⟨z3, e4⟩ := He.ba e3
  obtain ⟨z4, e5⟩ := He.ba e4
  obtain ⟨z5, e6⟩ := He.ba e5
  obtain ⟨z6, e7⟩ := He.ba e6
  obtain ⟨z7, e8⟩ := He.ba e7
  obtain ⟨z8, e9⟩ := He.ba e8
  obtain ⟨z9, e10⟩ := He.ba e9
  obtain ⟨z10, e11⟩ := He.ba e10
  exact {
n_ValueError := He.free_ok X G (c.t.d.fact 24 (f := .free "ValueError") rfl),
    n_all := He.free_ok X G (c.t.d.fact 25 (f := .free "all") rfl),
    n_bool := He.free_ok X G (c.t.d.fact 26 (f := .free "bool") rfl),
    n_int := He.free_ok X G (c.t.d.fact 27 (f := .free "int") rfl),
    n_isinstance := He.free_ok X G (c.t.d.fact 28 (f := .free "isinstance") rfl),
    n_len := He.free_ok X G (c.t.d.fact 29 (f := .free "len") rfl),
    n_list := He.free_ok X G (c.t.d.fact 30 (f := .free "list") rfl),
    n_max := He.free_ok X G (c.t.d.fact 31 (f := .free "max") rfl),
    n_range := He.free_ok X G (c.t.d.fact 32 (f := .free "range") rfl),
    n_set := He.free_ok X G (c.t.d.fact 33 (f := .free "set") rfl),
    n_sorted := He.free_ok X G (c.t.d.fact 34 (f := .free "sorted") rfl),
    n_tuple := He.free_ok X G (c.t.d.fact 35 (f := .free "tuple") rfl),
    c_KINDS := He.int_ok X G (c.t.d.fact 47 (f := .int "KINDS" 5) rfl),
    c_MOST_PLACE := He.int_ok X G (c.t.d.fact 48 (f := .int "MOST_PLACE" 100000) rfl),
    m_LaneError := mAll_ok z0,
    k_BadNumber := kAll_ok (u := (fun K => .ref (He.ga K "BadNumber"))) z1,
    k_BadOrder := kAll_ok (u := (fun K => .ref (He.ga K "BadOrder"))) z2,
    k_BadTable := kAll_ok (u := (fun K => .ref (He.ga K "BadTable"))) z3,
    k_BadText := kAll_ok (u := (fun K => .ref (He.ga K "BadText"))) z4,
    k_BadTree := kAll_ok (u := (fun K => .ref (He.ga K "BadTree"))) z5,
    k_LaneError := kAll_ok (u := (fun K => .ref (He.ga K "LaneError"))) z6,
    k_NoPlace := kAll_ok (u := (fun K => .ref (He.ga K "NoPlace"))) z7,
    k_Over := kAll_ok (u := (fun K => .ref (He.ga K "Over"))) z8,
    k_Stuck := kAll_ok (u := (fun K => .ref (He.ga K "Stuck"))) z9,
    k_ValueError := kAll_ok (u := (fun _ => .type "ValueError")) z10,
    d__law_draw := ⟨He.glo_ok X G (c.t.d.fact 0 (f := .glo "_law_draw") rfl), c.t.d.def_ 0 (d := hd__law_draw) rfl⟩,
    d__law_pick := ⟨He.glo_ok X G (c.t.d.fact 1 (f := .glo "_law_pick") rfl), c.t.d.def_ 1 (d := hd__law_pick) rfl⟩,
    d__law_chain := ⟨He.glo_ok X G (c.t.d.fact 2 (f := .glo "_law_chain") rfl), c.t.d.def_ 2 (d := hd__law_chain) rfl⟩,
    d__law_refusal := ⟨He.glo_ok X G (c.t.d.fact 3 (f := .glo "_law_refusal") rfl), c.t.d.def_ 3 (d := hd__law_refusal) rfl⟩,
    d__law_table := ⟨He.glo_ok X G (c.t.d.fact 4 (f := .glo "_law_table") rfl), c.t.d.def_ 4 (d := hd__law_table) rfl⟩,
    d__law_town := ⟨He.glo_ok X G (c.t.d.fact 5 (f := .glo "_law_town") rfl), c.t.d.def_ 5 (d := hd__law_town) rfl⟩,
    d_all_edges := ⟨He.glo_ok X G (c.t.d.fact 6 (f := .glo "all_edges") rfl), c.t.d.def_ 6 (d := hd_all_edges) rfl⟩,
    d_choice := ⟨He.glo_ok X G (c.t.d.fact 7 (f := .glo "choice") rfl), c.t.d.def_ 7 (d := hd_choice) rfl⟩,
    d_all_choices := ⟨He.glo_ok X G (c.t.d.fact 8 (f := .glo "all_choices") rfl), c.t.d.def_ 8 (d := hd_all_choices) rfl⟩,
    d_found_in := ⟨He.glo_ok X G (c.t.d.fact 9 (f := .glo "found_in") rfl), c.t.d.def_ 9 (d := hd_found_in) rfl⟩,
    d_is_whole := ⟨He.glo_ok X G (c.t.d.fact 10 (f := .glo "is_whole") rfl), c.t.d.def_ 10 (d := hd_is_whole) rfl⟩,
    d_is_chain := ⟨He.glo_ok X G (c.t.d.fact 11 (f := .glo "is_chain") rfl), c.t.d.def_ 11 (d := hd_is_chain) rfl⟩,
    d_is_table := ⟨He.glo_ok X G (c.t.d.fact 12 (f := .glo "is_table") rfl), c.t.d.def_ 12 (d := hd_is_table) rfl⟩,
    d_look_number := ⟨He.glo_ok X G (c.t.d.fact 13 (f := .glo "look_number") rfl), c.t.d.def_ 13 (d := hd_look_number) rfl⟩,
    d_chosen := ⟨He.glo_ok X G (c.t.d.fact 14 (f := .glo "chosen") rfl), c.t.d.def_ 14 (d := hd_chosen) rfl⟩,
    d_look_table := ⟨He.glo_ok X G (c.t.d.fact 15 (f := .glo "look_table") rfl), c.t.d.def_ 15 (d := hd_look_table) rfl⟩,
    d_joined := ⟨He.glo_ok X G (c.t.d.fact 16 (f := .glo "joined") rfl), c.t.d.def_ 16 (d := hd_joined) rfl⟩,
    d_parting := ⟨He.glo_ok X G (c.t.d.fact 17 (f := .glo "parting") rfl), c.t.d.def_ 17 (d := hd_parting) rfl⟩,
    d_shifted := ⟨He.glo_ok X G (c.t.d.fact 18 (f := .glo "shifted") rfl), c.t.d.def_ 18 (d := hd_shifted) rfl⟩,
    d_slim := ⟨He.glo_ok X G (c.t.d.fact 19 (f := .glo "slim") rfl), c.t.d.def_ 19 (d := hd_slim) rfl⟩,
    d_trimmed := ⟨He.glo_ok X G (c.t.d.fact 20 (f := .glo "trimmed") rfl), c.t.d.def_ 20 (d := hd_trimmed) rfl⟩,
    d__law_does := ⟨He.glo_ok X G (c.t.d.fact 21 (f := .glo "_law_does") rfl), c.t.d.def_ 21 (d := hd__law_does) rfl⟩,
    d__law_asked := ⟨He.glo_ok X G (c.t.d.fact 22 (f := .glo "_law_asked") rfl), c.t.d.def_ 22 (d := hd__law_asked) rfl⟩,
    d_law := ⟨He.glo_ok X G (c.t.d.fact 23 (f := .glo "law") rfl), c.t.d.def_ 23 (d := hd_law) rfl⟩,
    g_BadNumber := He.glo_ok X G (c.t.d.fact 36 (f := .glo "BadNumber") rfl),
    g_BadOrder := He.glo_ok X G (c.t.d.fact 37 (f := .glo "BadOrder") rfl),
    g_BadTable := He.glo_ok X G (c.t.d.fact 38 (f := .glo "BadTable") rfl),
    g_BadText := He.glo_ok X G (c.t.d.fact 39 (f := .glo "BadText") rfl),
    g_BadTree := He.glo_ok X G (c.t.d.fact 40 (f := .glo "BadTree") rfl),
    g_LaneError := He.glo_ok X G (c.t.d.fact 41 (f := .glo "LaneError") rfl),
    g_NoPlace := He.glo_ok X G (c.t.d.fact 42 (f := .glo "NoPlace") rfl),
    g_Over := He.glo_ok X G (c.t.d.fact 43 (f := .glo "Over") rfl),
    g_Stuck := He.glo_ok X G (c.t.d.fact 44 (f := .glo "Stuck") rfl),
    x_BadNumber := (c.t.d.fact 45 (f := .exc "BadNumber") rfl),
    x_BadTable := (c.t.d.fact 46 (f := .exc "BadTable") rfl) }
end CL
namespace CL
open PySem L2
/-- what a mirror's run must bring -/
def Wp {A : Type} (m : Mo A) (st : Store) (post : A → Store → Prop) (ex : Str → List Da → Store → Prop) : Prop := match m st with
  | .ok a st' => post a st'
  | .exc c as st' => ex c as st'
  | .bad => False
abbrev noEx : Str → List Da → Store → Prop := fun _ _ _ => False
section
variable {A B : Type} {st : Store} {ex : Str → List Da → Store → Prop}
theorem Wp.mono {m : Mo A} {post post' : A → Store → Prop} (h : Wp m st post ex) (hp : ∀ a st', post a st' → post' a st') : Wp m st post' ex := by
  unfold Wp at h ⊢
  cases q : m st with
  | ok a st' => rw [q] at h; exact hp a st' h
  | exc c as st' => rw [q] at h; exact h
  | bad => rw [q] at h; exact h
theorem Wp.congr {m : Mo A} {post post' : A → Store → Prop} (hp : ∀ a st', post a st' ↔ post' a st') : Wp m st post ex ↔ Wp m st post' ex :=
  ⟨fun h => h.mono fun a s => (hp a s).mp, fun h => h.mono fun a s => (hp a s).mpr⟩
theorem Wp.ofNo {m : Mo A} {post post' : A → Store → Prop} (h : Wp m st post noEx) (hp : ∀ a st', post a st' → post' a st') : Wp m st post' ex := by
  unfold Wp at h ⊢
  cases q : m st with
  | ok a st' => rw [q] at h; exact hp a st' h
  | exc c as st' => rw [q] at h; exact h.elim
  | bad => rw [q] at h; exact h
theorem Wp.out {m : Mo A} {post : A → Store → Prop} (h : Wp m st post noEx) : ∃ a st', m st = .ok a st' ∧ post a st' := by
  unfold Wp at h
  cases q : m st with
  | ok a st' => rw [q] at h; exact ⟨a, st', rfl, h⟩
  | exc c as st' => rw [q] at h; exact h.elim
  | bad => rw [q] at h; exact h.elim
theorem Wp.of {m : Mo A} {post : A → Store → Prop} {a : A} {st' : Store} (h : m st = .ok a st') (hp : post a st') : Wp m st post ex := by
  unfold Wp; rw [h]; exact hp
@[simp] theorem wp_bnd {m : Mo A} {f : A → Mo B} {post : B → Store → Prop} : Wp (bnd m f) st post ex ↔ Wp m st (fun a st' => Wp (f a) st' post ex) ex := by
  unfold Wp bnd
  cases m st <;> rfl
@[simp] theorem wp_ret {a : A} {post : A → Store → Prop} : Wp (ret a) st post ex ↔ post a st := Iff.rfl
@[simp] theorem wp_nop {post : A → Store → Prop} : Wp (nop : Mo A) st post ex ↔ False := Iff.rfl
@[simp] theorem wp_noX {m : Mo A} {post : A → Store → Prop} : Wp (noX m) st post ex ↔ Wp m st post noEx := by
  unfold Wp noX
  cases m st <;> rfl
@[simp] theorem wp_ite {c : Prop} [Decidable c] {m n : Mo A} {post : A → Store → Prop} : Wp (if c then m else n) st post ex ↔ if c then Wp m st post ex else Wp n st post ex := by
  split <;> rfl
variable {a b c : Sl → Mo Da} {p q : Sl → Mo Bool} {al : Sl → Mo (List Da)} {ro : Sl} {post : Da → Store → Prop} {postB : Bool → Store → Prop} {postL : List Da → Store → Prop} {postF : Fl → Store → Prop}
theorem wp_var {i : Nat} {d : Da} (h : ro[i]? = some (some d)) : Wp (eVar i ro) st post ex ↔ post d st := by
  unfold Wp eVar; rw [h]
@[simp] theorem wp_var0 {d : Da} {r : Sl} : Wp (eVar 0 (some d :: r)) st post ex ↔ post d st := Iff.rfl
@[simp] theorem wp_varS {i : Nat} {o : Option Da} {r : Sl} : Wp (eVar (i + 1) (o :: r)) st post ex ↔ Wp (eVar i r) st post ex := Iff.rfl
@[simp] theorem wp_var1 {o0 : Option Da} {d : Da} {r : Sl} : Wp (eVar 1 (o0 :: some d :: r)) st post ex ↔ post d st := Iff.rfl
@[simp] theorem wp_var2 {o0 o1 : Option Da} {d : Da} {r : Sl} : Wp (eVar 2 (o0 :: o1 :: some d :: r)) st post ex ↔ post d st := Iff.rfl
@[simp] theorem wp_var3 {o0 o1 o2 : Option Da} {d : Da} {r : Sl} : Wp (eVar 3 (o0 :: o1 :: o2 :: some d :: r)) st post ex ↔ post d st := Iff.rfl
@[simp] theorem wp_var4 {o0 o1 o2 o3 : Option Da} {d : Da} {r : Sl} : Wp (eVar 4 (o0 :: o1 :: o2 :: o3 :: some d :: r)) st post ex ↔ post d st := Iff.rfl
@[simp] theorem wp_var5 {o0 o1 o2 o3 o4 : Option Da} {d : Da} {r : Sl} : Wp (eVar 5 (o0 :: o1 :: o2 :: o3 :: o4 :: some d :: r)) st post ex ↔ post d st := Iff.rfl
@[simp] theorem wp_var6 {o0 o1 o2 o3 o4 o5 : Option Da} {d : Da} {r : Sl} : Wp (eVar 6 (o0 :: o1 :: o2 :: o3 :: o4 :: o5 :: some d :: r)) st post ex ↔ post d st := Iff.rfl
@[simp] theorem wp_var7 {o0 o1 o2 o3 o4 o5 o6 : Option Da} {d : Da} {r : Sl} : Wp (eVar 7 (o0 :: o1 :: o2 :: o3 :: o4 :: o5 :: o6 :: some d :: r)) st post ex ↔ post d st := Iff.rfl
@[simp] theorem wp_var8 {o0 o1 o2 o3 o4 o5 o6 o7 : Option Da} {d : Da} {r : Sl} : Wp (eVar 8 (o0 :: o1 :: o2 :: o3 :: o4 :: o5 :: o6 :: o7 :: some d :: r)) st post ex ↔ post d st := Iff.rfl
@[simp] theorem wp_var9 {o0 o1 o2 o3 o4 o5 o6 o7 o8 : Option Da} {d : Da} {r : Sl} : Wp (eVar 9 (o0 :: o1 :: o2 :: o3 :: o4 :: o5 :: o6 :: o7 :: o8 :: some d :: r)) st post ex ↔ post d st := Iff.rfl
@[simp] theorem wp_var10 {o0 o1 o2 o3 o4 o5 o6 o7 o8 o9 : Option Da} {d : Da} {r : Sl} : Wp (eVar 10 (o0 :: o1 :: o2 :: o3 :: o4 :: o5 :: o6 :: o7 :: o8 :: o9 :: some d :: r)) st post ex ↔ post d st := Iff.rfl
@[simp] theorem wp_c {d : Da} : Wp (eC d ro) st post ex ↔ post d st := Iff.rfl
@[simp] theorem wp_e2 {f : Da → Da → Mo Da} : Wp (e2 f a b ro) st post ex ↔ Wp (a ro) st (fun x s1 => Wp (b ro) s1 (fun y s2 => Wp (f x y) s2 post ex) ex) ex := by unfold e2; simp only [wp_bnd]
@[simp] theorem wp_e1 {f : Da → Mo Da} : Wp (e1 f a ro) st post ex ↔ Wp (a ro) st (fun x s1 => Wp (f x) s1 post ex) ex := by unfold e1; simp only [wp_bnd]
@[simp] theorem wp_toB {k : Bool} : Wp (toB (.bl k)) st postB ex ↔ postB k st := Iff.rfl
@[simp] theorem wp_tst : Wp (tst a ro) st postB ex ↔ Wp (a ro) st (fun x s1 => Wp (toB x) s1 postB ex) ex := by unfold tst; simp only [wp_bnd]
@[simp] theorem wp_and : Wp (tAnd_ p q ro) st postB ex ↔ Wp (p ro) st (fun x s1 => if x = true then Wp (q ro) s1 postB ex else postB false s1) ex := by unfold tAnd_; simp only [wp_bnd, wp_ite, wp_ret]
@[simp] theorem wp_or : Wp (tOr_ p q ro) st postB ex ↔ Wp (p ro) st (fun x s1 => if x = true then postB true s1 else Wp (q ro) s1 postB ex) ex := by unfold tOr_; simp only [wp_bnd, wp_ite, wp_ret]
@[simp] theorem wp_not : Wp (tNot_ p ro) st postB ex ↔ Wp (p ro) st (fun x s1 => postB (!x) s1) ex := by unfold tNot_; simp only [wp_bnd, wp_ret]
@[simp] theorem wp_vAnd : Wp (vAnd a b ro) st post ex ↔ Wp (tst a ro) st (fun x s1 => if x = true then Wp (b ro) s1 post ex else post (.bl false) s1) ex := by unfold vAnd; simp only [wp_bnd, wp_ite, wp_ret]
@[simp] theorem wp_vOr : Wp (vOr a b ro) st post ex ↔ Wp (tst a ro) st (fun x s1 => if x = true then post (.bl true) s1 else Wp (b ro) s1 post ex) ex := by unfold vOr; simp only [wp_bnd, wp_ite, wp_ret]
@[simp] theorem wp_vNot : Wp (vNot a ro) st post ex ↔ Wp (tst a ro) st (fun x s1 => post (.bl (!x)) s1) ex := by unfold vNot; simp only [wp_bnd, wp_ret]
@[simp] theorem wp_eIf : Wp (eIf p a b ro) st post ex ↔ Wp (p ro) st (fun x s1 => if x = true then Wp (a ro) s1 post ex else Wp (b ro) s1 post ex) ex := by unfold eIf; simp only [wp_bnd, wp_ite]
@[simp] theorem wp_aNil : Wp (aNil ro) st postL ex ↔ postL [] st := Iff.rfl
@[simp] theorem wp_aCons : Wp (aCons a al ro) st postL ex ↔ Wp (a ro) st (fun x s1 => Wp (al ro) s1 (fun xs s2 => postL (x :: xs) s2) ex) ex := by unfold aCons; simp only [wp_bnd, wp_ret]
@[simp] theorem wp_eTup : Wp (eTup al ro) st post ex ↔ Wp (al ro) st (fun xs s1 => if xs.length ≤ 1000 then post (.tup xs) s1 else False) ex := by unfold eTup; simp only [wp_bnd, wp_ite, wp_ret, wp_nop]
@[simp] theorem wp_lDisp : Wp (lDisp al ro) st postL ex ↔ Wp (al ro) st (fun xs s1 => if xs.length ≤ 1000 then postL xs s1 else False) ex := by unfold lDisp; simp only [wp_bnd, wp_ite, wp_ret, wp_nop]
@[simp] theorem wp_eL : Wp (eL al ro) st post ex ↔ Wp (al ro) st (fun xs s1 => post (.lst xs) s1) ex := by unfold eL; simp only [wp_bnd, wp_ret]
theorem wp_H1 {xs : List Da} {post : Da → Store → Prop} : Wp (fun st => Res.ok (Da.han st.length) (st ++ [Cell.lst xs])) st post ex ↔ post (.han st.length) (st ++ [.lst xs]) := Iff.rfl
@[simp] theorem wp_eH : Wp (eH al ro) st post ex ↔ Wp (al ro) st (fun xs s1 => post (.han s1.length) (s1 ++ [.lst xs])) ex := by unfold eH; simp only [wp_bnd, wp_H1]
@[simp] theorem wp_eF : Wp (eF a ro) st post ex ↔ Wp (a ro) st (fun x s1 => Wp (fz x) s1 post ex) ex := by unfold eF; simp only [wp_bnd]
theorem wp_fz {n : Nat} {ds : List Da} (h : st[n]? = some (.lst ds)) : Wp (fz (.han n)) st post ex ↔ post (.lst ds) (st.set n .dead) := by unfold Wp fz; dsimp only; rw [h]
@[simp] theorem wp_eCall {f : List Da → Mo Da} : Wp (eCall f al ro) st post ex ↔ Wp (al ro) st (fun xs s1 => Wp (f xs) s1 post ex) ex := by unfold eCall; simp only [wp_bnd]
@[simp] theorem wp_lCall {f : List Da → Mo (List Da)} : Wp (lCall f al ro) st postL ex ↔ Wp (al ro) st (fun xs s1 => Wp (f xs) s1 postL ex) ex := by unfold lCall; simp only [wp_bnd]
@[simp] theorem wp_l2 {f : Da → Da → Mo (List Da)} : Wp (l2 f a b ro) st postL ex ↔ Wp (a ro) st (fun x s1 => Wp (b ro) s1 (fun y s2 => Wp (f x y) s2 postL ex) ex) ex := by unfold l2; simp only [wp_bnd]
@[simp] theorem wp_chain {f g : Da → Da → Mo Da} : Wp (eChain f g a b c ro) st post ex ↔ Wp (a ro) st (fun x s1 => Wp (b ro) s1 (fun y s2 => Wp (f x y) s2 (fun z s3 => Wp (toB z) s3 (fun k s4 => if k = true then Wp (c ro) s4 (fun z s5 => Wp (g y z) s5 post ex) ex else post (.bl false) s4) ex) ex) ex) ex := by
  unfold eChain; simp only [wp_bnd, wp_ite, wp_ret]
@[simp] theorem wp_ar {n : Nat} {f : List Da → Mo A} {ds : List Da} {post : A → Store → Prop} : Wp (ar n f ds) st post ex ↔ if ds.length = n then Wp (f ds) st post ex else False := by
  unfold ar; simp only [wp_ite, wp_nop]
@[simp] theorem wp_one {f : Da → Mo A} {d : Da} {post : A → Store → Prop} : Wp (one f [d]) st post ex ↔ Wp (f d) st post ex := Iff.rfl
@[simp] theorem wp_two {f : Da → Da → Mo A} {d e : Da} {post : A → Store → Prop} : Wp (two f [d, e]) st post ex ↔ Wp (f d e) st post ex := Iff.rfl
@[simp] theorem wp_add_i {i j : Int} : Wp (addD (.int i) (.int j)) st post ex ↔ post (.int (i + j)) st := Iff.rfl
@[simp] theorem wp_sub_i {i j : Int} : Wp (subD (.int i) (.int j)) st post ex ↔ post (.int (i - j)) st := Iff.rfl
@[simp] theorem wp_mul_i {i j : Int} : Wp (mulD (.int i) (.int j)) st post ex ↔ if CMul i j then post (.int (i * j)) st else False := by unfold mulD; simp only [wp_ite, wp_ret, wp_nop]
@[simp] theorem wp_fdiv_i {i j : Int} : Wp (fdivD (.int i) (.int j)) st post ex ↔ if CDivN i j then post (.int (i.fdiv j)) st else False := by unfold fdivD; simp only [wp_ite, wp_ret, wp_nop]
@[simp] theorem wp_mod_i {i j : Int} : Wp (modD (.int i) (.int j)) st post ex ↔ if j ≠ 0 then post (.int (i.fmod j)) st else False := by unfold modD; simp only [wp_ite, wp_ret, wp_nop]
@[simp] theorem wp_pow_i {i j : Int} : Wp (powD (.int i) (.int j)) st post ex ↔ if CPow i j then post (.int (i ^ j.toNat)) st else False := by unfold powD; simp only [wp_ite, wp_ret, wp_nop]
@[simp] theorem wp_lt_i {i j : Int} : Wp (ltD (.int i) (.int j)) st post ex ↔ post (.bl (decide (i < j))) st := Iff.rfl
@[simp] theorem wp_le_i {i j : Int} : Wp (leD (.int i) (.int j)) st post ex ↔ post (.bl (decide (i ≤ j))) st := Iff.rfl
@[simp] theorem wp_gt_i {i j : Int} : Wp (gtD (.int i) (.int j)) st post ex ↔ post (.bl (decide (j < i))) st := Iff.rfl
@[simp] theorem wp_ge_i {i j : Int} : Wp (geD (.int i) (.int j)) st post ex ↔ post (.bl (decide (j ≤ i))) st := Iff.rfl
@[simp] theorem wp_neg_i {i : Int} : Wp (negD (.int i)) st post ex ↔ post (.int (-i)) st := Iff.rfl
@[simp] theorem wp_max_i {i j : Int} : Wp (maxD (.int i) (.int j)) st post ex ↔ post (.int (if j > i then j else i)) st := Iff.rfl
@[simp] theorem wp_min_i {i j : Int} : Wp (minD (.int i) (.int j)) st post ex ↔ post (.int (if j < i then j else i)) st := Iff.rfl
theorem wp_isT {t u : Tn} {d : Da} (h : tyN st d = some u) : Wp (isT t d) st post ex ↔ post (.bl (isTn u t)) st := by unfold Wp isT; rw [h]
@[simp] theorem wp_isT_i {t : Tn} {i : Int} : Wp (isT t (.int i)) st post ex ↔ post (.bl (isTn .int t)) st := Iff.rfl
@[simp] theorem wp_isT_b {t : Tn} {i : Bool} : Wp (isT t (.bl i)) st post ex ↔ post (.bl (isTn .bool t)) st := Iff.rfl
@[simp] theorem wp_isT_s {t : Tn} {i : Str} : Wp (isT t (.str i)) st post ex ↔ post (.bl (isTn .str t)) st := Iff.rfl
@[simp] theorem wp_isT_n {t : Tn} : Wp (isT t .non) st post ex ↔ post (.bl (isTn .non t)) st := Iff.rfl
@[simp] theorem wp_isT_t {t : Tn} {xs : List Da} : Wp (isT t (.tup xs)) st post ex ↔ post (.bl (isTn .tuple t)) st := Iff.rfl
@[simp] theorem wp_isT_l {t : Tn} {xs : List Da} : Wp (isT t (.lst xs)) st post ex ↔ post (.bl (isTn .list t)) st := Iff.rfl
@[simp] theorem wp_is_non {b : Bool} : Wp (isB b .non .non) st post ex ↔ post (.bl (if b then false else true)) st := by cases b <;> exact Iff.rfl
@[simp] theorem wp_is_int {b : Bool} {i : Int} : Wp (isB b (.int i) .non) st post ex ↔ post (.bl (if b then true else false)) st := by cases b <;> exact Iff.rfl
@[simp] theorem wp_is_tup {b : Bool} {i : List Da} : Wp (isB b (.tup i) .non) st post ex ↔ post (.bl (if b then true else false)) st := by cases b <;> exact Iff.rfl
@[simp] theorem wp_is_lst {b : Bool} {i : List Da} : Wp (isB b (.lst i) .non) st post ex ↔ post (.bl (if b then true else false)) st := by cases b <;> exact Iff.rfl
@[simp] theorem wp_is_bl {b x y : Bool} : Wp (isB b (.bl x) (.bl y)) st post ex ↔ post (.bl (if b then !decide (x = y) else decide (x = y))) st := Iff.rfl
theorem wp_len {d : Da} {xs : List Da} (h : sqOf st d = some xs) : Wp (lenD d) st post ex ↔ post (.int xs.length) st := by
  unfold Wp lenD
  cases d <;> first | (dsimp only; rw [h]) | (cases h)
@[simp] theorem wp_len_l {xs : List Da} : Wp (lenD (.lst xs)) st post ex ↔ post (.int xs.length) st := Iff.rfl
@[simp] theorem wp_len_t {xs : List Da} : Wp (lenD (.tup xs)) st post ex ↔ post (.int xs.length) st := Iff.rfl
theorem wp_ix {d x : Da} {xs : List Da} {i : Int} (hf : ∀ ys, d ≠ .fro ys) (h : sqOf st d = some xs) (hx : atI xs i = some x) : Wp (ixD d (.int i)) st post ex ↔ post x st := by
  unfold Wp ixD
  cases d with
  | fro ys => exact absurd rfl (hf ys)
  | str s => cases h
  | non => cases h
  | bl b => cases h
  | int i => cases h
  | tup ys => dsimp only; rw [h]; dsimp only; rw [hx]
  | lst ys => dsimp only; rw [h]; dsimp only; rw [hx]
  | han n => dsimp only; rw [h]; dsimp only; rw [hx]
theorem wp_ix_t {x : Da} {xs : List Da} {i : Int} (hx : atI xs i = some x) : Wp (ixD (.tup xs) (.int i)) st post ex ↔ post x st := wp_ix (fun _ z => nomatch z) rfl hx
theorem wp_ix_l {x : Da} {xs : List Da} {i : Int} (hx : atI xs i = some x) : Wp (ixD (.lst xs) (.int i)) st post ex ↔ post x st := wp_ix (fun _ z => nomatch z) rfl hx
theorem wp_ix_h {n : Nat} {x : Da} {xs : List Da} {i : Int} (h : st[n]? = some (.lst xs)) (hx : atI xs i = some x) : Wp (ixD (.han n) (.int i)) st post ex ↔ post x st :=
  wp_ix (fun _ z => nomatch z) (by unfold sqOf lsOf; dsimp only; rw [h]) hx
@[simp] theorem wp_ix_t0 {x0 : Da} {r : List Da} : Wp (ixD (.tup (x0 :: r)) (.int 0)) st post ex ↔ post x0 st := wp_ix_t (atI_nat (j := 0) rfl)
@[simp] theorem wp_ix_t1 {x0 x1 : Da} {r : List Da} : Wp (ixD (.tup (x0 :: x1 :: r)) (.int 1)) st post ex ↔ post x1 st := wp_ix_t (atI_nat (j := 1) rfl)
@[simp] theorem wp_ix_t2 {x0 x1 x2 : Da} {r : List Da} : Wp (ixD (.tup (x0 :: x1 :: x2 :: r)) (.int 2)) st post ex ↔ post x2 st := wp_ix_t (atI_nat (j := 2) rfl)
@[simp] theorem wp_ix_t3 {x0 x1 x2 x3 : Da} {r : List Da} : Wp (ixD (.tup (x0 :: x1 :: x2 :: x3 :: r)) (.int 3)) st post ex ↔ post x3 st := wp_ix_t (atI_nat (j := 3) rfl)
@[simp] theorem wp_ix_l0 {x0 : Da} {r : List Da} : Wp (ixD (.lst (x0 :: r)) (.int 0)) st post ex ↔ post x0 st := wp_ix_l (atI_nat (j := 0) rfl)
theorem wp_list {d : Da} {xs : List Da} (h : sqOf st d = some xs) : Wp (listD d) st postL ex ↔ postL xs st := by unfold Wp listD; rw [h]
@[simp] theorem wp_list_l {xs : List Da} : Wp (listD (.lst xs)) st postL ex ↔ postL xs st := Iff.rfl
@[simp] theorem wp_list_t {xs : List Da} : Wp (listD (.tup xs)) st postL ex ↔ postL xs st := Iff.rfl
@[simp] theorem wp_list_f {xs : List Da} : Wp (listD (.fro xs)) st postL ex ↔ postL xs st := Iff.rfl
@[simp] theorem wp_tuple_l {xs : List Da} : Wp (tupleD (.lst xs)) st post ex ↔ post (.tup xs) st := Iff.rfl
theorem wp_tuple_h {n : Nat} {xs : List Da} (h : st[n]? = some (.lst xs)) : Wp (tupleD (.han n)) st post ex ↔ post (.tup xs) st := by
  unfold Wp tupleD sqOf lsOf; dsimp only; rw [h]
@[simp] theorem wp_catL_l {xs ys : List Da} : Wp (catL (.lst xs) (.lst ys)) st postL ex ↔ if xs.length + ys.length ≤ 1000000 then postL (xs ++ ys) st else False := by
  unfold Wp catL lsOf
  dsimp only
  by_cases h : xs.length + ys.length ≤ szD
  · rw [if_pos h, if_pos h]
  · rw [if_neg h, if_neg h]
theorem blsOf_map (bs : List Bool) : blsOf (bs.map Da.bl) = some bs := by
  induction bs with
  | nil => rfl
  | cons b r ih => show (blsOf (r.map Da.bl)).map (b :: ·) = _; rw [ih]; rfl
theorem wp_all {xs : List Da} {bs : List Bool} (h : xs = bs.map Da.bl) : Wp (allD (.lst xs)) st post ex ↔ post (.bl (bs.all id)) st := by
  unfold Wp allD lsOf; dsimp only; rw [h, blsOf_map]
@[simp] theorem wp_all1 {x : Bool} : Wp (allD (.lst [.bl x])) st post ex ↔ post (.bl x) st := (wp_all (xs := [.bl x]) (bs := [x]) rfl).trans (by simp)
@[simp] theorem wp_all2 {x y : Bool} : Wp (allD (.lst [.bl x, .bl y])) st post ex ↔ post (.bl (x && y)) st := (wp_all (xs := [.bl x, .bl y]) (bs := [x, y]) rfl).trans (by simp)
theorem wp_len_h {n : Nat} {xs : List Da} (h : st[n]? = some (.lst xs)) : Wp (lenD (.han n)) st post ex ↔ post (.int xs.length) st := wp_len (by unfold sqOf lsOf; dsimp only; rw [h])
theorem wp_setD {n : Nat} {k : Int} {x : Da} {xs : List Da} {j : Nat} {post : Unit → Store → Prop} (h : st[n]? = some (.lst xs)) (hj : ixN xs.length k = some j) : Wp (setD (.han n) (.int k) x) st post ex ↔ post () (st.set n (.lst (xs.set j x))) := by
  unfold Wp setD; dsimp only; rw [h]; dsimp only; rw [hj]
@[simp] theorem wp_eApp : Wp (eApp a b ro) st post ex ↔ Wp (a ro) st (fun d s1 => Wp (isLs d) s1 (fun _ s2 => Wp (b ro) s2 (fun x s3 => Wp (appD d x) s3 post ex) ex) ex) ex := by unfold eApp; simp only [wp_bnd]
theorem wp_isLs {d : Da} {xs : List Da} {post : Unit → Store → Prop} (h : lsOf st d = some xs) : Wp (isLs d) st post ex ↔ post () st := by unfold Wp isLs; rw [h]
theorem wp_isLs_h {n : Nat} {xs : List Da} {post : Unit → Store → Prop} (h : st[n]? = some (.lst xs)) : Wp (isLs (.han n)) st post ex ↔ post () st := wp_isLs (xs := xs) (by unfold lsOf; dsimp only; rw [h])
theorem wp_appD {n : Nat} {x : Da} {xs : List Da} (h : st[n]? = some (.lst xs)) (hl : xs.length < szD) : Wp (appD (.han n) x) st post ex ↔ post .non (st.set n (.lst (xs ++ [x]))) := by
  unfold Wp appD; dsimp only; rw [h]; dsimp only; rw [if_pos hl]
@[simp] theorem wp_ePopAt : Wp (ePopAt a b ro) st post ex ↔ Wp (a ro) st (fun d s1 => Wp (isLs d) s1 (fun _ s2 => Wp (b ro) s2 (fun x s3 => Wp (popAtD d x) s3 post ex) ex) ex) ex := by unfold ePopAt; simp only [wp_bnd]
@[simp] theorem wp_ePop : Wp (ePop a ro) st post ex ↔ Wp (a ro) st (fun d s1 => Wp (isLs d) s1 (fun _ s2 => Wp (popD d) s2 post ex) ex) ex := by unfold ePop; simp only [wp_bnd]
@[simp] theorem wp_mSetSl {lo hi : Sl → Mo (Option Int)} : Wp (mSetSl a b lo hi ro) st postF ex ↔ Wp (a ro) st (fun x s1 => Wp (b ro) s1 (fun d s2 => Wp (lo ro) s2 (fun l s3 => Wp (hi ro) s3 (fun h s4 => Wp (setSlD d l h x) s4 (fun _ s5 => postF (.nx ro) s5) ex) ex) ex) ex) ex := by unfold mSetSl; simp only [wp_bnd, wp_ret]
variable {m n : Sl → Mo Fl}
@[simp] theorem wp_mNil : Wp (mNil ro) st postF ex ↔ postF (.nx ro) st := Iff.rfl
def seqK (n : Sl → Mo Fl) (postF : Fl → Store → Prop) (ex : Str → List Da → Store → Prop) (f : Fl) (st : Store) : Prop := match f with
  | .nx ro => Wp (n ro) st postF ex
  | .rt d => postF (.rt d) st
  | .bk ro => postF (.bk ro) st
  | .ct ro => postF (.ct ro) st
@[simp] theorem seqK_nx : seqK n postF ex (.nx ro) st ↔ Wp (n ro) st postF ex := Iff.rfl
@[simp] theorem seqK_rt {d : Da} : seqK n postF ex (.rt d) st ↔ postF (.rt d) st := Iff.rfl
@[simp] theorem seqK_bk : seqK n postF ex (.bk ro) st ↔ postF (.bk ro) st := Iff.rfl
@[simp] theorem seqK_ct : seqK n postF ex (.ct ro) st ↔ postF (.ct ro) st := Iff.rfl
@[simp] theorem wp_mSeq : Wp (mSeq m n ro) st postF ex ↔ Wp (m ro) st (seqK n postF ex) ex := by
  unfold mSeq
  rw [wp_bnd]
  exact Wp.congr fun f s => by cases f <;> exact Iff.rfl
@[simp] theorem wp_mSet {i : Nat} : Wp (mSet i a ro) st postF ex ↔ Wp (a ro) st (fun d s1 => postF (.nx (ro.set i (some d))) s1) ex := by unfold mSet; simp only [wp_bnd, wp_ret]
@[simp] theorem wp_mTgt {t : Tg} : Wp (mTgt t a ro) st postF ex ↔ Wp (a ro) st (fun d s1 => ∃ ro', t d ro = some ro' ∧ postF (.nx ro') s1) ex := by
  unfold mTgt
  rw [wp_bnd]
  refine Wp.congr fun d s => ?_
  cases q : t d ro with
  | none => simp
  | some r => simp
def parK (i j : Nat) (ro : Sl) (postF : Fl → Store → Prop) (ds : List Da) (st : Store) : Prop := match ds with
  | [d, e] => postF (.nx ((ro.set i (some d)).set j (some e))) st
  | _ => False
@[simp] theorem parK_two {i j : Nat} {d e : Da} : parK i j ro postF [d, e] st ↔ postF (.nx ((ro.set i (some d)).set j (some e))) st := Iff.rfl
@[simp] theorem wp_mPar {i j : Nat} : Wp (mPar i j al ro) st postF ex ↔ Wp (al ro) st (parK i j ro postF) ex := by
  unfold mPar
  rw [wp_bnd]
  refine Wp.congr fun ds s => ?_
  match ds with
  | [] => exact Iff.rfl
  | [d] => exact Iff.rfl
  | [d, e] => exact Iff.rfl
  | d :: e :: f :: r => exact Iff.rfl
@[simp] theorem wp_mRet : Wp (mRet a ro) st postF ex ↔ Wp (a ro) st (fun d s1 => postF (.rt d) s1) ex := by unfold mRet; simp only [wp_bnd, wp_ret]
@[simp] theorem wp_mRetN : Wp (mRetN ro) st postF ex ↔ postF (.rt .non) st := Iff.rfl
@[simp] theorem wp_mExpr : Wp (mExpr a ro) st postF ex ↔ Wp (a ro) st (fun d s1 => postF (.nx ro) s1) ex := by unfold mExpr; simp only [wp_bnd, wp_ret]
@[simp] theorem wp_mIf : Wp (mIf p m n ro) st postF ex ↔ Wp (p ro) st (fun x s1 => if x = true then Wp (m ro) s1 postF ex else Wp (n ro) s1 postF ex) ex := by unfold mIf; simp only [wp_bnd, wp_ite]
@[simp] theorem wp_mBrk : Wp (mBrk ro) st postF ex ↔ postF (.bk ro) st := Iff.rfl
@[simp] theorem wp_mNever : Wp (mNever ro) st postF ex ↔ False := Iff.rfl
@[simp] theorem wp_mSetI : Wp (mSetI a b c ro) st postF ex ↔ Wp (a ro) st (fun x s1 => Wp (b ro) s1 (fun d s2 => Wp (c ro) s2 (fun k s3 => Wp (setD d k x) s3 (fun _ s4 => postF (.nx ro) s4) ex) ex) ex) ex := by unfold mSetI; simp only [wp_bnd, wp_ret]
def fnK (post : Da → Store → Prop) (f : Fl) (st : Store) : Prop := match f with
  | .nx _ => post .non st
  | .rt d => post d st
  | _ => False
@[simp] theorem fnK_nx : fnK post (.nx ro) st ↔ post .non st := Iff.rfl
@[simp] theorem fnK_rt {d : Da} : fnK post (.rt d) st ↔ post d st := Iff.rfl
@[simp] theorem wp_fnM {k : Nat} {ds : List Da} : Wp (fnM k m ds) st post ex ↔ Wp (m (startS k ds)) st (fnK post) ex := by
  unfold fnM
  rw [wp_bnd]
  exact Wp.congr fun f s => by cases f <;> exact Iff.rfl
def loopP (I : Sl → Store → Prop) (postF : Fl → Store → Prop) (f : Fl) (st : Store) : Prop := match f with
  | .nx ro => I ro st
  | .ct ro => I ro st
  | .bk ro => postF (.nx ro) st
  | .rt d => postF (.rt d) st
@[simp] theorem loopP_nx {I : Sl → Store → Prop} : loopP I postF (.nx ro) st ↔ I ro st := Iff.rfl
@[simp] theorem loopP_ct {I : Sl → Store → Prop} : loopP I postF (.ct ro) st ↔ I ro st := Iff.rfl
@[simp] theorem loopP_bk {I : Sl → Store → Prop} : loopP I postF (.bk ro) st ↔ postF (.nx ro) st := Iff.rfl
@[simp] theorem loopP_rt {I : Sl → Store → Prop} {d : Da} : loopP I postF (.rt d) st ↔ postF (.rt d) st := Iff.rfl
theorem wp_loopK {go : Sl → Mo Fl} {f : Fl} (h : loopP (fun ro st => Wp (go ro) st postF ex) postF f st) : Wp (loopK go f) st postF ex := by
  cases f <;> exact h
theorem wp_forGo {all : List Da} {t : Tg} {body : Sl → Mo Fl} (I : Nat → Sl → Store → Prop) {xs : List Da} (hs : ∀ (i : Nat) (x : Da) (ro : Sl) (st : Store), xs[i]? = some x → I i ro st → ∃ ro1, t x ro = some ro1 ∧ Wp (body ro1) st (loopP (I (i + 1)) postF) ex)
    (hd : ∀ ro st, I xs.length ro st → postF (.nx ro) st) : ∀ (k : Nat) (ro : Sl) (st : Store), k ≤ xs.length → I k ro st → Wp (forGo none all t body (xs.drop k) ro) st postF ex := by
  intro k
  induction hn : xs.length - k generalizing k with
  | zero =>
    intro ro st hk h
    have e : k = xs.length := by omega
    subst e
    rw [List.drop_length]
    exact hd ro st h
  | succ n ih =>
    intro ro st hk h
    have hlt : k < xs.length := by omega
    rw [List.drop_eq_getElem_cons hlt]
    obtain ⟨ro1, h1, h2⟩ := hs k _ ro st (List.getElem?_eq_getElem hlt) h
    show Wp (fun st => if chk none all st = true then (match t xs[k] ro with | some ro1 => bnd (body ro1) (loopK (forGo none all t body (xs.drop (k + 1)))) st | none => .bad) else .bad) st postF ex
    rw [h1]
    show Wp (bnd (body ro1) (loopK (forGo none all t body (xs.drop (k + 1))))) st postF ex
    rw [wp_bnd]
    refine h2.mono fun f st' hf => wp_loopK ?_
    cases f with
    | nx ro' => exact ih (k + 1) (by omega) ro' st' hlt hf
    | ct ro' => exact ih (k + 1) (by omega) ro' st' hlt hf
    | bk ro' => exact hf
    | rt d => exact hf
theorem wp_for {s : Sl → Mo Src} {t : Tg} {body : Sl → Mo Fl} : Wp (mFor s t body ro) st postF ex ↔ Wp (s ro) st (fun s st' => Wp (forGo s.o s.xs t body s.xs ro) st' postF ex) ex := by unfold mFor; rw [wp_bnd]
/-- a for over data: what holds between the turns -/
theorem wp_forI {all : List Da} {t : Tg} {body : Sl → Mo Fl} {xs : List Da} (I : Nat → Sl → Store → Prop) (h0 : I 0 ro st)
    (hs : ∀ (i : Nat) (x : Da) (ro : Sl) (st : Store), xs[i]? = some x → I i ro st → ∃ ro1, t x ro = some ro1 ∧ Wp (body ro1) st (loopP (I (i + 1)) postF) ex)
    (hd : ∀ ro st, I xs.length ro st → postF (.nx ro) st) : Wp (forGo none all t body xs ro) st postF ex := wp_forGo I hs hd 0 ro st (Nat.zero_le _) h0
theorem wp_compGo {all : List Da} {t : Tg} {p : Sl → Mo Bool} {e : Sl → Mo Da} {xs : List Da} (I : Nat → List Da → Store → Prop) (hl : ∀ i acc st, I i acc st → acc.length ≤ i) (hx : xs.length < szD)
    (hs : ∀ (i : Nat) (x : Da) (acc : List Da) (st : Store), xs[i]? = some x → I i acc st → ∃ ro1, t x ro = some ro1 ∧ Wp (p ro1) st (fun c s1 => if c = true then Wp (e ro1) s1 (fun y s2 => I (i + 1) (acc ++ [y]) s2) noEx else I (i + 1) acc s1) noEx)
    (hd : ∀ acc st, I xs.length acc st → postL acc st) : ∀ (k : Nat) (acc : List Da) (st : Store), k ≤ xs.length → I k acc st → Wp (compGo none all t p e ro (xs.drop k) acc) st postL ex := by
  intro k
  induction hn : xs.length - k generalizing k with
  | zero =>
    intro acc st hk h
    have e : k = xs.length := by omega
    subst e
    rw [List.drop_length]
    exact hd acc st h
  | succ n ih =>
    intro acc st hk h
    have hlt : k < xs.length := by omega
    rw [List.drop_eq_getElem_cons hlt]
    obtain ⟨ro1, h1, h2⟩ := hs k _ acc st (List.getElem?_eq_getElem hlt) h
    have hacc := hl k acc st h
    show Wp (fun st => if chk none all st = true then (match t xs[k] ro with | some ro1 => bnd (noX (p ro1)) (fun c => if c = true then bnd (noX (e ro1)) (fun y => if acc.length < szD then compGo none all t p e ro (xs.drop (k + 1)) (acc ++ [y]) else nop) else compGo none all t p e ro (xs.drop (k + 1)) acc) st | none => .bad) else .bad) st postL ex
    rw [h1]
    show Wp (bnd (noX (p ro1)) _) st postL ex
    rw [wp_bnd, wp_noX]
    refine h2.mono fun c s1 hc => ?_
    rw [wp_ite]
    cases c with
    | true =>
      rw [if_pos rfl] at hc ⊢
      rw [wp_bnd, wp_noX]
      refine hc.mono fun y s2 hy => ?_
      rw [wp_ite, if_pos (show acc.length < szD by omega)]
      exact ih (k + 1) (by omega) _ s2 hlt hy
    | false =>
      rw [if_neg Bool.false_ne_true] at hc ⊢
      exact ih (k + 1) (by omega) _ s1 hlt hc
@[simp] theorem wp_comp_nil {all : List Da} {t : Tg} {p : Sl → Mo Bool} {e : Sl → Mo Da} {acc : List Da} : Wp (compGo none all t p e ro [] acc) st postL ex ↔ postL acc st := Iff.rfl
@[simp] theorem wp_comp_cons {all : List Da} {t : Tg} {p : Sl → Mo Bool} {e : Sl → Mo Da} {acc r : List Da} {x : Da} : Wp (compGo none all t p e ro (x :: r) acc) st postL ex ↔ ∃ ro1, t x ro = some ro1 ∧ Wp (p ro1) st (fun c s1 => if c = true then Wp (e ro1) s1 (fun y s2 => if acc.length < 1000000 then Wp (compGo none all t p e ro r (acc ++ [y])) s2 postL ex else False) noEx else Wp (compGo none all t p e ro r acc) s1 postL ex) noEx := by
  cases q : t x ro with
  | none =>
    refine ⟨fun h => ?_, fun ⟨_, h, _⟩ => nomatch h⟩
    have h' : Wp (fun st => if chk none all st = true then (match t x ro with | some ro1 => bnd (noX (p ro1)) (fun c => if c = true then bnd (noX (e ro1)) (fun y => if acc.length < szD then compGo none all t p e ro r (acc ++ [y]) else nop) else compGo none all t p e ro r acc) st | none => .bad) else .bad) st postL ex := h
    rw [q] at h'
    exact h'.elim
  | some ro1 =>
    have hh : Wp (compGo none all t p e ro (x :: r) acc) st postL ex ↔ Wp (fun st => if chk none all st = true then (match t x ro with | some ro1 => bnd (noX (p ro1)) (fun c => if c = true then bnd (noX (e ro1)) (fun y => if acc.length < szD then compGo none all t p e ro r (acc ++ [y]) else nop) else compGo none all t p e ro r acc) st | none => .bad) else .bad) st postL ex := Iff.rfl
    rw [hh, q]
    have hk : Wp (fun st => if chk none all st = true then (match some ro1 with | some ro1 => bnd (noX (p ro1)) (fun c => if c = true then bnd (noX (e ro1)) (fun y => if acc.length < szD then compGo none all t p e ro r (acc ++ [y]) else nop) else compGo none all t p e ro r acc) st | none => .bad) else .bad) st postL ex ↔ Wp (bnd (noX (p ro1)) (fun c => if c = true then bnd (noX (e ro1)) (fun y => if acc.length < szD then compGo none all t p e ro r (acc ++ [y]) else nop) else compGo none all t p e ro r acc)) st postL ex := Iff.rfl
    rw [hk]
    simp only [wp_bnd, wp_noX, wp_ite, wp_nop, Option.some.injEq, exists_eq_left']
@[simp] theorem wp_for_nil {all : List Da} {t : Tg} {body : Sl → Mo Fl} : Wp (forGo none all t body [] ro) st postF ex ↔ postF (.nx ro) st := Iff.rfl
@[simp] theorem wipe_nil : wipeS ro [] = ro := rfl
@[simp] theorem wipe_cons {v : Nat} {vs : List Nat} : wipeS ro (v :: vs) = (wipeS ro vs).set v none := rfl
@[simp] theorem cut_to2 {x y : Da} {r : List Da} : cutD (x :: y :: r) none (some 2) = [x, y] := by
  unfold cutD
  show List.take (min 2 (r.length + 1 + 1) - 0) (x :: y :: r) = [x, y]
  rw [show min 2 (r.length + 1 + 1) - 0 = 2 by omega]
  rfl
theorem wp_lComp {s : Sl → Mo Src} {t : Tg} {p : Sl → Mo Bool} {e : Sl → Mo Da} {vs : List Nat} : Wp (lComp s t p e vs ro) st postL ex ↔ Wp (s ro) st (fun s st' => Wp (compGo s.o s.xs t p e (wipeS ro vs) s.xs []) st' postL ex) ex := by unfold lComp; rw [wp_bnd]
theorem wp_compI {all : List Da} {t : Tg} {p : Sl → Mo Bool} {e : Sl → Mo Da} {xs : List Da} (I : Nat → List Da → Store → Prop) (h0 : I 0 [] st) (hl : ∀ i acc st, I i acc st → acc.length ≤ i) (hx : xs.length < szD)
    (hs : ∀ (i : Nat) (x : Da) (acc : List Da) (st : Store), xs[i]? = some x → I i acc st → ∃ ro1, t x ro = some ro1 ∧ Wp (p ro1) st (fun c s1 => if c = true then Wp (e ro1) s1 (fun y s2 => I (i + 1) (acc ++ [y]) s2) noEx else I (i + 1) acc s1) noEx)
    (hd : ∀ acc st, I xs.length acc st → postL acc st) : Wp (compGo none all t p e ro xs []) st postL ex := wp_compGo I hl hx hs hd 0 [] st (Nat.zero_le _) h0
/-- a comprehension that changes nothing -/
theorem wp_compF {α : Type} {all : List Da} {t : Tg} {p : Sl → Mo Bool} {e : Sl → Mo Da} {rs : List α} {f g : α → Da} {P : α → Bool} (hx : rs.length < 1000000)
    (h : ∀ x ∈ rs, ∃ ro1, t (f x) ro = some ro1 ∧ Wp (p ro1) st (fun c s => c = P x ∧ s = st) noEx ∧ (P x = true → Wp (e ro1) st (fun d s => d = g x ∧ s = st) noEx))
    (hp : postL ((rs.filter P).map g) st) : Wp (compGo none all t p e ro (rs.map f) []) st postL ex := by
  refine wp_compI (fun i acc s => s = st ∧ acc = ((rs.take i).filter P).map g) ⟨rfl, rfl⟩ (fun i acc s q => ?_) (by simpa using hx) ?_ ?_
  · rw [q.2, List.length_map]
    exact Nat.le_trans (List.length_filter_le _ _) (by simp; omega)
  · rintro i x acc s hq ⟨rfl, rfl⟩
    rw [List.getElem?_map] at hq
    obtain ⟨y, hy, rfl⟩ := Option.map_eq_some_iff.mp hq
    obtain ⟨ro1, h1, h2, h3⟩ := h y (List.mem_of_getElem? hy)
    refine ⟨ro1, h1, h2.mono ?_⟩
    rintro c s1 ⟨rfl, rfl⟩
    have ht : rs.take (i + 1) = rs.take i ++ [y] := by rw [List.take_add_one, hy]; rfl
    cases q : P y with
    | true =>
      rw [if_pos rfl]
      refine (h3 q).mono ?_
      rintro d s2 ⟨rfl, rfl⟩
      refine ⟨rfl, ?_⟩
      rw [ht, List.filter_append, List.map_append]
      simp [q]
    | false =>
      rw [if_neg Bool.false_ne_true]
      refine ⟨rfl, ?_⟩
      rw [ht, List.filter_append, List.map_append]
      simp [q]
  · rintro acc s ⟨rfl, rfl⟩
    rw [List.take_of_length_le (by simp)]
    exact hp
variable {postS : Src → Store → Prop}
@[simp] theorem wp_iV : Wp (iV a ro) st postS ex ↔ Wp (a ro) st (fun d s1 => Wp (srcV d) s1 postS ex) ex := by unfold iV; rw [wp_bnd]
@[simp] theorem wp_srcV_l {xs : List Da} : Wp (srcV (.lst xs)) st postS ex ↔ postS ⟨xs, none⟩ st := Iff.rfl
@[simp] theorem wp_srcV_t {xs : List Da} : Wp (srcV (.tup xs)) st postS ex ↔ postS ⟨xs, none⟩ st := Iff.rfl
@[simp] theorem wp_iR1 : Wp (iR1 al ro) st postS ex ↔ Wp (al ro) st (fun d s1 => Wp (srcR1 d) s1 postS ex) ex := by unfold iR1; rw [wp_bnd]
@[simp] theorem wp_iR2 : Wp (iR2 al ro) st postS ex ↔ Wp (al ro) st (fun d s1 => Wp (srcR2 d) s1 postS ex) ex := by unfold iR2; rw [wp_bnd]
@[simp] theorem wp_srcR1 {j : Int} : Wp (srcR1 [.int j]) st postS ex ↔ if big j then postS ⟨rngL 0 j.toNat, none⟩ st else False := by unfold srcR1; simp only [wp_ite, wp_ret, wp_nop]
@[simp] theorem wp_srcR2 {i j : Int} : Wp (srcR2 [.int i, .int j]) st postS ex ↔ if big i ∧ big j then postS ⟨rngL i (j - i).toNat, none⟩ st else False := by unfold srcR2; simp only [wp_ite, wp_ret, wp_nop]
@[simp] theorem wp_yes : Wp (tYes_ ro) st postB ex ↔ postB true st := Iff.rfl
@[simp] theorem gN_eq {i : Nat} {d : Da} : gN i d ro = some (ro.set i (some d)) := rfl
@[simp] theorem gsN_eq : gsN [] ro = some ro := rfl
@[simp] theorem gsC_eq {t : Tg} {u : Tgs} {d : Da} {r : List Da} : gsC t u (d :: r) ro = (t d ro).bind fun ro1 => u r ro1 := rfl
@[simp] theorem gT_eq {k : Nat} {t : Tgs} {xs : List Da} : gT k t (.tup xs) ro = if xs.length = k then t xs ro else none := rfl
variable {postP : Option Int → Store → Prop}
@[simp] theorem wp_noP : Wp (noP ro) st postP ex ↔ postP none st := Iff.rfl
@[simp] theorem wp_soP : Wp (soP a ro) st postP ex ↔ Wp (a ro) st (fun d s1 => ∃ i, d = .int i ∧ postP (some i) s1) ex := by
  unfold soP
  rw [wp_bnd]
  refine Wp.congr fun d s => ?_
  cases d <;> simp
@[simp] theorem wp_eSl {f : Da → Option Int → Option Int → Mo Da} {lo hi : Sl → Mo (Option Int)} : Wp (eSl f a lo hi ro) st post ex ↔ Wp (a ro) st (fun d s1 => Wp (lo ro) s1 (fun l s2 => Wp (hi ro) s2 (fun h s3 => Wp (f d l h) s3 post ex) ex) ex) ex := by unfold eSl; simp only [wp_bnd]
@[simp] theorem wp_slA_t {xs : List Da} {lo hi : Option Int} : Wp (slA (.tup xs) lo hi) st post ex ↔ post (.tup (cutD xs lo hi)) st := Iff.rfl
@[simp] theorem wp_slA_l {xs : List Da} {lo hi : Option Int} : Wp (slA (.lst xs) lo hi) st post ex ↔ post (.lst (cutD xs lo hi)) st := Iff.rfl
end
theorem wp_eqB {neg : Bool} {d e : Da} {p q : PyData} {st : Store} {ex : Str → List Da → Store → Prop} {post : Da → Store → Prop} (h1 : pyD st d = some p) (h2 : pyD st e = some q) (s1 : SeqAt.shaped p = true) (s2 : SeqAt.shaped q = true) :
    Wp (eqB neg d e) st post ex ↔ post (.bl (if neg then !PyData.eqv p q else PyData.eqv p q)) st := by
  unfold Wp eqB
  rw [h1, h2]
  dsimp only
  rw [if_pos (by rw [s1, s2]; rfl)]
end CL
namespace CL
open PySem L2
mutual
def toPy : Da → PyData
  | .non => .none
  | .bl b => .bool b
  | .int i => .int i
  | .str s => .str s
  | .tup xs => .tuple (toPyL xs)
  | .lst xs => .list (toPyL xs)
  | .fro xs => .list (toPyL xs)
  | .han _ => .none
def toPyL : List Da → List PyData
  | [] => []
  | x :: xs => toPy x :: toPyL xs
end
mutual
def pl : Nat → Da → Bool
  | _, .non => true
  | _, .bl _ => true
  | _, .int _ => true
  | _, .str s => PyData.strOk s
  | 0, .tup _ => false
  | n + 1, .tup xs => plL n xs
  | 0, .lst _ => false
  | n + 1, .lst xs => plL n xs
  | 0, .fro _ => false
  | n + 1, .fro xs => plL n xs
  | _, .han _ => false
def plL : Nat → List Da → Bool
  | _, [] => true
  | n, x :: xs => pl n x && plL n xs
end
section
variable {hf : Nat → Option PyData}
mutual
theorem pl_py : ∀ (n : Nat) (d : Da), pl n d = true → pyW hf d = some (toPy d) ∧ (toPy d).canLay0 = true ∧ (toPy d).depth ≤ n
  | n, .non, h => by simp [pyW, toPy, PyData.canLay0, PyData.depth]
  | n, .bl b, h => by simp [pyW, toPy, PyData.canLay0, PyData.depth]
  | n, .int i, h => by simp [pyW, toPy, PyData.canLay0, PyData.depth]
  | n, .str s, h => by
    have h' : PyData.strOk s = true := by simpa [pl] using h
    simp [pyW, toPy, PyData.canLay0, PyData.depth, h']
  | 0, .tup xs, h => by simp [pl] at h
  | n + 1, .tup xs, h => by
    obtain ⟨h1, h2, h3⟩ := plL_py n xs (by simpa [pl] using h)
    simp [pyW, toPy, PyData.canLay0, PyData.depth, h1, h2, h3]
  | 0, .lst xs, h => by simp [pl] at h
  | n + 1, .lst xs, h => by
    obtain ⟨h1, h2, h3⟩ := plL_py n xs (by simpa [pl] using h)
    simp [pyW, toPy, PyData.canLay0, PyData.depth, h1, h2, h3]
  | 0, .fro xs, h => by simp [pl] at h
  | n + 1, .fro xs, h => by
    obtain ⟨h1, h2, h3⟩ := plL_py n xs (by simpa [pl] using h)
    simp [pyW, toPy, PyData.canLay0, PyData.depth, h1, h2, h3]
  | n, .han k, h => by simp [pl] at h
theorem plL_py : ∀ (n : Nat) (ds : List Da), plL n ds = true → pyWL hf ds = some (toPyL ds) ∧ PyData.canLayAll0 (toPyL ds) = true ∧ PyData.depthAll (toPyL ds) ≤ n
  | n, [], h => by simp [pyWL, toPyL, PyData.canLayAll0, PyData.depthAll]
  | n, x :: xs, h => by
    have h' : pl n x = true ∧ plL n xs = true := by simpa [plL] using h
    obtain ⟨a1, a2, a3⟩ := pl_py n x h'.1
    obtain ⟨b1, b2, b3⟩ := plL_py n xs h'.2
    simp only [pyWL, toPyL, PyData.canLayAll0, PyData.depthAll, a1, a2, b1, b2]
    refine ⟨trivial, rfl, ?_⟩
    omega
end
end
theorem plL_all : ∀ (n : Nat) (ds : List Da), plL n ds = ds.all (pl n)
  | n, [] => by simp [plL]
  | n, x :: xs => by simp [plL, plL_all n xs]
mutual
theorem pl_le : ∀ (n m : Nat) (d : Da), n ≤ m → pl n d = true → pl m d = true
  | _, _, .non, _, _ => by simp [pl]
  | _, _, .bl _, _, _ => by simp [pl]
  | _, _, .int _, _, _ => by simp [pl]
  | _, _, .str _, _, h => by simpa [pl] using h
  | 0, _, .tup _, _, h => by simp [pl] at h
  | 0, _, .lst _, _, h => by simp [pl] at h
  | 0, _, .fro _, _, h => by simp [pl] at h
  | n + 1, 0, _, hl, _ => by omega
  | n + 1, m + 1, .tup xs, hl, h => by simp only [pl] at h ⊢; exact plL_le n m xs (by omega) h
  | n + 1, m + 1, .lst xs, hl, h => by simp only [pl] at h ⊢; exact plL_le n m xs (by omega) h
  | n + 1, m + 1, .fro xs, hl, h => by simp only [pl] at h ⊢; exact plL_le n m xs (by omega) h
  | _, _, .han _, _, h => by simp [pl] at h
theorem plL_le : ∀ (n m : Nat) (d : List Da), n ≤ m → plL n d = true → plL m d = true
  | _, _, [], _, _ => by simp [plL]
  | n, m, x :: xs, hl, h => by
    have h' : pl n x = true ∧ plL n xs = true := by simpa [plL] using h
    simp only [plL, pl_le n m x hl h'.1, plL_le n m xs hl h'.2]
    rfl
end
/-- how two data compare -/
def deq (d e : Da) : Bool := PyData.eqv (toPy d) (toPy e)
def deqL (d e : List Da) : Bool := PyData.eqvAll (toPyL d) (toPyL e)
structure PyIs (st : Store) (d : Da) (p : PyData) : Prop where
  py : pyD st d = some p
  sh : SeqAt.shaped p = true
theorem pl_is {st : Store} {d : Da} {n : Nat} (hn : n ≤ 64) (h : pl n d = true) : PyIs st d (toPy d) := by
  obtain ⟨h1, h2, h3⟩ := pl_py (hf := hfOf st) n d h
  refine ⟨h1, ?_⟩
  unfold SeqAt.shaped
  rw [h2, decide_eq_true (by omega)]
  rfl
theorem han_is {st : Store} {k n : Nat} {xs : List Da} (hn : n ≤ 63) (h : st[k]? = some (.lst xs)) (hp : plL n xs = true) : PyIs st (.han k) (.list (toPyL xs)) := by
  obtain ⟨h1, h2, h3⟩ := plL_py (hf := fun _ => none) n xs hp
  refine ⟨?_, ?_⟩
  · show pyW (hfOf st) (.han k) = _
    unfold pyW hfOf
    rw [h]
    dsimp only
    rw [show py0L xs = some (toPyL xs) from h1]
    rfl
  · unfold SeqAt.shaped
    rw [show PyData.canLay0 (.list (toPyL xs)) = true by simpa [PyData.canLay0] using h2, decide_eq_true (by simp only [PyData.depth]; omega)]
    rfl
theorem deq_refl {d : Da} {n : Nat} (h : pl n d = true) : deq d d = true := SeqAt.eqv_refl _ (pl_py (hf := fun _ => none) n d h).2.1
section
variable {st : Store} {ex : Str → List Da → Store → Prop} {post : Da → Store → Prop}
theorem wp_eqI {neg : Bool} {d e : Da} {p q : PyData} (h1 : PyIs st d p) (h2 : PyIs st e q) : Wp (eqB neg d e) st post ex ↔ post (.bl (if neg then !PyData.eqv p q else PyData.eqv p q)) st := wp_eqB h1.py h2.py h1.sh h2.sh
theorem wp_eq {d e : Da} (h1 : pl 60 d = true) (h2 : pl 60 e = true) : Wp (eqB false d e) st post ex ↔ post (.bl (deq d e)) st := wp_eqI (pl_is (by decide) h1) (pl_is (by decide) h2)
theorem wp_ne {d e : Da} (h1 : pl 60 d = true) (h2 : pl 60 e = true) : Wp (eqB true d e) st post ex ↔ post (.bl (!deq d e)) st := wp_eqI (pl_is (by decide) h1) (pl_is (by decide) h2)
@[simp] theorem wp_eq_i {i j : Int} : Wp (eqB false (.int i) (.int j)) st post ex ↔ post (.bl (decide (i = j))) st := by
  rw [wp_eq (by simp [pl]) (by simp [pl])]
  simp [deq, toPy, PyData.eqv, BEq.beq]
@[simp] theorem wp_ne_i {i j : Int} : Wp (eqB true (.int i) (.int j)) st post ex ↔ post (.bl (!decide (i = j))) st := by
  rw [wp_ne (by simp [pl]) (by simp [pl])]
  simp [deq, toPy, PyData.eqv, BEq.beq]
end
@[simp] theorem deq_int {i j : Int} : deq (.int i) (.int j) = decide (i = j) := by simp [deq, toPy, PyData.eqv, BEq.beq]
@[simp] theorem deq_non_int {j : Int} : deq .non (.int j) = false := by simp [deq, toPy, PyData.eqv]
@[simp] theorem deq_int_non {j : Int} : deq (.int j) .non = false := by simp [deq, toPy, PyData.eqv]
@[simp] theorem deq_non : deq .non .non = true := by simp [deq, toPy, PyData.eqv]
@[simp] theorem deq_bl {i j : Bool} : deq (.bl i) (.bl j) = (i == j) := by simp [deq, toPy, PyData.eqv]
@[simp] theorem deq_tup {i j : List Da} : deq (.tup i) (.tup j) = deqL i j := by simp [deq, deqL, toPy, PyData.eqv]
@[simp] theorem deq_lst {i j : List Da} : deq (.lst i) (.lst j) = deqL i j := by simp [deq, deqL, toPy, PyData.eqv]
@[simp] theorem deq_fro {i j : List Da} : deq (.fro i) (.lst j) = deqL i j := by simp [deq, deqL, toPy, PyData.eqv]
@[simp] theorem deq_tup_lst {i j : List Da} : deq (.tup i) (.lst j) = false := by simp [deq, toPy, PyData.eqv]
@[simp] theorem deq_lst_tup {i j : List Da} : deq (.lst i) (.tup j) = false := by simp [deq, toPy, PyData.eqv]
@[simp] theorem deqL_nil : deqL [] [] = true := by simp [deqL, toPyL, PyData.eqvAll]
@[simp] theorem deqL_cons {x y : Da} {xs ys : List Da} : deqL (x :: xs) (y :: ys) = (deq x y && deqL xs ys) := by simp [deqL, deq, toPyL, PyData.eqvAll]
@[simp] theorem deqL_nc {y : Da} {ys : List Da} : deqL [] (y :: ys) = false := by simp [deqL, toPyL, PyData.eqvAll]
@[simp] theorem deqL_cn {y : Da} {ys : List Da} : deqL (y :: ys) [] = false := by simp [deqL, toPyL, PyData.eqvAll]
theorem deqL_ne {xs : List Da} : deqL xs [] = decide (xs = []) := by cases xs <;> simp
section
variable {st : Store} {ex : Str → List Da → Store → Prop} {post : Da → Store → Prop}
@[simp] theorem wp_ne_nil : Wp (eqB true (.lst []) (.lst [])) st post ex ↔ post (.bl false) st := by
  rw [wp_ne (by simp [pl, plL]) (by simp [pl, plL])]; simp
@[simp] theorem wp_eq_nil : Wp (eqB false (.lst []) (.lst [])) st post ex ↔ post (.bl true) st := by
  rw [wp_eq (by simp [pl, plL]) (by simp [pl, plL])]; simp
end
theorem plL_ints (n : Nat) : ∀ ns : List Int, plL n (ns.map Da.int) = true
  | [] => by simp [plL]
  | x :: xs => by simp [plL, pl, plL_ints n xs]
end CL
namespace CL
open PySem L2
/-- the town of a law: its row and its count -/
def Tw (t r : Nat) (st : Store) : Prop := t ≠ r ∧ (∃ (k : Int) (rest : List Da), (rest = [] ∨ ∃ c : Int, rest = [.int c]) ∧ st[t]? = some (.lst (.han r :: .int k :: rest))) ∧ ∃ xs : List Int, xs ≠ [] ∧ st[r]? = some (.lst (xs.map .int))
/-- all but the town stays -/
def Kp (t r : Nat) (st st' : Store) : Prop := st.length ≤ st'.length ∧ ∀ n, n ≠ t → n ≠ r → n < st.length → st'[n]? = st[n]?
structure Dr (t r : Nat) (st st' : Store) : Prop where
  tw : Tw t r st'
  kp : Kp t r st st'
theorem Kp.trans {t r : Nat} {a b c : Store} (h : Kp t r a b) (k : Kp t r b c) : Kp t r a c :=
  ⟨Nat.le_trans h.1 k.1, fun n h1 h2 h3 => (k.2 n h1 h2 (Nat.lt_of_lt_of_le h3 h.1)).trans (h.2 n h1 h2 h3)⟩
theorem Dr.trans {t r : Nat} {a b c : Store} (h : Dr t r a b) (k : Dr t r b c) : Dr t r a c := ⟨k.tw, h.kp.trans k.kp⟩
theorem Dr.refl {t r : Nat} {a : Store} (h : Tw t r a) : Dr t r a a := ⟨h, Nat.le_refl _, fun _ _ _ _ => rfl⟩
theorem some_lt {st : Store} {n : Nat} {c : Cell} (h : st[n]? = some c) : n < st.length := by
  by_cases z : n < st.length
  · exact z
  · rw [List.getElem?_eq_none (by omega)] at h; cases h
theorem fmod_rng (i : Int) {m : Int} (h : 1 ≤ m) : 0 ≤ i.fmod m ∧ i.fmod m < m := ⟨Int.fmod_nonneg_of_pos _ (by omega), Int.fmod_lt_of_pos _ (by omega)⟩
theorem atI_int {α : Type} {xs : List α} {i : Int} {v : α} (h0 : 0 ≤ i) (h : xs[i.toNat]? = some v) : atI xs i = some v := by
  have := atI_nat h
  rwa [Int.toNat_of_nonneg h0] at this
theorem ixN_int {n : Nat} {i : Int} (h0 : 0 ≤ i) (h : i < n) : ixN n i = some i.toNat := by
  unfold ixN
  rw [if_pos h0, if_pos h]
theorem draw_ok {t r : Nat} {st : Store} {m : Int} (h : Tw t r st) (h1 : 1 ≤ m) (h2 : m < 1073741824) :
    Wp (f__law_draw [.han t, .int m]) st (fun d st' => ∃ v, d = .int v ∧ 0 ≤ v ∧ v < m ∧ Dr t r st st') noEx := by
  obtain ⟨hne, ⟨k, rest, hrest, hk⟩, xs, hx, hr⟩ := h
  have hlt := some_lt hk
  have hrlt := some_lt hr
  obtain ⟨st1, hs1⟩ : ∃ st1, st1 = st.set t (.lst (.han r :: .int (k + 1) :: rest)) := ⟨_, rfl⟩
  have a1 : st1[t]? = some (.lst (.han r :: .int (k + 1) :: rest)) := by subst hs1; simp [hlt]
  have a2 : st1[r]? = some (.lst (xs.map .int)) := by subst hs1; rw [List.getElem?_set_ne hne]; exact hr
  have hpos : (1 : Int) ≤ xs.length := by
    cases xs with
    | nil => exact absurd rfl hx
    | cons x r => simp; omega
  obtain ⟨f0, f1⟩ := fmod_rng (k + 1) hpos
  generalize hat : (k + 1).fmod xs.length = at' at f0 f1
  have hj : at'.toNat < xs.length := by omega
  obtain ⟨c, hc⟩ : ∃ c, xs[at'.toNat]? = some c := ⟨_, List.getElem?_eq_getElem hj⟩
  have a3 : atI (xs.map Da.int) at' = some (.int c) := atI_int f0 (by rw [List.getElem?_map, hc]; rfl)
  have hl0 : (xs.length : Int) ≠ 0 := by omega
  have e1 : ∀ {post : Da → Store → Prop} {ex : Str → List Da → Store → Prop}, Wp (ixD (.han t) (.int 0)) st post ex ↔ post (.han r) st := wp_ix_h hk (atI_nat (j := 0) rfl)
  have e2 : ∀ {post : Da → Store → Prop} {ex : Str → List Da → Store → Prop}, Wp (ixD (.han t) (.int 1)) st post ex ↔ post (.int k) st := wp_ix_h hk (atI_nat (j := 1) rfl)
  have e3 : ∀ {post : Unit → Store → Prop} {ex : Str → List Da → Store → Prop}, Wp (setD (.han t) (.int 1) (.int (k + 1))) st post ex ↔ post () st1 := by subst hs1; exact wp_setD hk (j := 1) (ixN_int (n := (Da.han r :: Da.int k :: rest).length) (i := 1) (by decide) (by simp; omega))
  have e4 : ∀ {post : Da → Store → Prop} {ex : Str → List Da → Store → Prop}, Wp (ixD (.han t) (.int 1)) st1 post ex ↔ post (.int (k + 1)) st1 := wp_ix_h a1 (atI_nat (j := 1) rfl)
  have e5 : ∀ {post : Da → Store → Prop} {ex : Str → List Da → Store → Prop}, Wp (lenD (.han r)) st1 post ex ↔ post (.int xs.length) st1 := by
    intro post ex
    rw [wp_len (xs := xs.map .int) (by unfold sqOf lsOf; dsimp only; rw [a2]), List.length_map]
  have e6 : ∀ {post : Da → Store → Prop} {ex : Str → List Da → Store → Prop}, Wp (ixD (.han r) (.int at')) st1 post ex ↔ post (.int c) st1 := wp_ix_h a2 a3
  have e7 : ∀ {post : Unit → Store → Prop} {ex : Str → List Da → Store → Prop} {y : Da}, Wp (setD (.han r) (.int at') y) st1 post ex ↔ post () (st1.set r (.lst ((xs.map .int).set at'.toNat y))) := wp_setD a2 (ixN_int f0 (by simpa using f1))
  unfold f__law_draw m__law_draw
  simp [startS, e1, e2, e3, e4, e5, e6, e7, hat, hl0]
  refine ⟨hx, ?_⟩
  have kp1 : Kp t r st st1 := by
    subst hs1
    refine ⟨by simp, fun n h3 h4 _ => by rw [List.getElem?_set_ne (Ne.symm h3)]⟩
  split
  · refine ⟨⟨by omega, by omega⟩, by omega, (fmod_rng c h1).1, (fmod_rng c h1).2, ⟨hne, ⟨k + 1, rest, hrest, by rw [List.getElem?_set_ne (Ne.symm hne)]; exact a1⟩, xs.set at'.toNat (c.fdiv m), by simpa using hx, ?_⟩, by rw [List.length_set]; exact kp1.1, fun n h3 h4 h5 => by rw [List.getElem?_set_ne (Ne.symm h4)]; exact kp1.2 n h3 h4 h5⟩
    rw [List.getElem?_set_self (some_lt a2), List.map_set]
  · obtain ⟨g1, g2⟩ := fmod_rng (c + 104729 * (k + 1)) (show (1 : Int) ≤ 4294967291 by decide)
    refine ⟨.inl ⟨by decide, by decide⟩, ⟨by decide, by decide, by omega⟩, ⟨by decide, by decide⟩, .inr ⟨by decide, by decide⟩, ⟨by decide, by decide⟩, by omega, (fmod_rng _ h1).1, (fmod_rng _ h1).2, ⟨hne, ⟨k + 1, rest, hrest, a1⟩, xs, hx, a2⟩, kp1⟩
theorem atI_mem {α : Type} {xs : List α} {i : Int} (h0 : 0 ≤ i) (h : i < xs.length) : ∃ x, atI xs i = some x ∧ x ∈ xs := by
  have hl : i.toNat < xs.length := by omega
  exact ⟨_, atI_int h0 (List.getElem?_eq_getElem hl), List.getElem_mem hl⟩
theorem new_at (st : Store) (c : Cell) : (st ++ [c])[st.length]? = some c := by simp
theorem old_at {st : Store} {c d : Cell} {n : Nat} (h : st[n]? = some d) : (st ++ [c])[n]? = some d := by
  rw [List.getElem?_append_left (some_lt h)]; exact h
theorem Tw.push {t r : Nat} {st : Store} {c : Cell} (h : Tw t r st) : Tw t r (st ++ [c]) := by
  obtain ⟨hne, ⟨k, rest, hrest, hk⟩, xs, hx, hr⟩ := h
  exact ⟨hne, ⟨k, rest, hrest, old_at hk⟩, xs, hx, old_at hr⟩
theorem Dr.push {t r : Nat} {st st' : Store} {c : Cell} (h : Dr t r st st') : Dr t r st (st' ++ [c]) :=
  ⟨h.tw.push, by simp; have := h.kp.1; omega, fun n h1 h2 h3 => by
    rw [List.getElem?_append_left (Nat.lt_of_lt_of_le h3 h.kp.1)]
    exact h.kp.2 n h1 h2 h3⟩
theorem Tw.set {t r n : Nat} {st : Store} {c : Cell} (h : Tw t r st) (h1 : n ≠ t) (h2 : n ≠ r) : Tw t r (st.set n c) := by
  obtain ⟨hne, ⟨k, rest, hrest, hk⟩, xs, hx, hr⟩ := h
  exact ⟨hne, ⟨k, rest, hrest, by rw [List.getElem?_set_ne h1]; exact hk⟩, xs, hx, by rw [List.getElem?_set_ne h2]; exact hr⟩
theorem Tw.lt {t r : Nat} {st : Store} (h : Tw t r st) : t < st.length ∧ r < st.length := by
  obtain ⟨hne, ⟨k, rest, hrest, hk⟩, xs, hx, hr⟩ := h
  exact ⟨some_lt hk, some_lt hr⟩
/-- a cell of one's own, beyond the store one began with -/
theorem Dr.set {t r n : Nat} {st st' : Store} {c : Cell} (h : Dr t r st st') (hn : st.length ≤ n) (ht : Tw t r st) : Dr t r st (st'.set n c) := by
  have := ht.lt
  exact ⟨h.tw.set (by omega) (by omega), by rw [List.length_set]; exact h.kp.1, fun m h1 h2 h3 => by
    rw [List.getElem?_set_ne (by omega)]
    exact h.kp.2 m h1 h2 h3⟩
theorem Dr.at {t r n : Nat} {st st' : Store} {c : Cell} (h : Dr t r st st') (hn : st[n]? = some c) (h1 : n ≠ t) (h2 : n ≠ r) : st'[n]? = some c := by
  rw [h.kp.2 n h1 h2 (some_lt hn)]; exact hn
theorem town_ok (ns : List Int) : Wp (f__law_town [.fro (ns.map Da.int)]) [] (fun d st' => d = .han 1 ∧ Tw 1 0 st') noEx := by
  unfold f__law_town m__law_town
  simp [startS]
  rw [wp_ne (by simp [pl, plL_ints]) (by simp [pl, plL])]
  simp
  rw [deqL_ne]
  by_cases h : ns = []
  · subst h
    simp
    exact ⟨by decide, ⟨0, [], .inl rfl, rfl⟩, [0], by simp, rfl⟩
  · simp [h]
    exact ⟨by decide, ⟨0, [], .inl rfl, rfl⟩, ns, h, rfl⟩
end CL
namespace CL
open PySem L2
section
variable {st : Store} {ex : Str → List Da → Store → Prop} {post : Da → Store → Prop}
@[simp] theorem wp_whole {i lo hi : Int} : Wp (f_is_whole [.int i, .int lo, .int hi]) st post ex ↔ post (.bl (decide (lo ≤ i ∧ i ≤ hi))) st := by
  unfold f_is_whole m_is_whole
  simp [startS, isTn]
  by_cases h1 : lo ≤ i
  · by_cases h2 : i ≤ hi <;> simp [h1, h2]
  · simp [h1]
end
def IsLink (d : Da) : Prop := ∃ (a : Da) (b : Int) (c : Bool), d = .tup [a, .int b, .bl c] ∧ (a = .non ∨ ∃ k : Int, a = .int k ∧ 0 ≤ k ∧ k ≤ 4) ∧ 0 ≤ b ∧ b ≤ 100000
def Thin (d : Da) : Prop := ∃ xs : List Da, d = .tup xs ∧ xs.length ≤ 3
def IsCh (d : Da) : Prop := ∃ xs : List Da, d = .tup xs ∧ xs ≠ [] ∧ xs.length ≤ 1000 ∧ ∀ x ∈ xs, IsLink x
abbrev Row := Int × Int × Da
def rowD (r : Row) : Da := .tup [.int r.1, .int r.2.1, r.2.2]
def Rows : Int → List Row → Prop
  | _, [] => True
  | at_, (b, e, c) :: r => at_ ≤ b ∧ b < e ∧ e ≤ 100000 ∧ IsCh c ∧ Rows e r
theorem IsLink.pl {d : Da} (h : IsLink d) : pl 1 d = true := by
  obtain ⟨a, b, c, rfl, h, _⟩ := h
  rcases h with rfl | ⟨k, rfl, _⟩ <;> simp [CL.pl, plL]
theorem IsCh.pl {d : Da} (h : IsCh d) : pl 2 d = true := by
  obtain ⟨xs, rfl, _, _, h⟩ := h
  simp only [CL.pl]
  rw [plL_all, List.all_eq_true]
  exact fun x hx => (h x hx).pl
section
variable {st : Store} {ex : Str → List Da → Store → Prop} {post : Da → Store → Prop}
theorem Rows.mem : ∀ {at_ : Int} {rs : List Row}, Rows at_ rs → 0 ≤ at_ → ∀ r ∈ rs, 0 ≤ r.1 ∧ r.1 < r.2.1 ∧ r.2.1 ≤ 100000 ∧ IsCh r.2.2
  | _, [], _, _, r, hr => nomatch hr
  | at_, (b, e, c) :: rs, h, h0, r, hr => by
    obtain ⟨h1, h2, h3, h4, h5⟩ := h
    rcases List.mem_cons.mp hr with rfl | hr
    · exact ⟨by simp; omega, h2, h3, h4⟩
    · exact Rows.mem h5 (by omega) r hr
theorem Rows.drop : ∀ {at_ : Int} {rs : List Row}, Rows at_ rs → ∀ (i : Nat), ∃ at2, Rows at2 (rs.drop i) ∧ (at2 = if i = 0 then at_ else match rs[i - 1]? with | some r => r.2.1 | none => at2)
  | at_, rs, h, 0 => ⟨at_, h, rfl⟩
  | at_, [], h, i + 1 => ⟨0, trivial, by simp⟩
  | at_, (b, e, c) :: rs, h, i + 1 => by
    obtain ⟨a2, h1, h2⟩ := Rows.drop h.2.2.2.2 i
    refine ⟨a2, h1, ?_⟩
    cases i with
    | zero => simpa using h2
    | succ i => simpa using h2
end
section
end
end CL
namespace CL
open PySem L2
section
variable {st : Store} {ex : Str → List Da → Store → Prop} {post : Da → Store → Prop} {postF : Fl → Store → Prop} {postS : Src → Store → Prop} {a b : Sl → Mo Da} {al kl : Sl → Mo (List Da)} {ro : Sl} {cs : List Str} {f c m : Str}
@[simp] theorem wp_eFld : Wp (eFld cs f a ro) st post ex ↔ Wp (a ro) st (fun d s1 => Wp (fldD cs f d) s1 post ex) ex := by unfold eFld; simp only [wp_bnd]
@[simp] theorem wp_mFld : Wp (mFld cs f a b ro) st postF ex ↔ Wp (a ro) st (fun x s1 => Wp (b ro) s1 (fun d s2 => Wp (setFD cs f d x) s2 (fun _ s3 => postF (.nx ro) s3) ex) ex) ex := by unfold mFld; simp only [wp_bnd, wp_ret]
@[simp] theorem wp_eMeth {g : List Da → Mo Da} : Wp (eMeth c m g a al ro) st post ex ↔ Wp (a ro) st (fun d s1 => Wp (isIns c m d) s1 (fun _ s2 => Wp (al ro) s2 (fun ds s3 => Wp (g (d :: ds)) s3 post ex) ex) ex) ex := by unfold eMeth; simp only [wp_bnd]
@[simp] theorem wp_eMake {g : List Da → Mo Da} : Wp (eMake c g al ro) st post ex ↔ Wp (al ro) st (fun ds s1 => Wp (makeD c g ds) s1 post ex) ex := by unfold eMake; simp only [wp_bnd]
@[simp] theorem wp_isNon {post : Unit → Store → Prop} : Wp (isNon .non) st post ex ↔ post () st := Iff.rfl
@[simp] theorem wp_iR3 : Wp (iR3 al ro) st postS ex ↔ Wp (al ro) st (fun d s1 => Wp (srcR3 d) s1 postS ex) ex := by unfold iR3; rw [wp_bnd]
@[simp] theorem wp_srcR3 {i j c : Int} : Wp (srcR3 [.int i, .int j, .int c]) st postS ex ↔ if rgOk i j c then postS ⟨rngC i c (rgN i j c), none⟩ st else False := by unfold srcR3; simp only [wp_ite, wp_ret, wp_nop]
end
theorem char_inj {a b : Char} (h : a.toNat = b.toNat) : a = b := by
  apply Char.ext
  apply UInt32.toNat_inj.mp
  exact h
@[simp] theorem str_inj {a b : String} : Str.ofString a = Str.ofString b ↔ a = b := by
  refine ⟨fun h => ?_, fun h => by rw [h]⟩
  rw [Str.ofString_eq_toList, Str.ofString_eq_toList] at h
  have h1 : a.toList.map Char.toNat = b.toList.map Char.toNat := by
    have := congrArg (fun s => s.cps.toList) h
    simpa using this
  have h2 : a.toList = b.toList := by
    have : ∀ x y : List Char, x.map Char.toNat = y.map Char.toNat → x = y := by
      intro x
      induction x with
      | nil => intro y e; cases y with
        | nil => rfl
        | cons c r => simp at e
      | cons c r ih => intro y e; cases y with
        | nil => simp at e
        | cons d s => simp at e; rw [char_inj e.1, ih s e.2]
    exact this _ _ h1
  exact String.toList_inj.mp h2
@[simp] theorem str_beq {a b : String} : (Str.ofString a == Str.ofString b) = (a == b) := by
  by_cases h : a = b
  · subst h; simp
  · rw [beq_eq_false_iff_ne.mpr h, beq_eq_false_iff_ne.mpr fun z => h (str_inj.mp z)]
theorem beqD_refl_all : (∀ d : Da, beqD d d = true) ∧ ∀ ds : List Da, beqL ds ds = true := by
  have h : ∀ n, (∀ d : Da, sizeOf d < n → beqD d d = true) ∧ ∀ ds : List Da, sizeOf ds < n → beqL ds ds = true := by
    intro n
    induction n with
    | zero => exact ⟨fun d h => by omega, fun d h => by omega⟩
    | succ n ih =>
      refine ⟨fun d h => ?_, fun ds h => ?_⟩
      · cases d with
        | non => rfl
        | bl b => simp [beqD]
        | int i => simp [beqD]
        | str s => simp [beqD]
        | tup xs => unfold beqD; exact ih.2 xs (by simp at h; omega)
        | lst xs => unfold beqD; exact ih.2 xs (by simp at h; omega)
        | fro xs => unfold beqD; exact ih.2 xs (by simp at h; omega)
        | han n => simp [beqD]
      · cases ds with
        | nil => rfl
        | cons x r =>
          unfold beqL
          rw [ih.1 x (by simp at h; omega), ih.2 r (by simp at h; omega)]
          rfl
  exact ⟨fun d => (h (sizeOf d + 1)).1 d (by omega), fun ds => (h (sizeOf ds + 1)).2 ds (by omega)⟩
theorem beqL_refl (ds : List Da) : beqL ds ds = true := beqD_refl_all.2 ds
theorem chk_han {st : Store} {n : Nat} {xs : List Da} (h : st[n]? = some (.lst xs)) : chk (some n) xs st = true := by
  unfold chk; dsimp only; rw [h]; exact beqL_refl xs
section
variable {ex : Str → List Da → Store → Prop} {postF : Fl → Store → Prop}
theorem wp_forGoH {n : Nat} {all : List Da} {t : Tg} {body : Sl → Mo Fl} (I : Nat → Sl → Store → Prop) {xs : List Da} (hk : ∀ i ro st, I i ro st → st[n]? = some (.lst all)) (hs : ∀ (i : Nat) (x : Da) (ro : Sl) (st : Store), xs[i]? = some x → I i ro st → ∃ ro1, t x ro = some ro1 ∧ Wp (body ro1) st (loopP (I (i + 1)) postF) ex)
    (hd : ∀ ro st, I xs.length ro st → postF (.nx ro) st) : ∀ (k : Nat) (ro : Sl) (st : Store), k ≤ xs.length → I k ro st → Wp (forGo (some n) all t body (xs.drop k) ro) st postF ex := by
  intro k
  induction hn : xs.length - k generalizing k with
  | zero =>
    intro ro st hle h
    have e : k = xs.length := by omega
    subst e
    rw [List.drop_length]
    have hc := chk_han (hk _ _ _ h)
    show Wp (fun st => if chk (some n) all st = true then .ok (.nx ro) st else .bad) st postF ex
    unfold Wp
    dsimp only
    rw [if_pos hc]
    exact hd ro st h
  | succ m ih =>
    intro ro st hle h
    have hlt : k < xs.length := by omega
    rw [List.drop_eq_getElem_cons hlt]
    have hc := chk_han (hk _ _ _ h)
    obtain ⟨ro1, h1, h2⟩ := hs k _ ro st (List.getElem?_eq_getElem hlt) h
    have e : Wp (forGo (some n) all t body (xs[k] :: xs.drop (k + 1)) ro) st postF ex ↔ Wp (bnd (body ro1) (loopK (forGo (some n) all t body (xs.drop (k + 1))))) st postF ex := by
      show Wp (fun st => if chk (some n) all st = true then (match t xs[k] ro with | some ro1 => bnd (body ro1) (loopK (forGo (some n) all t body (xs.drop (k + 1)))) st | none => .bad) else .bad) st postF ex ↔ _
      unfold Wp
      dsimp only
      rw [if_pos hc, h1]
    rw [e, wp_bnd]
    refine h2.mono fun f st' hf => wp_loopK ?_
    cases f with
    | nx ro' => exact ih (k + 1) (by omega) ro' st' hlt hf
    | ct ro' => exact ih (k + 1) (by omega) ro' st' hlt hf
    | bk ro' => exact hf
    | rt d => exact hf
/-- a for over a thing that stands still -/
theorem wp_forIh {n : Nat} {t : Tg} {body : Sl → Mo Fl} {xs : List Da} {ro : Sl} {st : Store} (I : Nat → Sl → Store → Prop) (h0 : I 0 ro st) (hk : ∀ i ro st, I i ro st → st[n]? = some (.lst xs))
    (hs : ∀ (i : Nat) (x : Da) (ro : Sl) (st : Store), xs[i]? = some x → I i ro st → ∃ ro1, t x ro = some ro1 ∧ Wp (body ro1) st (loopP (I (i + 1)) postF) ex)
    (hd : ∀ ro st, I xs.length ro st → postF (.nx ro) st) : Wp (forGo (some n) xs t body xs ro) st postF ex := wp_forGoH I hk hs hd 0 ro st (Nat.zero_le _) h0
theorem wp_srcV_h {n : Nat} {xs : List Da} {st : Store} {postS : Src → Store → Prop} (h : st[n]? = some (.lst xs)) : Wp (srcV (.han n)) st postS ex ↔ postS ⟨xs, some n⟩ st := by
  unfold Wp srcV; dsimp only; rw [h]
end
end CL
namespace CL
open PySem L2
structure Wq {A : Type} (m : Mo A) (st : Store) (post : A → Store → Prop) (ex : Str → List Da → Store → Prop) : Prop where
  p : Wp m st post ex
def kb {A B : Type} (f : A → Mo B) (post : B → Store → Prop) (ex : Str → List Da → Store → Prop) (a : A) (st : Store) : Prop := Wq (f a) st post ex
section
variable {A B : Type} {st : Store} {ex : Str → List Da → Store → Prop}
theorem wq_iff {m : Mo A} {post : A → Store → Prop} : Wq m st post ex ↔ Wp m st post ex := ⟨fun h => h.p, fun h => ⟨h⟩⟩
@[simp] theorem kb_app {f : A → Mo B} {post : B → Store → Prop} {a : A} : kb f post ex a st ↔ Wq (f a) st post ex := Iff.rfl
@[simp] theorem wq_bnd {m : Mo A} {f : A → Mo B} {post : B → Store → Prop} : Wq (bnd m f) st post ex ↔ Wq m st (kb f post ex) ex := by
  rw [wq_iff, wq_iff, wp_bnd]
  exact Wp.congr fun a s => wq_iff.symm
@[simp] theorem wq_ret {a : A} {post : A → Store → Prop} : Wq (ret a) st post ex ↔ post a st := wq_iff
@[simp] theorem wq_nop {post : A → Store → Prop} : Wq (nop : Mo A) st post ex ↔ False := wq_iff
@[simp] theorem wq_noX {m : Mo A} {post : A → Store → Prop} : Wq (noX m) st post ex ↔ Wq m st post noEx := wq_iff.trans (wp_noX.trans wq_iff.symm)
theorem Wq.mono {m : Mo A} {post post' : A → Store → Prop} (h : Wq m st post ex) (hp : ∀ a st', post a st' → post' a st') : Wq m st post' ex := ⟨Wp.mono h.p hp⟩
theorem Wp.q {m : Mo A} {post : A → Store → Prop} (h : Wp m st post ex) : Wq m st post ex := ⟨h⟩
/-- a spec in the old word, taken at a step -/
theorem Wp.go {m : Mo A} {post post' : A → Store → Prop} (h : Wp m st post noEx) (hp : ∀ a st', post a st' → post' a st') : Wq m st post' ex := ⟨Wp.ofNo h hp⟩
theorem Wq.go {m : Mo A} {post post' : A → Store → Prop} (h : Wq m st post noEx) (hp : ∀ a st', post a st' → post' a st') : Wq m st post' ex := ⟨Wp.ofNo h.p hp⟩
theorem Wq.of {m : Mo A} {post : A → Store → Prop} {a : A} {st' : Store} (h : m st = .ok a st') (hp : post a st') : Wq m st post ex := ⟨Wp.of h hp⟩
@[simp] theorem wq_ar {n : Nat} {f : List Da → Mo A} {ds : List Da} {post : A → Store → Prop} (h : ds.length = n) : Wq (ar n f ds) st post ex ↔ Wq (f ds) st post ex := by
  unfold ar; rw [if_pos h]
@[simp] theorem wq_one {f : Da → Mo A} {d : Da} {post : A → Store → Prop} : Wq (one f [d]) st post ex ↔ Wq (f d) st post ex := wq_iff.trans (wq_iff (m := f d)).symm
@[simp] theorem wq_two {f : Da → Da → Mo A} {d e : Da} {post : A → Store → Prop} : Wq (two f [d, e]) st post ex ↔ Wq (f d e) st post ex := wq_iff.trans (wq_iff (m := f d e)).symm
variable {a b c v o i' : Sl → Mo Da} {p q : Sl → Mo Bool} {al kl : Sl → Mo (List Da)} {ro : Sl} {post : Da → Store → Prop} {postB : Bool → Store → Prop} {postL : List Da → Store → Prop} {postF : Fl → Store → Prop} {postS : Src → Store → Prop} {postU : Unit → Store → Prop} {m n : Sl → Mo Fl}
theorem wq_var {i : Nat} {d : Da} (h : ro[i]? = some (some d)) : Wq (eVar i ro) st post ex ↔ post d st := wq_iff.trans (wp_var h)
@[simp] theorem wq_var0 {d : Da} {r : Sl} : Wq (eVar 0 (some d :: r)) st post ex ↔ post d st := wq_iff
@[simp] theorem wq_varS {i : Nat} {o : Option Da} {r : Sl} : Wq (eVar (i + 1) (o :: r)) st post ex ↔ Wq (eVar i r) st post ex := wq_iff.trans (wq_iff (m := eVar i r)).symm
@[simp] theorem wq_var1 {o0 : Option Da} {d : Da} {r : Sl} : Wq (eVar 1 (o0 :: some d :: r)) st post ex ↔ post d st := wq_iff
@[simp] theorem wq_var2 {o0 o1 : Option Da} {d : Da} {r : Sl} : Wq (eVar 2 (o0 :: o1 :: some d :: r)) st post ex ↔ post d st := wq_iff
@[simp] theorem wq_var3 {o0 o1 o2 : Option Da} {d : Da} {r : Sl} : Wq (eVar 3 (o0 :: o1 :: o2 :: some d :: r)) st post ex ↔ post d st := wq_iff
@[simp] theorem wq_var4 {o0 o1 o2 o3 : Option Da} {d : Da} {r : Sl} : Wq (eVar 4 (o0 :: o1 :: o2 :: o3 :: some d :: r)) st post ex ↔ post d st := wq_iff
@[simp] theorem wq_var5 {o0 o1 o2 o3 o4 : Option Da} {d : Da} {r : Sl} : Wq (eVar 5 (o0 :: o1 :: o2 :: o3 :: o4 :: some d :: r)) st post ex ↔ post d st := wq_iff
@[simp] theorem wq_var6 {o0 o1 o2 o3 o4 o5 : Option Da} {d : Da} {r : Sl} : Wq (eVar 6 (o0 :: o1 :: o2 :: o3 :: o4 :: o5 :: some d :: r)) st post ex ↔ post d st := wq_iff
@[simp] theorem wq_var7 {o0 o1 o2 o3 o4 o5 o6 : Option Da} {d : Da} {r : Sl} : Wq (eVar 7 (o0 :: o1 :: o2 :: o3 :: o4 :: o5 :: o6 :: some d :: r)) st post ex ↔ post d st := wq_iff
@[simp] theorem wq_var8 {o0 o1 o2 o3 o4 o5 o6 o7 : Option Da} {d : Da} {r : Sl} : Wq (eVar 8 (o0 :: o1 :: o2 :: o3 :: o4 :: o5 :: o6 :: o7 :: some d :: r)) st post ex ↔ post d st := wq_iff
@[simp] theorem wq_var9 {o0 o1 o2 o3 o4 o5 o6 o7 o8 : Option Da} {d : Da} {r : Sl} : Wq (eVar 9 (o0 :: o1 :: o2 :: o3 :: o4 :: o5 :: o6 :: o7 :: o8 :: some d :: r)) st post ex ↔ post d st := wq_iff
@[simp] theorem wq_var10 {o0 o1 o2 o3 o4 o5 o6 o7 o8 o9 : Option Da} {d : Da} {r : Sl} : Wq (eVar 10 (o0 :: o1 :: o2 :: o3 :: o4 :: o5 :: o6 :: o7 :: o8 :: o9 :: some d :: r)) st post ex ↔ post d st := wq_iff
@[simp] theorem wq_var11 {o0 o1 o2 o3 o4 o5 o6 o7 o8 o9 o10 : Option Da} {d : Da} {r : Sl} : Wq (eVar 11 (o0 :: o1 :: o2 :: o3 :: o4 :: o5 :: o6 :: o7 :: o8 :: o9 :: o10 :: some d :: r)) st post ex ↔ post d st := wq_iff
@[simp] theorem wq_var12 {o0 o1 o2 o3 o4 o5 o6 o7 o8 o9 o10 o11 : Option Da} {d : Da} {r : Sl} : Wq (eVar 12 (o0 :: o1 :: o2 :: o3 :: o4 :: o5 :: o6 :: o7 :: o8 :: o9 :: o10 :: o11 :: some d :: r)) st post ex ↔ post d st := wq_iff
@[simp] theorem wq_var13 {o0 o1 o2 o3 o4 o5 o6 o7 o8 o9 o10 o11 o12 : Option Da} {d : Da} {r : Sl} : Wq (eVar 13 (o0 :: o1 :: o2 :: o3 :: o4 :: o5 :: o6 :: o7 :: o8 :: o9 :: o10 :: o11 :: o12 :: some d :: r)) st post ex ↔ post d st := wq_iff
@[simp] theorem wq_var14 {o0 o1 o2 o3 o4 o5 o6 o7 o8 o9 o10 o11 o12 o13 : Option Da} {d : Da} {r : Sl} : Wq (eVar 14 (o0 :: o1 :: o2 :: o3 :: o4 :: o5 :: o6 :: o7 :: o8 :: o9 :: o10 :: o11 :: o12 :: o13 :: some d :: r)) st post ex ↔ post d st := wq_iff
@[simp] theorem wq_var15 {o0 o1 o2 o3 o4 o5 o6 o7 o8 o9 o10 o11 o12 o13 o14 : Option Da} {d : Da} {r : Sl} : Wq (eVar 15 (o0 :: o1 :: o2 :: o3 :: o4 :: o5 :: o6 :: o7 :: o8 :: o9 :: o10 :: o11 :: o12 :: o13 :: o14 :: some d :: r)) st post ex ↔ post d st := wq_iff
@[simp] theorem wq_var16 {o0 o1 o2 o3 o4 o5 o6 o7 o8 o9 o10 o11 o12 o13 o14 o15 : Option Da} {d : Da} {r : Sl} : Wq (eVar 16 (o0 :: o1 :: o2 :: o3 :: o4 :: o5 :: o6 :: o7 :: o8 :: o9 :: o10 :: o11 :: o12 :: o13 :: o14 :: o15 :: some d :: r)) st post ex ↔ post d st := wq_iff
@[simp] theorem wq_var17 {o0 o1 o2 o3 o4 o5 o6 o7 o8 o9 o10 o11 o12 o13 o14 o15 o16 : Option Da} {d : Da} {r : Sl} : Wq (eVar 17 (o0 :: o1 :: o2 :: o3 :: o4 :: o5 :: o6 :: o7 :: o8 :: o9 :: o10 :: o11 :: o12 :: o13 :: o14 :: o15 :: o16 :: some d :: r)) st post ex ↔ post d st := wq_iff
@[simp] theorem wq_var18 {o0 o1 o2 o3 o4 o5 o6 o7 o8 o9 o10 o11 o12 o13 o14 o15 o16 o17 : Option Da} {d : Da} {r : Sl} : Wq (eVar 18 (o0 :: o1 :: o2 :: o3 :: o4 :: o5 :: o6 :: o7 :: o8 :: o9 :: o10 :: o11 :: o12 :: o13 :: o14 :: o15 :: o16 :: o17 :: some d :: r)) st post ex ↔ post d st := wq_iff
@[simp] theorem wq_var19 {o0 o1 o2 o3 o4 o5 o6 o7 o8 o9 o10 o11 o12 o13 o14 o15 o16 o17 o18 : Option Da} {d : Da} {r : Sl} : Wq (eVar 19 (o0 :: o1 :: o2 :: o3 :: o4 :: o5 :: o6 :: o7 :: o8 :: o9 :: o10 :: o11 :: o12 :: o13 :: o14 :: o15 :: o16 :: o17 :: o18 :: some d :: r)) st post ex ↔ post d st := wq_iff
@[simp] theorem wq_var20 {o0 o1 o2 o3 o4 o5 o6 o7 o8 o9 o10 o11 o12 o13 o14 o15 o16 o17 o18 o19 : Option Da} {d : Da} {r : Sl} : Wq (eVar 20 (o0 :: o1 :: o2 :: o3 :: o4 :: o5 :: o6 :: o7 :: o8 :: o9 :: o10 :: o11 :: o12 :: o13 :: o14 :: o15 :: o16 :: o17 :: o18 :: o19 :: some d :: r)) st post ex ↔ post d st := wq_iff
@[simp] theorem wq_var21 {o0 o1 o2 o3 o4 o5 o6 o7 o8 o9 o10 o11 o12 o13 o14 o15 o16 o17 o18 o19 o20 : Option Da} {d : Da} {r : Sl} : Wq (eVar 21 (o0 :: o1 :: o2 :: o3 :: o4 :: o5 :: o6 :: o7 :: o8 :: o9 :: o10 :: o11 :: o12 :: o13 :: o14 :: o15 :: o16 :: o17 :: o18 :: o19 :: o20 :: some d :: r)) st post ex ↔ post d st := wq_iff
@[simp] theorem wq_var22 {o0 o1 o2 o3 o4 o5 o6 o7 o8 o9 o10 o11 o12 o13 o14 o15 o16 o17 o18 o19 o20 o21 : Option Da} {d : Da} {r : Sl} : Wq (eVar 22 (o0 :: o1 :: o2 :: o3 :: o4 :: o5 :: o6 :: o7 :: o8 :: o9 :: o10 :: o11 :: o12 :: o13 :: o14 :: o15 :: o16 :: o17 :: o18 :: o19 :: o20 :: o21 :: some d :: r)) st post ex ↔ post d st := wq_iff
@[simp] theorem wq_var23 {o0 o1 o2 o3 o4 o5 o6 o7 o8 o9 o10 o11 o12 o13 o14 o15 o16 o17 o18 o19 o20 o21 o22 : Option Da} {d : Da} {r : Sl} : Wq (eVar 23 (o0 :: o1 :: o2 :: o3 :: o4 :: o5 :: o6 :: o7 :: o8 :: o9 :: o10 :: o11 :: o12 :: o13 :: o14 :: o15 :: o16 :: o17 :: o18 :: o19 :: o20 :: o21 :: o22 :: some d :: r)) st post ex ↔ post d st := wq_iff
@[simp] theorem wq_var24 {o0 o1 o2 o3 o4 o5 o6 o7 o8 o9 o10 o11 o12 o13 o14 o15 o16 o17 o18 o19 o20 o21 o22 o23 : Option Da} {d : Da} {r : Sl} : Wq (eVar 24 (o0 :: o1 :: o2 :: o3 :: o4 :: o5 :: o6 :: o7 :: o8 :: o9 :: o10 :: o11 :: o12 :: o13 :: o14 :: o15 :: o16 :: o17 :: o18 :: o19 :: o20 :: o21 :: o22 :: o23 :: some d :: r)) st post ex ↔ post d st := wq_iff
@[simp] theorem wq_var25 {o0 o1 o2 o3 o4 o5 o6 o7 o8 o9 o10 o11 o12 o13 o14 o15 o16 o17 o18 o19 o20 o21 o22 o23 o24 : Option Da} {d : Da} {r : Sl} : Wq (eVar 25 (o0 :: o1 :: o2 :: o3 :: o4 :: o5 :: o6 :: o7 :: o8 :: o9 :: o10 :: o11 :: o12 :: o13 :: o14 :: o15 :: o16 :: o17 :: o18 :: o19 :: o20 :: o21 :: o22 :: o23 :: o24 :: some d :: r)) st post ex ↔ post d st := wq_iff
@[simp] theorem wq_c {d : Da} : Wq (eC d ro) st post ex ↔ Wq (ret d) st post ex := wq_iff.trans (wq_iff (m := (ret d))).symm
@[simp] theorem wq_e2 {f : Da → Da → Mo Da} : Wq (e2 f a b ro) st post ex ↔ Wq (a ro) st (kb (fun x => bnd (b ro) fun y => f x y) post ex) ex := wq_bnd
@[simp] theorem wq_e1 {f : Da → Mo Da} : Wq (e1 f a ro) st post ex ↔ Wq (a ro) st (kb f post ex) ex := wq_bnd
@[simp] theorem wq_tst  : Wq (tst a ro) st postB ex ↔ Wq (a ro) st (kb toB postB ex) ex := wq_bnd
@[simp] theorem wq_and  : Wq (tAnd_ p q ro) st postB ex ↔ Wq (p ro) st (kb (fun c => if c = true then q ro else ret false) postB ex) ex := wq_bnd
@[simp] theorem wq_or  : Wq (tOr_ p q ro) st postB ex ↔ Wq (p ro) st (kb (fun c => if c = true then ret true else q ro) postB ex) ex := wq_bnd
@[simp] theorem wq_not  : Wq (tNot_ p ro) st postB ex ↔ Wq (p ro) st (kb (fun c => ret (!c)) postB ex) ex := wq_bnd
@[simp] theorem wq_vAnd  : Wq (vAnd a b ro) st post ex ↔ Wq (tst a ro) st (kb (fun c => if c = true then b ro else ret (.bl false)) post ex) ex := wq_bnd
@[simp] theorem wq_vOr  : Wq (vOr a b ro) st post ex ↔ Wq (tst a ro) st (kb (fun c => if c = true then ret (.bl true) else b ro) post ex) ex := wq_bnd
@[simp] theorem wq_vNot  : Wq (vNot a ro) st post ex ↔ Wq (tst a ro) st (kb (fun c => ret (.bl (!c))) post ex) ex := wq_bnd
@[simp] theorem wq_eIf  : Wq (eIf p a b ro) st post ex ↔ Wq (p ro) st (kb (fun c => if c = true then a ro else b ro) post ex) ex := wq_bnd
@[simp] theorem wq_aNil  : Wq (aNil ro) st postL ex ↔ Wq (ret []) st postL ex := wq_iff.trans (wq_iff (m := (ret []))).symm
@[simp] theorem wq_aCons  : Wq (aCons a al ro) st postL ex ↔ Wq (a ro) st (kb (fun x => bnd (al ro) fun xs => ret (x :: xs)) postL ex) ex := wq_bnd
@[simp] theorem wq_eTup  : Wq (eTup al ro) st post ex ↔ Wq (al ro) st (kb (fun xs => if xs.length ≤ 1000 then ret (.tup xs) else nop) post ex) ex := wq_bnd
@[simp] theorem wq_lDisp  : Wq (lDisp al ro) st postL ex ↔ Wq (al ro) st (kb (fun xs => if xs.length ≤ 1000 then ret xs else nop) postL ex) ex := wq_bnd
@[simp] theorem wq_eL  : Wq (eL al ro) st post ex ↔ Wq (al ro) st (kb (fun xs => ret (.lst xs)) post ex) ex := wq_bnd
@[simp] theorem wq_eF  : Wq (eF a ro) st post ex ↔ Wq (a ro) st (kb fz post ex) ex := wq_bnd
@[simp] theorem wq_eCall {f : List Da → Mo Da} : Wq (eCall f al ro) st post ex ↔ Wq (al ro) st (kb f post ex) ex := wq_bnd
@[simp] theorem wq_lCall {f : List Da → Mo (List Da)} : Wq (lCall f al ro) st postL ex ↔ Wq (al ro) st (kb f postL ex) ex := wq_bnd
@[simp] theorem wq_l2 {f : Da → Da → Mo (List Da)} : Wq (l2 f a b ro) st postL ex ↔ Wq (a ro) st (kb (fun x => bnd (b ro) fun y => f x y) postL ex) ex := wq_bnd
@[simp] theorem wq_chain {f g : Da → Da → Mo Da} : Wq (eChain f g a b c ro) st post ex ↔ Wq (a ro) st (kb (fun x => bnd (b ro) fun y => bnd (bnd (f x y) toB) fun k => if k = true then bnd (c ro) fun z => g y z else ret (.bl false)) post ex) ex := wq_bnd
@[simp] theorem wq_eApp  : Wq (eApp a b ro) st post ex ↔ Wq (a ro) st (kb (fun d => bnd (isLs d) fun _ => bnd (b ro) fun x => appD d x) post ex) ex := wq_bnd
@[simp] theorem wq_ePop  : Wq (ePop a ro) st post ex ↔ Wq (a ro) st (kb (fun d => bnd (isLs d) fun _ => popD d) post ex) ex := wq_bnd
@[simp] theorem wq_ePopAt  : Wq (ePopAt a b ro) st post ex ↔ Wq (a ro) st (kb (fun d => bnd (isLs d) fun _ => bnd (b ro) fun x => popAtD d x) post ex) ex := wq_bnd
@[simp] theorem wq_eIndex  : Wq (eIndex a b ro) st post ex ↔ Wq (a ro) st (kb (fun d => bnd (isLs d) fun _ => bnd (b ro) fun x => indexD d x) post ex) ex := wq_bnd
@[simp] theorem wq_mNil  : Wq (mNil ro) st postF ex ↔ Wq (ret (Fl.nx ro)) st postF ex := wq_iff.trans (wq_iff (m := (ret (Fl.nx ro)))).symm
@[simp] theorem wq_mSet {i : Nat} : Wq (mSet i a ro) st postF ex ↔ Wq (a ro) st (kb (fun d => ret (Fl.nx (ro.set i (some d)))) postF ex) ex := wq_bnd
@[simp] theorem wq_mRet  : Wq (mRet a ro) st postF ex ↔ Wq (a ro) st (kb (fun d => ret (Fl.rt d)) postF ex) ex := wq_bnd
@[simp] theorem wq_mRetN  : Wq (mRetN ro) st postF ex ↔ Wq (ret (Fl.rt .non)) st postF ex := wq_iff.trans (wq_iff (m := (ret (Fl.rt .non)))).symm
@[simp] theorem wq_mExpr  : Wq (mExpr a ro) st postF ex ↔ Wq (a ro) st (kb (fun _ => ret (Fl.nx ro)) postF ex) ex := wq_bnd
@[simp] theorem wq_mIf  : Wq (mIf p m n ro) st postF ex ↔ Wq (p ro) st (kb (fun c => if c = true then m ro else n ro) postF ex) ex := wq_bnd
@[simp] theorem wq_mBrk  : Wq (mBrk ro) st postF ex ↔ Wq (ret (Fl.bk ro)) st postF ex := wq_iff.trans (wq_iff (m := (ret (Fl.bk ro)))).symm
@[simp] theorem wq_mCnt  : Wq (mCnt ro) st postF ex ↔ Wq (ret (Fl.ct ro)) st postF ex := wq_iff.trans (wq_iff (m := (ret (Fl.ct ro)))).symm
@[simp] theorem wq_mNever  : Wq (mNever ro) st postF ex ↔ Wq (nop) st postF ex := wq_iff.trans (wq_iff (m := (nop))).symm
@[simp] theorem wq_mSetI  : Wq (mSetI v o i' ro) st postF ex ↔ Wq (v ro) st (kb (fun x => bnd (o ro) fun d => bnd (i' ro) fun k => bnd (setD d k x) fun _ => ret (Fl.nx ro)) postF ex) ex := wq_bnd
@[simp] theorem wq_mFor {s : Sl → Mo Src} {t : Tg} : Wq (mFor s t m ro) st postF ex ↔ Wq (s ro) st (kb (fun s => forGo s.o s.xs t m s.xs ro) postF ex) ex := wq_bnd
@[simp] theorem wq_fnM {k : Nat} {ds : List Da} : Wq (fnM k m ds) st post ex ↔ Wq (m (startS k ds)) st (kb fnE post ex) ex := wq_bnd
@[simp] theorem wq_lComp {s : Sl → Mo Src} {t : Tg} {vs : List Nat} : Wq (lComp s t p a vs ro) st postL ex ↔ Wq (s ro) st (kb (fun s => compGo s.o s.xs t p a (wipeS ro vs) s.xs []) postL ex) ex := wq_bnd
@[simp] theorem wq_iV  : Wq (iV a ro) st postS ex ↔ Wq (a ro) st (kb srcV postS ex) ex := wq_bnd
@[simp] theorem wq_iR1  : Wq (iR1 al ro) st postS ex ↔ Wq (al ro) st (kb srcR1 postS ex) ex := wq_bnd
@[simp] theorem wq_iR2  : Wq (iR2 al ro) st postS ex ↔ Wq (al ro) st (kb srcR2 postS ex) ex := wq_bnd
@[simp] theorem wq_iR3  : Wq (iR3 al ro) st postS ex ↔ Wq (al ro) st (kb srcR3 postS ex) ex := wq_bnd
@[simp] theorem wq_yes  : Wq (tYes_ ro) st postB ex ↔ Wq (ret true) st postB ex := wq_iff.trans (wq_iff (m := (ret true))).symm
@[simp] theorem wq_eFld {cs : List Str} {f : Str} : Wq (eFld cs f a ro) st post ex ↔ Wq (a ro) st (kb (fldD cs f) post ex) ex := wq_bnd
@[simp] theorem wq_mFld {cs : List Str} {f : Str} : Wq (mFld cs f v o ro) st postF ex ↔ Wq (v ro) st (kb (fun x => bnd (o ro) fun d => bnd (setFD cs f d x) fun _ => ret (Fl.nx ro)) postF ex) ex := wq_bnd
@[simp] theorem wq_eMeth {c m : Str} {f : List Da → Mo Da} : Wq (eMeth c m f a al ro) st post ex ↔ Wq (a ro) st (kb (fun d => bnd (isIns c m d) fun _ => bnd (al ro) fun ds => f (d :: ds)) post ex) ex := wq_bnd
@[simp] theorem wq_eMake {c : Str} {f : List Da → Mo Da} : Wq (eMake c f al ro) st post ex ↔ Wq (al ro) st (kb (makeD c f) post ex) ex := wq_bnd
@[simp] theorem wq_eH : Wq (eH al ro) st post ex ↔ Wq (al ro) st (kb (fun xs st => .ok (.han st.length) (st ++ [.lst xs])) post ex) ex := wq_bnd
@[simp] theorem wq_okf {f : Store → A} {g : Store → Store} {post : A → Store → Prop} : Wq (fun st => Res.ok (f st) (g st)) st post ex ↔ post (f st) (g st) := wq_iff
@[simp] theorem wq_mSeq : Wq (mSeq m n ro) st postF ex ↔ Wq (m ro) st (kb (fun f => match f with | .nx ro' => n ro' | f => ret f) postF ex) ex := wq_bnd
theorem Wq.seq (Q : Fl → Store → Prop) (h1 : Wq (m ro) st Q ex) (h2 : ∀ f st', Q f st' → kb (fun f => match f with | .nx ro' => n ro' | f => ret f) postF ex f st') : Wq (mSeq m n ro) st postF ex := wq_mSeq.mpr (h1.mono h2)
@[simp] theorem wq_mTgt {t : Tg} : Wq (mTgt t a ro) st postF ex ↔ Wq (a ro) st (kb (fun d => match t d ro with | some ro' => ret (Fl.nx ro') | none => nop) postF ex) ex := wq_bnd
@[simp] theorem wq_mPar {i j : Nat} : Wq (mPar i j al ro) st postF ex ↔ Wq (al ro) st (kb (fun ds => match ds with | [d, e] => ret (Fl.nx ((ro.set i (some d)).set j (some e))) | _ => nop) postF ex) ex := wq_bnd
@[simp] theorem wq_mAug {i : Nat} {f : Int → Int → Int} : Wq (mAug i f a ro) st postF ex ↔ Wq (eVar i ro) st (kb (fun x => bnd (a ro) fun y => match x, y with | .int p, .int q => ret (Fl.nx (ro.set i (some (.int (f p q))))) | _, _ => nop) postF ex) ex := wq_bnd
@[simp] theorem wq_toB {k : Bool} : Wq (toB (.bl k)) st postB ex ↔ postB k st := wq_iff
@[simp] theorem fnE_nx {ro : Sl} : fnE (.nx ro) = ret .non := rfl
@[simp] theorem fnE_rt {d : Da} : fnE (.rt d) = ret d := rfl
theorem wq_fz {n : Nat} {ds : List Da} (h : st[n]? = some (.lst ds)) : Wq (fz (.han n)) st post ex ↔ post (.lst ds) (st.set n .dead) := wq_iff.trans (wp_fz h)
@[simp] theorem wq_noP {postP : Option Int → Store → Prop} : Wq (noP ro) st postP ex ↔ postP none st := wq_iff
@[simp] theorem wq_soP {postP : Option Int → Store → Prop} : Wq (soP a ro) st postP ex ↔ Wq (a ro) st (kb (fun d => match d with | .int i => ret (some i) | _ => nop) postP ex) ex := wq_bnd
@[simp] theorem wq_eSl {f : Da → Option Int → Option Int → Mo Da} {lo hi : Sl → Mo (Option Int)} : Wq (eSl f a lo hi ro) st post ex ↔ Wq (a ro) st (kb (fun d => bnd (lo ro) fun l => bnd (hi ro) fun h => f d l h) post ex) ex := wq_bnd
@[simp] theorem wq_lSl {lo hi : Sl → Mo (Option Int)} : Wq (lSl a lo hi ro) st postL ex ↔ Wq (a ro) st (kb (fun d => bnd (lo ro) fun l => bnd (hi ro) fun h => slL d l h) postL ex) ex := wq_bnd
@[simp] theorem wq_add_i {i j : Int} : Wq (addD (.int i) (.int j)) st post ex ↔ post (.int (i + j)) st := wq_iff
@[simp] theorem wq_sub_i {i j : Int} : Wq (subD (.int i) (.int j)) st post ex ↔ post (.int (i - j)) st := wq_iff
@[simp] theorem wq_lt_i {i j : Int} : Wq (ltD (.int i) (.int j)) st post ex ↔ post (.bl (decide (i < j))) st := wq_iff
@[simp] theorem wq_le_i {i j : Int} : Wq (leD (.int i) (.int j)) st post ex ↔ post (.bl (decide (i ≤ j))) st := wq_iff
@[simp] theorem wq_gt_i {i j : Int} : Wq (gtD (.int i) (.int j)) st post ex ↔ post (.bl (decide (j < i))) st := wq_iff
@[simp] theorem wq_ge_i {i j : Int} : Wq (geD (.int i) (.int j)) st post ex ↔ post (.bl (decide (j ≤ i))) st := wq_iff
@[simp] theorem wq_neg_i {i : Int} : Wq (negD (.int i)) st post ex ↔ post (.int (-i)) st := wq_iff
@[simp] theorem wq_max_i {i j : Int} : Wq (maxD (.int i) (.int j)) st post ex ↔ post (.int (if j > i then j else i)) st := wq_iff
@[simp] theorem wq_min_i {i j : Int} : Wq (minD (.int i) (.int j)) st post ex ↔ post (.int (if j < i then j else i)) st := wq_iff
@[simp] theorem wq_isT_i {t : Tn} {i : Int} : Wq (isT t (.int i)) st post ex ↔ post (.bl (isTn .int t)) st := wq_iff
@[simp] theorem wq_isT_b {t : Tn} {i : Bool} : Wq (isT t (.bl i)) st post ex ↔ post (.bl (isTn .bool t)) st := wq_iff
@[simp] theorem wq_isT_s {t : Tn} {i : Str} : Wq (isT t (.str i)) st post ex ↔ post (.bl (isTn .str t)) st := wq_iff
@[simp] theorem wq_isT_n {t : Tn} : Wq (isT t .non) st post ex ↔ post (.bl (isTn .non t)) st := wq_iff
@[simp] theorem wq_isT_t {t : Tn} {xs : List Da} : Wq (isT t (.tup xs)) st post ex ↔ post (.bl (isTn .tuple t)) st := wq_iff
@[simp] theorem wq_isT_l {t : Tn} {xs : List Da} : Wq (isT t (.lst xs)) st post ex ↔ post (.bl (isTn .list t)) st := wq_iff
@[simp] theorem wq_is_bl {b x y : Bool} : Wq (isB b (.bl x) (.bl y)) st post ex ↔ post (.bl (if b then !decide (x = y) else decide (x = y))) st := wq_iff
@[simp] theorem wq_len_l {xs : List Da} : Wq (lenD (.lst xs)) st post ex ↔ post (.int xs.length) st := wq_iff
@[simp] theorem wq_len_t {xs : List Da} : Wq (lenD (.tup xs)) st post ex ↔ post (.int xs.length) st := wq_iff
@[simp] theorem wq_list_l {xs : List Da} : Wq (listD (.lst xs)) st postL ex ↔ postL xs st := wq_iff
@[simp] theorem wq_list_t {xs : List Da} : Wq (listD (.tup xs)) st postL ex ↔ postL xs st := wq_iff
@[simp] theorem wq_list_f {xs : List Da} : Wq (listD (.fro xs)) st postL ex ↔ postL xs st := wq_iff
@[simp] theorem wq_tuple_l {xs : List Da} : Wq (tupleD (.lst xs)) st post ex ↔ post (.tup xs) st := wq_iff
@[simp] theorem wq_srcV_l {xs : List Da} : Wq (srcV (.lst xs)) st postS ex ↔ postS ⟨xs, none⟩ st := wq_iff
@[simp] theorem wq_srcV_t {xs : List Da} : Wq (srcV (.tup xs)) st postS ex ↔ postS ⟨xs, none⟩ st := wq_iff
@[simp] theorem wq_slA_t {xs : List Da} {lo hi : Option Int} : Wq (slA (.tup xs) lo hi) st post ex ↔ post (.tup (cutD xs lo hi)) st := wq_iff
@[simp] theorem wq_slA_l {xs : List Da} {lo hi : Option Int} : Wq (slA (.lst xs) lo hi) st post ex ↔ post (.lst (cutD xs lo hi)) st := wq_iff
@[simp] theorem wq_slL_l {xs : List Da} {lo hi : Option Int} : Wq (slL (.lst xs) lo hi) st postL ex ↔ postL (cutD xs lo hi) st := wq_iff
@[simp] theorem wq_isLs_l {xs : List Da} : Wq (isLs (.lst xs)) st postU ex ↔ postU () st := wq_iff
@[simp] theorem wq_isNon_n : Wq (isNon .non) st postU ex ↔ postU () st := wq_iff
@[simp] theorem wq_is_non {b : Bool}  : Wq (isB b (.non) .non) st post ex ↔ post (.bl (if b then false else true)) st := by cases b <;> exact wq_iff
@[simp] theorem wq_is_int {b : Bool} {i : Int} : Wq (isB b (.int i) .non) st post ex ↔ post (.bl b) st := by cases b <;> exact wq_iff
@[simp] theorem wq_is_tup {b : Bool} {l : List Da} : Wq (isB b (.tup l) .non) st post ex ↔ post (.bl b) st := by cases b <;> exact wq_iff
@[simp] theorem wq_is_lst {b : Bool} {l : List Da} : Wq (isB b (.lst l) .non) st post ex ↔ post (.bl b) st := by cases b <;> exact wq_iff
@[simp] theorem wq_is_str {b : Bool} {s : Str} : Wq (isB b (.str s) .non) st post ex ↔ post (.bl b) st := by cases b <;> exact wq_iff
@[simp] theorem wq_mul_i {i j : Int} (h : CMul i j) : Wq (mulD (.int i) (.int j)) st post ex ↔ post (.int (i * j)) st := by unfold mulD; dsimp only; rw [if_pos h]; exact wq_iff
@[simp] theorem wq_fdiv_i {i j : Int} (h : CDivN i j) : Wq (fdivD (.int i) (.int j)) st post ex ↔ post (.int (i.fdiv j)) st := by unfold fdivD; dsimp only; rw [if_pos h]; exact wq_iff
@[simp] theorem wq_mod_i {i j : Int} (h : j ≠ 0) : Wq (modD (.int i) (.int j)) st post ex ↔ post (.int (i.fmod j)) st := by unfold modD; dsimp only; rw [if_pos h]; exact wq_iff
@[simp] theorem wq_pow_i {i j : Int} (h : CPow i j) : Wq (powD (.int i) (.int j)) st post ex ↔ post (.int (i ^ j.toNat)) st := by unfold powD; dsimp only; rw [if_pos h]; exact wq_iff
@[simp] theorem wq_srcR1 {j : Int} (h : big j) : Wq (srcR1 [.int j]) st postS ex ↔ postS ⟨rngL 0 j.toNat, none⟩ st := by unfold srcR1; dsimp only; rw [if_pos h]; exact wq_iff
@[simp] theorem wq_srcR2 {i j : Int} (h : big i ∧ big j) : Wq (srcR2 [.int i, .int j]) st postS ex ↔ postS ⟨rngL i (j - i).toNat, none⟩ st := by unfold srcR2; dsimp only; rw [if_pos h]; exact wq_iff
@[simp] theorem wq_srcR3 {i j c : Int} (h : rgOk i j c) : Wq (srcR3 [.int i, .int j, .int c]) st postS ex ↔ postS ⟨rngC i c (rgN i j c), none⟩ st := by unfold srcR3; dsimp only; rw [if_pos h]; exact wq_iff
@[simp] theorem wq_catL_l {xs ys : List Da} (h : xs.length + ys.length ≤ 1000000) : Wq (catL (.lst xs) (.lst ys)) st postL ex ↔ postL (xs ++ ys) st := wq_iff.trans ((wp_catL_l).trans (by rw [if_pos h]))
@[simp] theorem wq_add_l {xs ys : List Da} (h : xs.length + ys.length ≤ 1000000) : Wq (addD (.tup xs) (.tup ys)) st post ex ↔ post (.tup (xs ++ ys)) st := by
  rw [wq_iff]; unfold Wp addD; dsimp only; rw [if_pos h]; exact Iff.rfl
theorem wq_isT {t u : Tn} {d : Da} (h : tyN st d = some u) : Wq (isT t d) st post ex ↔ post (.bl (isTn u t)) st := wq_iff.trans (wp_isT h)
theorem wq_isT_h {n : Nat} {xs : List Da} {t : Tn} (h : st[n]? = some (.lst xs)) : Wq (isT t (.han n)) st post ex ↔ post (.bl (isTn .list t)) st := wq_iff.trans (wp_isT (by unfold tyN; dsimp only; rw [h]))
theorem wq_ix_l {x : Da} {xs : List Da} {i : Int} (hx : atI xs i = some x) : Wq (ixD (.lst xs) (.int i)) st post ex ↔ post x st := wq_iff.trans (wp_ix_l hx)
@[simp] theorem wq_ix_t0 {x0 : Da} {r : List Da} : Wq (ixD (.tup (x0 :: r)) (.int 0)) st post ex ↔ post x0 st := wq_iff.trans (wp_ix_t0)
@[simp] theorem wq_ix_t1 {x0 x1 : Da} {r : List Da} : Wq (ixD (.tup (x0 :: x1 :: r)) (.int 1)) st post ex ↔ post x1 st := wq_iff.trans (wp_ix_t1)
@[simp] theorem wq_ix_t2 {x0 x1 x2 : Da} {r : List Da} : Wq (ixD (.tup (x0 :: x1 :: x2 :: r)) (.int 2)) st post ex ↔ post x2 st := wq_iff.trans (wp_ix_t2)
@[simp] theorem wq_ix_t3 {x0 x1 x2 x3 : Da} {r : List Da} : Wq (ixD (.tup (x0 :: x1 :: x2 :: x3 :: r)) (.int 3)) st post ex ↔ post x3 st := wq_iff.trans (wp_ix_t3)
@[simp] theorem wq_ix_l0 {x0 : Da} {r : List Da} : Wq (ixD (.lst (x0 :: r)) (.int 0)) st post ex ↔ post x0 st := wq_iff.trans (wp_ix_l0)
@[simp] theorem wq_ix_l1 {x0 x1 : Da} {r : List Da} : Wq (ixD (.lst (x0 :: x1 :: r)) (.int 1)) st post ex ↔ post x1 st := wq_iff.trans (wp_ix_l (atI_nat (j := 1) rfl))
@[simp] theorem wq_ix_l2 {x0 x1 x2 : Da} {r : List Da} : Wq (ixD (.lst (x0 :: x1 :: x2 :: r)) (.int 2)) st post ex ↔ post x2 st := wq_iff.trans (wp_ix_l (atI_nat (j := 2) rfl))
theorem wq_len_h {n : Nat} {xs : List Da} (h : st[n]? = some (.lst xs)) : Wq (lenD (.han n)) st post ex ↔ post (.int xs.length) st := wq_iff.trans (wp_len_h h)
theorem wq_list_h {n : Nat} {xs : List Da} (h : st[n]? = some (.lst xs)) : Wq (listD (.han n)) st postL ex ↔ postL xs st := wq_iff.trans (wp_list (by unfold sqOf lsOf; dsimp only; rw [h]))
@[simp] theorem wq_all1 {x : Bool} : Wq (allD (.lst [.bl x])) st post ex ↔ post (.bl x) st := wq_iff.trans (wp_all1)
@[simp] theorem wq_all2 {x y : Bool} : Wq (allD (.lst [.bl x, .bl y])) st post ex ↔ post (.bl (x && y)) st := wq_iff.trans (wp_all2)
theorem wq_isLs_h {n : Nat} {xs : List Da} (h : st[n]? = some (.lst xs)) : Wq (isLs (.han n)) st postU ex ↔ postU () st := wq_iff.trans (wp_isLs_h h)
theorem wq_appD {n : Nat} {x : Da} {xs : List Da} (h : st[n]? = some (.lst xs)) (hl : xs.length < 1000000) : Wq (appD (.han n) x) st post ex ↔ post .non (st.set n (.lst (xs ++ [x]))) := wq_iff.trans (wp_appD h hl)
@[simp] theorem wq_makeD {c : Str} {g : List Da → Mo Da} {ds : List Da} : Wq (makeD c g ds) st post ex ↔ Wq (g (.han st.length :: ds)) (st ++ [.ins c []]) (kb (fun r => bnd (isNon r) fun _ => ret (.han st.length)) post ex) ex := by
  rw [← wq_bnd]
  refine wq_iff.trans (Iff.trans ?_ (wq_iff (m := bnd (g (Da.han st.length :: ds)) fun r => bnd (isNon r) fun _ => ret (Da.han st.length))).symm)
  exact Iff.rfl
def makeK (c : Str) (g : List Da → Mo Da) (n1 k : Nat) (gD : List Da → List Da → List Da) (ds es : List Da) : Mo Da := fun st => if ds.length = n1 ∧ es.length = k then bnd (newI c) (fun _ => bnd (g (gD (.han st.length :: ds) es)) fun r => bnd (isNon r) fun _ => ret (.han st.length)) st else .bad
@[simp] theorem wq_eMakeK {c : Str} {g : List Da → Mo Da} {n1 k : Nat} {gD : List Da → List Da → List Da} : Wq (eMakeK c g n1 k gD al kl ro) st post ex ↔ Wq (al ro) st (kb (fun ds => bnd (kl ro) fun es => makeK c g n1 k gD ds es) post ex) ex := wq_bnd
@[simp] theorem wq_makeK {c : Str} {g : List Da → Mo Da} {n1 k : Nat} {gD : List Da → List Da → List Da} {ds es : List Da} (h : ds.length = n1 ∧ es.length = k) : Wq (makeK c g n1 k gD ds es) st post ex ↔ Wq (g (gD (.han st.length :: ds) es)) (st ++ [.ins c []]) (kb (fun r => bnd (isNon r) fun _ => ret (.han st.length)) post ex) ex := by
  rw [← wq_bnd]
  refine wq_iff.trans (Iff.trans ?_ (wq_iff (m := bnd (g (gD (Da.han st.length :: ds) es)) fun r => bnd (isNon r) fun _ => ret (Da.han st.length))).symm)
  unfold makeK Wp
  dsimp only
  rw [if_pos h]
  exact Iff.rfl
theorem wq_eqI {neg : Bool} {d e : Da} {p q : PyData} (h1 : PyIs st d p) (h2 : PyIs st e q) : Wq (eqB neg d e) st post ex ↔ post (.bl (if neg then !PyData.eqv p q else PyData.eqv p q)) st := wq_iff.trans (wp_eqI h1 h2)
@[simp] theorem wq_eq {d e : Da} (h1 : pl 60 d = true) (h2 : pl 60 e = true) : Wq (eqB false d e) st post ex ↔ post (.bl (deq d e)) st := wq_iff.trans (wp_eq h1 h2)
@[simp] theorem wq_ne {d e : Da} (h1 : pl 60 d = true) (h2 : pl 60 e = true) : Wq (eqB true d e) st post ex ↔ post (.bl (!deq d e)) st := wq_iff.trans (wp_ne h1 h2)
@[simp] theorem wq_eq_i {i j : Int} : Wq (eqB false (.int i) (.int j)) st post ex ↔ post (.bl (decide (i = j))) st := wq_iff.trans (wp_eq_i)
@[simp] theorem wq_ne_i {i j : Int} : Wq (eqB true (.int i) (.int j)) st post ex ↔ post (.bl (!decide (i = j))) st := wq_iff.trans (wp_ne_i)
theorem wq_srcV_h {n : Nat} {xs : List Da} (h : st[n]? = some (.lst xs)) : Wq (srcV (.han n)) st postS ex ↔ postS ⟨xs, some n⟩ st := wq_iff.trans (wp_srcV_h h)
theorem wq_forI {all : List Da} {t : Tg} {body : Sl → Mo Fl} {xs : List Da} (I : Nat → Sl → Store → Prop) (h0 : I 0 ro st)
    (hs : ∀ (i : Nat) (x : Da) (ro : Sl) (st : Store), xs[i]? = some x → I i ro st → ∃ ro1, t x ro = some ro1 ∧ Wq (body ro1) st (loopP (I (i + 1)) postF) ex)
    (hd : ∀ ro st, I xs.length ro st → postF (.nx ro) st) : Wq (forGo none all t body xs ro) st postF ex := ⟨wp_forI I h0 (fun i x ro st h1 h2 => let ⟨r, a, b⟩ := hs i x ro st h1 h2; ⟨r, a, b.p⟩) hd⟩
theorem wq_forIh {n : Nat} {t : Tg} {body : Sl → Mo Fl} {xs : List Da} (I : Nat → Sl → Store → Prop) (h0 : I 0 ro st) (hk : ∀ i ro st, I i ro st → st[n]? = some (.lst xs))
    (hs : ∀ (i : Nat) (x : Da) (ro : Sl) (st : Store), xs[i]? = some x → I i ro st → ∃ ro1, t x ro = some ro1 ∧ Wq (body ro1) st (loopP (I (i + 1)) postF) ex)
    (hd : ∀ ro st, I xs.length ro st → postF (.nx ro) st) : Wq (forGo (some n) xs t body xs ro) st postF ex := ⟨wp_forIh I h0 hk (fun i x ro st h1 h2 => let ⟨r, a, b⟩ := hs i x ro st h1 h2; ⟨r, a, b.p⟩) hd⟩
theorem wq_compF {α : Type} {all : List Da} {t : Tg} {p : Sl → Mo Bool} {e : Sl → Mo Da} {rs : List α} {f g : α → Da} {P : α → Bool} (hx : rs.length < 1000000)
    (h : ∀ x ∈ rs, ∃ ro1, t (f x) ro = some ro1 ∧ Wq (p ro1) st (fun c s => c = P x ∧ s = st) noEx ∧ (P x = true → Wq (e ro1) st (fun d s => d = g x ∧ s = st) noEx))
    (hp : postL ((rs.filter P).map g) st) : Wq (compGo none all t p e ro (rs.map f) []) st postL ex := ⟨wp_compF hx (fun x hx => let ⟨r, a, b, c⟩ := h x hx; ⟨r, a, b.p, fun z => (c z).p⟩) hp⟩
/-- without a test -/
theorem wq_compM {α : Type} {all : List Da} {t : Tg} {e : Sl → Mo Da} {rs : List α} {f g : α → Da} (hx : rs.length < 1000000)
    (h : ∀ x ∈ rs, ∃ ro1, t (f x) ro = some ro1 ∧ Wq (e ro1) st (fun d s => d = g x ∧ s = st) noEx)
    (hp : postL (rs.map g) st) : Wq (compGo none all t tYes_ e ro (rs.map f) []) st postL ex := by
  refine wq_compF (P := fun _ => true) (g := g) hx (fun x hm => ?_) ?_
  · obtain ⟨ro1, h1, h2⟩ := h x hm
    exact ⟨ro1, h1, by simp, fun _ => h2⟩
  · rw [List.filter_eq_self.mpr (by simp)]
    exact hp
@[simp] theorem wq_comp_nil {all : List Da} {t : Tg} {p : Sl → Mo Bool} {e : Sl → Mo Da} {acc : List Da} : Wq (compGo none all t p e ro [] acc) st postL ex ↔ postL acc st := wq_iff
@[simp] theorem loopK_nx {go : Sl → Mo Fl} : loopK go (.nx ro) = go ro := rfl
@[simp] theorem loopK_ct {go : Sl → Mo Fl} : loopK go (.ct ro) = go ro := rfl
@[simp] theorem loopK_bk {go : Sl → Mo Fl} : loopK go (.bk ro) = ret (Fl.nx ro) := rfl
@[simp] theorem loopK_rt {go : Sl → Mo Fl} {d : Da} : loopK go (.rt d) = ret (Fl.rt d) := rfl
@[simp] theorem wq_for_nil {all : List Da} {t : Tg} {body : Sl → Mo Fl} : Wq (forGo none all t body [] ro) st postF ex ↔ postF (.nx ro) st := wq_iff
end
end CL
namespace CL
open PySem L2
def LsAt (d : Da) (xs : List Da) (st : Store) : Prop := d = .lst xs ∨ ∃ q, d = .han q ∧ st[q]? = some (.lst xs)
section
variable {d : Da} {xs : List Da} {st st' : Store} {post : Da → Store → Prop} {postL : List Da → Store → Prop} {ex : Str → List Da → Store → Prop}
theorem LsAt.mono (h : LsAt d xs st) (hl : st.length ≤ st'.length) (hg : ∀ j, j < st.length → st'[j]? = st[j]?) : LsAt d xs st' := by
  rcases h with h | ⟨q, h1, h2⟩
  · exact .inl h
  · exact .inr ⟨q, h1, by rw [hg q (List.getElem?_eq_some_iff.mp h2).1]; exact h2⟩
theorem LsAt.isL (h : LsAt d xs st) {t : Tn} : Wq (isT t d) st post ex ↔ post (.bl (isTn .list t)) st := by
  rcases h with rfl | ⟨q, rfl, h⟩
  · exact wq_isT rfl
  · exact wq_isT_h h
theorem LsAt.list (h : LsAt d xs st) : Wq (listD d) st postL ex ↔ postL xs st := by
  rcases h with rfl | ⟨q, rfl, h⟩
  · exact wq_list_l
  · exact wq_list_h h
theorem LsAt.len (h : LsAt d xs st) : Wq (lenD d) st post ex ↔ post (.int xs.length) st := by
  rcases h with rfl | ⟨q, rfl, h⟩
  · simp
  · exact wq_len_h h
end
end CL
namespace CL
open PySem L2
theorem strOk_of (s : String) : PyData.strOk (Str.ofString s) = true := by
  unfold PyData.strOk
  rw [Str.ofString_eq_toList]
  simp only [List.all_toArray, List.all_map, List.all_eq_true]
  intro c _
  have h : c.toNat < 0x110000 := by
    rcases c.valid with h | h
    · exact Nat.lt_trans h (by decide)
    · exact h.2
  simpa using h
@[simp] theorem pl_str {n : Nat} {s : String} : pl n (.str (Str.ofString s)) = true := by
  cases n <;> simp [pl, strOk_of]
@[simp] theorem pl_int {n : Nat} {i : Int} : pl n (.int i) = true := by cases n <;> simp [pl]
@[simp] theorem pl_non {n : Nat} : pl n .non = true := by cases n <;> simp [pl]
@[simp] theorem pl_bl {n : Nat} {b : Bool} : pl n (.bl b) = true := by cases n <;> simp [pl]
@[simp] theorem pl_tup {n : Nat} {xs : List Da} : pl (n + 1) (.tup xs) = plL n xs := by simp [pl]
@[simp] theorem pl_lst {n : Nat} {xs : List Da} : pl (n + 1) (.lst xs) = plL n xs := by simp [pl]
@[simp] theorem plL_nil {n : Nat} : plL n [] = true := by simp [plL]
@[simp] theorem plL_cons {n : Nat} {x : Da} {xs : List Da} : plL n (x :: xs) = (pl n x && plL n xs) := by simp [plL]
@[simp] theorem pl_tup60 {xs : List Da} : pl 60 (.tup xs) = plL 59 xs := pl_tup
@[simp] theorem pl_lst60 {xs : List Da} : pl 60 (.lst xs) = plL 59 xs := pl_lst
@[simp] theorem pl_tup59 {xs : List Da} : pl 59 (.tup xs) = plL 58 xs := pl_tup
@[simp] theorem pl_lst59 {xs : List Da} : pl 59 (.lst xs) = plL 58 xs := pl_lst
@[simp] theorem deq_str {a b : String} : deq (.str (Str.ofString a)) (.str (Str.ofString b)) = decide (a = b) := by
  simp [deq, toPy, PyData.eqv]
  by_cases h : a = b <;> simp [h]
@[simp] theorem deq_int_str {i : Int} {b : Str} : deq (.int i) (.str b) = false := by simp [deq, toPy, PyData.eqv]
@[simp] theorem deq_str_int {i : Int} {b : Str} : deq (.str b) (.int i) = false := by simp [deq, toPy, PyData.eqv]
@[simp] theorem deq_non_str {b : Str} : deq .non (.str b) = false := by simp [deq, toPy, PyData.eqv]
@[simp] theorem deq_str_non {b : Str} : deq (.str b) .non = false := by simp [deq, toPy, PyData.eqv]
@[simp] theorem deq_tup_int {i : Int} {l : List Da} : deq (.tup l) (.int i) = false := by simp [deq, toPy, PyData.eqv]
@[simp] theorem deq_int_tup {i : Int} {l : List Da} : deq (.int i) (.tup l) = false := by simp [deq, toPy, PyData.eqv]
@[simp] theorem deq_tup_str {i : Str} {l : List Da} : deq (.tup l) (.str i) = false := by simp [deq, toPy, PyData.eqv]
@[simp] theorem deq_str_tup {i : Str} {l : List Da} : deq (.str i) (.tup l) = false := by simp [deq, toPy, PyData.eqv]
@[simp] theorem deq_tup_non {l : List Da} : deq (.tup l) .non = false := by simp [deq, toPy, PyData.eqv]
@[simp] theorem deq_non_tup {l : List Da} : deq .non (.tup l) = false := by simp [deq, toPy, PyData.eqv]
section
variable {st : Store} {ex : Str → List Da → Store → Prop} {post : Da → Store → Prop} {a : Sl → Mo Da} {al kl : Sl → Mo (List Da)} {ro : Sl}
theorem any_py {d : Da} : ∀ xs : List Da, (toPyL xs).any (fun z => PyData.eqv z (toPy d)) = xs.any fun z => deq z d
  | [] => by simp [toPyL]
  | x :: xs => by simp [toPyL, any_py xs, deq]
theorem wq_inI {neg : Bool} {d e : Da} {p : PyData} {qs : List PyData} (h1 : PyIs st d p) (h2 : PyIs st e (.tuple qs) ∨ PyIs st e (.list qs)) : Wq (inU neg d e) st post ex ↔ post (.bl (if neg then !qs.any (fun z => PyData.eqv z p) else qs.any fun z => PyData.eqv z p)) st := by
  rw [wq_iff]
  unfold Wp inU
  rw [h1.py]
  rcases h2 with h2 | h2
  · rw [h2.py]
    dsimp only
    rw [if_pos (by rw [h1.sh, h2.sh]; rfl)]
  · rw [h2.py]
    dsimp only
    rw [if_pos (by rw [h1.sh, h2.sh]; rfl)]
@[simp] theorem wq_inU_t {neg : Bool} {d : Da} {xs : List Da} (h1 : pl 60 d = true) (h2 : plL 59 xs = true) : Wq (inU neg d (.tup xs)) st post ex ↔ post (.bl (if neg then !xs.any (fun z => deq z d) else xs.any fun z => deq z d)) st := by
  rw [wq_inI (pl_is (n := 60) (by decide) h1) (qs := toPyL xs) (.inl ?_), any_py]
  have := pl_is (st := st) (n := 60) (by decide) (d := .tup xs) (by simpa using h2)
  simpa [toPy] using this
@[simp] theorem wq_inU_l {neg : Bool} {d : Da} {xs : List Da} (h1 : pl 60 d = true) (h2 : plL 59 xs = true) : Wq (inU neg d (.lst xs)) st post ex ↔ post (.bl (if neg then !xs.any (fun z => deq z d) else xs.any fun z => deq z d)) st := by
  rw [wq_inI (pl_is (n := 60) (by decide) h1) (qs := toPyL xs) (.inr ?_), any_py]
  have := pl_is (st := st) (n := 60) (by decide) (d := .lst xs) (by simpa using h2)
  simpa [toPy] using this
theorem wq_isTT {ts : List Tn} {u : Tn} {d : Da} (h : tyN st d = some u) : Wq (isTT ts d) st post ex ↔ post (.bl (ts.any (isTn u))) st := by
  rw [wq_iff]; unfold Wp isTT; rw [h]
@[simp] theorem wq_isTT_t {ts : List Tn} {xs : List Da} : Wq (isTT ts (.tup xs)) st post ex ↔ post (.bl (ts.any (isTn .tuple))) st := wq_isTT rfl
@[simp] theorem wq_isTT_l {ts : List Tn} {xs : List Da} : Wq (isTT ts (.lst xs)) st post ex ↔ post (.bl (ts.any (isTn .list))) st := wq_isTT rfl
@[simp] theorem wq_eCallK {f : List Da → Mo Da} {n1 k : Nat} {gD : List Da → List Da → List Da} : Wq (eCallK f n1 k gD al kl ro) st post ex ↔ Wq (al ro) st (kb (fun ds => bnd (kl ro) fun es => if ds.length = n1 ∧ es.length = k then f (gD ds es) else nop) post ex) ex := wq_bnd
@[simp] theorem wq_eMethK {c m : Str} {f : List Da → Mo Da} {n1 k : Nat} {gD : List Da → List Da → List Da} : Wq (eMethK c m f n1 k gD a al kl ro) st post ex ↔ Wq (a ro) st (kb (fun d => bnd (isIns c m d) fun _ => bnd (al ro) fun ds => bnd (kl ro) fun es => if ds.length = n1 ∧ es.length = k then f (gD (d :: ds) es) else nop) post ex) ex := wq_bnd
end
end CL
namespace CL
open PySem L2
section
variable {st : Store} {ex : Str → List Da → Store → Prop} {post : Da → Store → Prop} {postF : Fl → Store → Prop} {ro : Sl} {a b : Sl → Mo Da}
@[simp] theorem wq_mRaise {c : Str} : Wq (mRaise c ro) st postF ex ↔ ex c [] st := wq_iff
/-- a try: its body may refuse -/
theorem wq_mTry {cs : List Str} {i j : Nat} {m : Sl → Mo Fl} : Wq (mTry cs i j m ro) st postF ex ↔ Wq (m ro) st postF (fun c as s => c ∈ cs ∧ i < ro.length ∧ as = [] ∧ postF (.nx ((ro.set i none).set j (some (.han s.length)))) (s ++ [.exn c])) := by
  rw [wq_iff, wq_iff]
  unfold Wp mTry
  cases q : m ro st with
  | ok f s => exact Iff.rfl
  | bad => exact Iff.rfl
  | exc c as s =>
    dsimp only
    by_cases h : c ∈ cs ∧ i < ro.length ∧ as = []
    · rw [if_pos h]
      exact ⟨fun z => ⟨h.1, h.2.1, h.2.2, z⟩, fun z => z.2.2.2⟩
    · rw [if_neg h]
      exact ⟨fun z => z.elim, fun z => h ⟨z.1, z.2.1, z.2.2.1⟩⟩
theorem wq_isX {tab : List (Str × Bool)} {n : Nat} {c : Str} {v : Bool} (h : st[n]? = some (.exn c)) (ht : tab.lookup c = some v) : Wq (isX tab (.han n)) st post ex ↔ post (.bl v) st := by
  rw [wq_iff]
  unfold Wp isX
  dsimp only
  rw [h]
  dsimp only
  rw [ht]
@[simp] theorem wq_eCount : Wq (eCount a b ro) st post ex ↔ Wq (a ro) st (kb (fun d => bnd (isLs d) fun _ => bnd (b ro) fun x => countD d x) post ex) ex := wq_bnd
end
end CL
namespace CL
open PySem L2
section
variable {d : Da} {xs : List Da} {st : Store} {post : Da → Store → Prop} {postF : Fl → Store → Prop} {ex : Str → List Da → Store → Prop} {ro : Sl}
theorem wq_forLs {t : Tg} {body : Sl → Mo Fl} (h : LsAt d xs st) (I : Nat → Sl → Store → Prop) (h0 : I 0 ro st) (hk : ∀ i ro s, I i ro s → LsAt d xs s)
    (hs : ∀ (i : Nat) (x : Da) (ro : Sl) (st : Store), xs[i]? = some x → I i ro st → ∃ ro1, t x ro = some ro1 ∧ Wq (body ro1) st (loopP (I (i + 1)) postF) ex)
    (hd : ∀ ro st, I xs.length ro st → postF (.nx ro) st) : Wq (srcV d) st (kb (fun s => forGo s.o s.xs t body s.xs ro) postF ex) ex := by
  rcases h with rfl | ⟨q, rfl, hq⟩
  · simp only [wq_srcV_l, kb_app]
    exact wq_forI I h0 hs hd
  · rw [wq_srcV_h hq]
    simp only [kb_app]
    refine wq_forIh I h0 (fun i ro s hi => ?_) hs hd
    rcases hk i ro s hi with z | ⟨q', z, hz⟩
    · cases z
    · cases z; exact hz
end
/-- a catcher, its place perhaps too far -/
def LinkW (d : Da) : Prop := ∃ (a : Da) (b : Int) (c : Bool), d = .tup [a, .int b, .bl c] ∧ (a = .non ∨ ∃ k : Int, a = .int k ∧ 0 ≤ k ∧ k ≤ 4) ∧ 0 ≤ b
def inR : Da → Bool
  | .tup [_, .int b, _] => decide (b ≤ 100000)
  | _ => false
theorem LinkW.pl {d : Da} (h : LinkW d) : pl 1 d = true := by
  obtain ⟨a, b, c, rfl, h, _⟩ := h
  rcases h with rfl | ⟨k, rfl, _⟩ <;> simp [CL.pl, plL]
/-- rows in order that may reach too far -/
def RowsW : Int → List Row → Prop
  | _, [] => True
  | at_, (b, e, c) :: r => at_ ≤ b ∧ b < e ∧ (∃ xs, c = .tup xs ∧ xs ≠ [] ∧ ∀ x ∈ xs, LinkW x) ∧ RowsW e r
def rowIn (r : Row) : Bool := decide (r.2.1 ≤ 100000) && (match r.2.2 with | .tup xs => xs.all inR | _ => false)
theorem RowsW.of : ∀ {a : Int} {rs : List Row}, Rows a rs → RowsW a rs ∧ rs.all rowIn = true
  | _, [], _ => ⟨trivial, rfl⟩
  | a, (b, e, c) :: rs, h => by
    obtain ⟨h1, h2, h3, ⟨xs, rfl, hne, _, hx⟩, h5⟩ := h
    obtain ⟨i1, i2⟩ := RowsW.of h5
    refine ⟨⟨h1, h2, ⟨xs, rfl, hne, fun x hm => ?_⟩, i1⟩, ?_⟩
    · obtain ⟨a, b, c, rfl, h1, h2, _⟩ := hx x hm
      exact ⟨a, b, c, rfl, h1, h2⟩
    · rw [List.all_cons, i2, Bool.and_true]
      have : xs.all inR = true := by
        rw [List.all_eq_true]
        intro x hm
        obtain ⟨a, b, c, rfl, h1, h2, h3⟩ := hx x hm
        simp [inR, h3]
      simp [rowIn, h3]
      simpa using this
theorem RowsW.get : ∀ {a : Int} {rs : List Row} {i : Nat} {r : Row}, 0 ≤ a → RowsW a rs → rs[i]? = some r → 0 ≤ r.1 ∧ r.1 < r.2.1 ∧ (∃ xs, r.2.2 = .tup xs ∧ xs ≠ [] ∧ ∀ x ∈ xs, LinkW x) ∧ (i = 0 → a ≤ r.1) ∧ ∀ j q, i = j + 1 → rs[j]? = some q → q.2.1 ≤ r.1
  | a, (b, e, c) :: rs, 0, r, ha, h, hr => by
    obtain ⟨h1, h2, h3, _⟩ := h
    simp at hr
    subst hr
    exact ⟨by omega, h2, h3, fun _ => h1, fun j q z => by omega⟩
  | a, (b, e, c) :: rs, i + 1, r, ha, h, hr => by
    obtain ⟨h1, h2, h3, h4⟩ := h
    simp at hr
    obtain ⟨k1, k2, k3, k4, k5⟩ := RowsW.get (show 0 ≤ e by omega) h4 hr
    refine ⟨k1, k2, k3, by omega, fun j q z hq => ?_⟩
    cases j with
    | zero =>
      simp at hq
      subst hq
      exact k4 (by omega)
    | succ j => exact k5 j q (by omega) (by simpa using hq)
section
variable {st : Store} {ex : Str → List Da → Store → Prop} {post : Da → Store → Prop} {postF : Fl → Store → Prop}
@[simp] theorem wq_wholeI {i lo hi : Int} : Wq (f_is_whole [.int i, .int lo, .int hi]) st post ex ↔ post (.bl (decide (lo ≤ i ∧ i ≤ hi))) st := wq_iff.trans wp_whole
theorem chain_ans {xs : List Da} (hne : xs ≠ []) (h : ∀ x ∈ xs, LinkW x) (hp : post (.bl (xs.all inR)) st) : Wq (f_is_chain [.tup xs]) st post ex := by
  have hpl : pl 2 (.tup xs) = true := by
    simp only [CL.pl]
    rw [plL_all, List.all_eq_true]
    exact fun x hx => (h x hx).pl
  unfold f_is_chain m_is_chain
  simp [startS, isTn]
  rw [wq_eq (pl_le _ _ _ (by decide) hpl) (by simp [CL.pl, plL])]
  simp [deqL_ne, hne]
  refine wq_forI (fun i ro s => (∃ o, ro = [some (.tup xs), o]) ∧ s = st ∧ (xs.take i).all inR = true) ⟨⟨_, rfl⟩, rfl, by simp⟩ ?_ ?_
  · rintro i x ro s hx ⟨⟨o, rfl⟩, rfl, ht⟩
    obtain ⟨a, b, c, rfl, ha, hb⟩ := h x (List.mem_of_getElem? hx)
    refine ⟨_, rfl, ?_⟩
    obtain ⟨hi, he⟩ := List.getElem?_eq_some_iff.mp hx
    by_cases z : b ≤ 100000
    · have ht' : (xs.take (i + 1)).all inR = true := by
        rw [List.take_succ_eq_append_getElem hi, List.all_append, ht, he]
        simp [inR, z]
      rcases ha with rfl | ⟨k, rfl, hk⟩
      · simp [isTn, hb, z, loopP]
        exact by simpa using ht'
      · simp [isTn, hb, z, hk, loopP]
        exact by simpa using ht'
    · have hf : xs.all inR = false := by
        rw [List.all_eq_false]
        exact ⟨_, List.mem_of_getElem? hx, by simp [inR, z]⟩
      rw [hf] at hp
      simp [isTn, hb, z, loopP]
      exact hp
  · rintro ro s ⟨⟨o, rfl⟩, rfl, ht⟩
    rw [List.take_length] at ht
    rw [ht] at hp
    simpa using hp
def bodyT (g f : List Da → Mo Da) : Sl → Mo Fl := (mSeq (mIf (tOr_ (tNot_ (tst (e1 (isT .tuple) (eVar 2)))) (tOr_ (tst (e2 neD (eCall (one lenD) (aCons (eVar 2) aNil)) (eC (.int 3)))) (tNot_ (tst (eCall (fun ds => ar 1 g (ds ++ [])) (aCons (e2 ixD (eVar 2) (eC (.int 2))) aNil)))))) (mRet (eC (.bl false))) mNil) (mSeq (mIf (tOr_ (tNot_ (tst (eCall (one allD) (aCons (eL (lComp (iV (eSl slA (eVar 2) noP (soP (eC (.int 2))))) (gN 3) tYes_ (eCall (fun ds => ar 3 f (ds ++ [])) (aCons (eVar 3) (aCons (eC (.int 0)) (aCons (eC (.int 100000)) aNil)))) [3])) aNil)))) (tOr_ (tst (e2 ltD (e2 ixD (eVar 2) (eC (.int 0))) (eVar 1))) (tst (e2 leD (e2 ixD (eVar 2) (eC (.int 1))) (e2 ixD (eVar 2) (eC (.int 0))))))) (mRet (eC (.bl false))) mNil) (mSet 1 (e2 ixD (eVar 2) (eC (.int 1))))))
theorem is_table_eq (g f : List Da → Mo Da) : m_is_table g f = (mSeq (mIf (tNot_ (tst (e1 (isT .list) (eVar 0)))) (mRet (eC (.bl false))) mNil) (mSeq (mSet 1 (eC (.int 0))) (mSeq (mFor (iV (eVar 0)) (gN 2) (bodyT g f)) (mRet (eC (.bl true)))))) := rfl
/-- one row -/
theorem row_ans {L : Da} {a : Int} {r : Row} {o3 : Option Da} (h0 : 0 ≤ r.1) (h1 : a ≤ r.1) (h2 : r.1 < r.2.1) (hc : ∃ xs, r.2.2 = .tup xs ∧ xs ≠ [] ∧ ∀ x ∈ xs, LinkW x)
    (hy : rowIn r = true → ∀ o3, postF (.nx [some L, some (.int r.2.1), some (rowD r), o3]) st) (hn : rowIn r = false → postF (.rt (.bl false)) st) :
    Wq (bodyT f_is_chain f_is_whole [some L, some (.int a), some (rowD r), o3]) st postF ex := by
  obtain ⟨b, e, c⟩ := r
  obtain ⟨xs, hc, hne, hx⟩ := hc
  dsimp only at *
  subst hc
  unfold bodyT
  simp [isTn, rowD]
  refine chain_ans hne hx ?_
  cases hin : xs.all inR with
  | false =>
    have := hn (by simp only [rowIn, hin, Bool.and_false])
    simpa using this
  | true =>
    have hcut : cutD [.int b, .int e, .tup xs] none (some 2) = [Da.int b, .int e] := rfl
    simp [hcut, wipeS]
    refine wq_compM (rs := [b, e]) (f := Da.int) (g := fun (i : Int) => Da.bl (decide (0 ≤ i ∧ i ≤ 100000))) (by simp) (fun i hi => ⟨_, rfl, by simp⟩) ?_
    simp
    have e0 : 0 ≤ e := by omega
    have hae : ¬ b < a := by omega
    have heb : ¬ e ≤ b := by omega
    by_cases z : e ≤ 100000
    · have zb : b ≤ 100000 := by omega
      have := hy (by simp [rowIn, z]; simpa using hin)
      rw [if_neg (by omega)]
      simp [hae, heb]
      exact this _
    · have := hn (by simp [rowIn, z])
      rw [if_pos (by omega)]
      simp
      exact this
theorem tab_ans {d : Da} {rs : List Row} (h : RowsW 0 rs) (hd : LsAt d (rs.map rowD) st) (hp : post (.bl (rs.all rowIn)) st) : Wq (f_is_table [d]) st post ex := by
  unfold f_is_table
  rw [is_table_eq]
  simp [startS, hd.isL, isTn]
  refine wq_forLs hd (I := fun i ro s => s = st ∧ (rs.take i).all rowIn = true ∧ ∃ (a : Int) (o2 o3 : Option Da), ro = [some d, some (.int a), o2, o3] ∧ (∀ r, rs[i]? = some r → a ≤ r.1)) ⟨rfl, rfl, 0, _, _, rfl, fun r hr => (RowsW.get (by decide) h hr).2.2.2.1 rfl⟩ (fun i ro s z => z.1 ▸ hd) ?_ ?_
  · rintro i x ro s hx ⟨rfl, ht, a, o2, o3, rfl, ha⟩
    rw [List.getElem?_map] at hx
    obtain ⟨r, hr, rfl⟩ := Option.map_eq_some_iff.mp hx
    obtain ⟨k1, k2, k3, k4, k5⟩ := RowsW.get (by decide) h hr
    obtain ⟨hi, he⟩ := List.getElem?_eq_some_iff.mp hr
    refine ⟨_, rfl, ?_⟩
    refine row_ans k1 (ha r hr) k2 k3 (fun hin o3 => ?_) (fun hin => ?_)
    · refine ⟨rfl, ?_, _, _, _, rfl, fun q hq => ?_⟩
      · rw [List.take_succ_eq_append_getElem hi, List.all_append, ht, he]
        simp [hin]
      · exact (RowsW.get (by decide) h hq).2.2.2.2 i r rfl hr
    · have hf : rs.all rowIn = false := by
        rw [List.all_eq_false]
        exact ⟨r, List.mem_of_getElem? hr, by simp [hin]⟩
      rw [hf] at hp
      simpa [loopP] using hp
  · rintro ro s ⟨rfl, ht, a, o2, o3, rfl, _⟩
    rw [List.length_map, List.take_length] at ht
    rw [ht] at hp
    simpa using hp
/-- looked at: told or refused -/
theorem look_ans {d : Da} {rs : List Row} {ex' : Str → List Da → Store → Prop} (h : RowsW 0 rs) (hd : LsAt d (rs.map rowD) st) (hy : rs.all rowIn = true → post .non st) (hn : rs.all rowIn = false → ex' "BadTable" [] st) : Wq (f_look_table [d]) st post ex' := by
  unfold f_look_table m_look_table
  simp [startS]
  refine tab_ans h hd ?_
  cases hin : rs.all rowIn with
  | false => simpa using hn hin
  | true => simpa using hy hin
end
end CL
namespace CL
open PySem L2
structure Kx (st st' : Store) : Prop where
  len : st.length ≤ st'.length
  at_ : ∀ i, i < st.length → st'[i]? = st[i]?
theorem Kx.refl {st : Store} : Kx st st := ⟨Nat.le_refl _, fun _ _ => rfl⟩
theorem Kx.trans {a b c : Store} (h : Kx a b) (g : Kx b c) : Kx a c := ⟨Nat.le_trans h.len g.len, fun i hi => by rw [g.at_ i (Nat.lt_of_lt_of_le hi h.len), h.at_ i hi]⟩
theorem Kx.push {a b : Store} {c : Cell} (h : Kx a b) : Kx a (b ++ [c]) := ⟨by simp; have := h.len; omega, fun i hi => by rw [List.getElem?_append_left (Nat.lt_of_lt_of_le hi h.len), h.at_ i hi]⟩
theorem Kx.set {a b : Store} {c : Cell} {n : Nat} (h : Kx a b) (hn : a.length ≤ n) : Kx a (b.set n c) := ⟨by simp; exact h.len, fun i hi => by rw [List.getElem?_set_ne (by omega), h.at_ i hi]⟩
theorem Kx.get {a b : Store} {c : Cell} {n : Nat} (h : Kx a b) (hn : a[n]? = some c) : b[n]? = some c := by rw [h.at_ n (some_lt hn)]; exact hn
theorem Tw.kx {t r : Nat} {a b : Store} (h : Tw t r a) (k : Kx a b) : Tw t r b := by
  obtain ⟨hne, ⟨j, rest, hrest, hk⟩, xs, hx, hr⟩ := h
  exact ⟨hne, ⟨j, rest, hrest, k.get hk⟩, xs, hx, k.get hr⟩
end CL
namespace CL
open PySem L2
def shL (v : Int) : Da → Da
  | .tup [a, .int b, c] => .tup [a, .int (b + v), c]
  | d => d
def shC (v : Int) : Da → Da
  | .tup xs => .tup (xs.map (shL v))
  | d => d
def shR (v : Int) (r : Row) : Row := (r.1 + v, r.2.1 + v, shC v r.2.2)
def shD (v : Int) (rs : List Row) : List Da := (rs.map (shR v)).map rowD
theorem shD_snoc (v : Int) (rs : List Row) (r : Row) : shD v (rs ++ [r]) = shD v rs ++ [rowD (shR v r)] := by simp [shD]
theorem shD_len (v : Int) (rs : List Row) : (shD v rs).length = rs.length := by simp [shD]
theorem link_sh {v : Int} {d : Da} (h : IsLink d) (hv : 0 ≤ v) : LinkW (shL v d) := by
  obtain ⟨a, b, c, rfl, h1, h2, h3⟩ := h
  exact ⟨a, b + v, c, rfl, h1, by omega⟩
theorem shR_rows {v : Int} (hv : 0 ≤ v) : ∀ {a : Int} {rs : List Row}, Rows a rs → ∀ {a' : Int}, a' ≤ a + v → RowsW a' (rs.map (shR v))
  | _, [], _, _, _ => trivial
  | a, (b, e, c) :: rs, h, a', ha => by
    obtain ⟨h1, h2, h3, ⟨xs, rfl, hne, _, hx⟩, h5⟩ := h
    refine ⟨by show a' ≤ b + v; omega, by show b + v < e + v; omega, ⟨xs.map (shL v), rfl, by simpa using hne, fun x hm => ?_⟩, shR_rows hv h5 (Int.le_refl _)⟩
    obtain ⟨y, hy, rfl⟩ := List.mem_map.mp hm
    exact link_sh (hx y hy) hv
section
variable {st : Store} {ex : Str → List Da → Store → Prop} {post : Da → Store → Prop} {postF : Fl → Store → Prop} {postL : List Da → Store → Prop}
/-- one catcher after another, so much farther -/
theorem comp_sh {v : Int} {xs all : List Da} {ro : Sl} {i1 i2 i3 j : Nat} (hx : ∀ x ∈ xs, IsLink x) (hl : xs.length < 1000000)
    (h1 : ∀ a b c, ((((ro.set i1 (some a)).set i2 (some b)).set i3 (some c)))[i1]? = some (some a)) (h2 : ∀ a b c, ((((ro.set i1 (some a)).set i2 (some b)).set i3 (some c)))[i2]? = some (some b)) (h3 : ∀ a b c, ((((ro.set i1 (some a)).set i2 (some b)).set i3 (some c)))[i3]? = some (some c)) (hj : ∀ a b c, ((((ro.set i1 (some a)).set i2 (some b)).set i3 (some c)))[j]? = some (some (.int v)))
    (hp : postL (xs.map (shL v)) st) :
    Wq (compGo none all (gT 3 (gsC (gN i1) (gsC (gN i2) (gsC (gN i3) gsN)))) tYes_ (eTup (aCons (eVar i1) (aCons (e2 addD (eVar i2) (eVar j)) (aCons (eVar i3) aNil)))) ro xs []) st postL ex := by
  have := wq_compM (all := all) (rs := xs) (f := id) (g := shL v) (t := gT 3 (gsC (gN i1) (gsC (gN i2) (gsC (gN i3) gsN)))) (e := eTup (aCons (eVar i1) (aCons (e2 addD (eVar i2) (eVar j)) (aCons (eVar i3) aNil)))) (ro := ro) (st := st) (postL := postL) (ex := ex) hl (fun x hm => ?_) hp
  · simpa using this
  · obtain ⟨a, b, c, rfl, _⟩ := hx x hm
    refine ⟨_, rfl, ?_⟩
    have q1 := h1 a (.int b) (.bl c)
    have q2 := h2 a (.int b) (.bl c)
    have q3 := h3 a (.int b) (.bl c)
    have q4 := hj a (.int b) (.bl c)
    simp [wq_var q1, wq_var q2, wq_var q3, wq_var q4, shL]
theorem shifted_ok {rs : List Row} {v : Int} (h : Rows 0 rs) (hl : rs.length < 900000) (h0 : 0 ≤ v) (h1 : v ≤ 100000) (hy : ∀ s, (rs.map (shR v)).all rowIn = true → Kx st s → post (.lst (shD v rs)) s) (hn : ∀ s, (rs.map (shR v)).all rowIn = false → Kx st s → ex "BadTable" [] s) :
    Wq (f_shifted [.lst (rs.map rowD), .int v]) st post ex := by
  obtain ⟨hW, hin⟩ := RowsW.of h
  unfold f_shifted m_shifted
  simp [startS]
  refine look_ans hW (.inl rfl) (fun _ => ?_) (fun z => by rw [hin] at z; cases z)
  simp [h0, h1]
  refine wq_forI (I := fun i ro s => (∃ o3 o4 o5 o6 o7 o8, ro = [some (.lst (rs.map rowD)), some (.int v), some (.han st.length), o3, o4, o5, o6, o7, o8]) ∧ s[st.length]? = some (.lst (shD v (rs.take i))) ∧ Kx st s) ⟨⟨_, _, _, _, _, _, rfl⟩, by simp [shD], Kx.refl.push⟩ ?_ ?_
  · rintro i x ro s hx ⟨⟨o3, o4, o5, o6, o7, o8, rfl⟩, hq, kx⟩
    rw [List.getElem?_map] at hx
    obtain ⟨⟨b, e, c⟩, hr, rfl⟩ := Option.map_eq_some_iff.mp hx
    obtain ⟨hi, he⟩ := List.getElem?_eq_some_iff.mp hr
    obtain ⟨_, _, _, ⟨xs, hc, hne, hxl, hxs⟩⟩ := Rows.mem h (by decide) _ (List.mem_of_getElem? hr)
    dsimp only at hc
    subst hc
    refine ⟨_, rfl, ?_⟩
    simp
    rw [wq_isLs_h hq]
    simp [wipeS]
    refine comp_sh (v := v) hxs (by omega) ?_ ?_ ?_ ?_ ?_
    · intros; rfl
    · intros; rfl
    · intros; rfl
    · intros; rfl
    simp
    rw [wq_appD hq (by rw [shD_len]; simp; omega)]
    simp [loopP]
    refine ⟨?_, kx.set (Nat.le_refl _)⟩
    rw [List.getElem?_set_self (some_lt hq), List.take_succ_eq_append_getElem hi, he, shD_snoc]
    rfl
  · rintro ro s ⟨⟨o3, o4, o5, o6, o7, o8, rfl⟩, hq, kx⟩
    rw [List.length_map, List.take_length] at hq
    simp
    refine look_ans (shR_rows h0 h (by omega)) (.inr ⟨_, rfl, hq⟩) (fun z => ?_) (fun z => ?_)
    · simp
      rw [wq_fz hq]
      simp only [kb_app, fnE_rt, wq_ret]
      exact hy _ z (kx.set (Nat.le_refl _))
    · exact hn _ z kx
end
end CL
namespace CL
open PySem L2
def endE (rs : List Row) : Int := match rs.getLast? with
  | some r => r.2.1
  | none => 0
theorem endE_snoc (rs : List Row) (r : Row) : endE (rs ++ [r]) = r.2.1 := by simp [endE]
theorem atI_end {α : Type} (xs : List α) (x : α) : atI (xs ++ [x]) (-1) = some x := by
  unfold atI
  have e : ixN (xs ++ [x]).length (-1) = some xs.length := by
    unfold ixN
    rw [if_neg (by decide), if_pos (by simp; omega)]
    simp; omega
  rw [e]; simp
/-- the second begins ahead of the first one's end -/
def meetsW (rs vs : List Row) : Bool := match vs with
  | [] => false
  | v :: _ => !rs.isEmpty && decide (v.1 < endE rs)
section
variable {st : Store} {ex : Str → List Da → Store → Prop} {post : Da → Store → Prop}
theorem rows_pl {rs : List Row} {a : Int} (h : Rows a rs) (n : Nat) : plL (n + 3) (rs.map rowD) = true := by
  rw [plL_all, List.all_eq_true]
  intro x hx
  obtain ⟨r, hr, rfl⟩ := List.mem_map.mp hx
  have hc : IsCh r.2.2 := by
    clear hx
    induction rs generalizing a with
    | nil => cases hr
    | cons q rs ih =>
      obtain ⟨b, e, c⟩ := q
      obtain ⟨_, _, _, h4, h5⟩ := h
      rcases List.mem_cons.mp hr with rfl | hr
      · exact h4
      · exact ih h5 hr
  have := pl_le 2 (n + 2) _ (by omega) hc.pl
  simp [rowD, pl, plL, this]
theorem joined_ok {rs vs : List Row} (h : Rows 0 rs) (g : Rows 0 vs) (hl : rs.length + vs.length ≤ 900000) (hy : meetsW rs vs = false → post (.lst ((rs ++ vs).map rowD)) st) (hn : meetsW rs vs = true → ex "BadTable" [] st) :
    Wq (f_joined [.lst (rs.map rowD), .lst (vs.map rowD)]) st post ex := by
  obtain ⟨hW, hin⟩ := RowsW.of h
  obtain ⟨gW, gin⟩ := RowsW.of g
  have p1 : pl 60 (.lst (rs.map rowD)) = true := by rw [pl_lst60]; exact rows_pl h 56
  have p2 : pl 60 (.lst (vs.map rowD)) = true := by rw [pl_lst60]; exact rows_pl g 56
  have ne : ∀ {qs : List Row} {s : Store} {post : Da → Store → Prop} {ex : Str → List Da → Store → Prop}, pl 60 (.lst (qs.map rowD)) = true → (Wq (eqB true (.lst (qs.map rowD)) (.lst [])) s post ex ↔ post (.bl (!qs.isEmpty)) s) := by
    intro qs s post ex hp
    rw [wq_ne hp (by simp), deq_lst, deqL_ne]
    cases qs <;> simp
  have cat : ∀ {post : List Da → Store → Prop} {ex : Str → List Da → Store → Prop}, Wq (catL (.lst (rs.map rowD)) (.lst (vs.map rowD))) st post ex ↔ post ((rs ++ vs).map rowD) st := by
    intro post ex
    rw [wq_catL_l (by simp; omega), List.map_append]
  unfold f_joined m_joined
  simp [startS]
  refine look_ans hW (.inl rfl) (fun _ => ?_) (fun z => by rw [hin] at z; cases z)
  simp
  refine look_ans gW (.inl rfl) (fun _ => ?_) (fun z => by rw [gin] at z; cases z)
  simp [ne p1]
  by_cases hr : rs = []
  · have := hy (by unfold meetsW; cases vs <;> simp [hr])
    rw [if_pos hr]
    simp [cat]
    simpa using this
  · rw [if_neg hr]
    obtain ⟨rs', r, rfl⟩ : ∃ rs' r, rs = rs' ++ [r] := ⟨rs.dropLast, rs.getLast hr, (List.dropLast_concat_getLast _).symm⟩
    simp [ne p2]
    cases vs with
    | nil =>
      have := hy rfl
      have cat' : ∀ {post : List Da → Store → Prop} {ex : Str → List Da → Store → Prop}, Wq (catL (.lst (rs'.map rowD ++ [rowD r])) (.lst [])) st post ex ↔ post ((rs' ++ [r]).map rowD) st := by
        intro post ex
        have := cat (post := post) (ex := ex)
        simpa using this
      simp [cat']
      simpa using this
    | cons v vs =>
      have hx : ∀ {post : Da → Store → Prop} {ex : Str → List Da → Store → Prop}, Wq (ixD (.lst (rs'.map rowD ++ [rowD r])) (.int (-1))) st post ex ↔ post (rowD r) st := wq_ix_l (atI_end _ _)
      have rx0 : ∀ {post : Da → Store → Prop} {ex : Str → List Da → Store → Prop} (q : Row), Wq (ixD (rowD q) (.int 0)) st post ex ↔ post (.int q.1) st := fun q => wq_ix_t0
      have rx1 : ∀ {post : Da → Store → Prop} {ex : Str → List Da → Store → Prop} (q : Row), Wq (ixD (rowD q) (.int 1)) st post ex ↔ post (.int q.2.1) st := fun q => wq_ix_t1
      have cat' : ∀ {post : List Da → Store → Prop} {ex : Str → List Da → Store → Prop}, Wq (catL (.lst (rs'.map rowD ++ [rowD r])) (.lst (rowD v :: vs.map rowD))) st post ex ↔ post ((rs' ++ [r] ++ v :: vs).map rowD) st := by
        intro post ex
        have := cat (post := post) (ex := ex)
        rw [List.map_append, List.map_cons] at this
        simpa using this
      simp [hx, rx0, rx1]
      by_cases z : v.1 < r.2.1
      · have := hn (by simp [meetsW, z, endE_snoc])
        simp [z]
        exact this
      · have := hy (by simp [meetsW, z, endE_snoc])
        simp [z, cat']
        simpa using this
end
end CL
namespace CL
open PySem L2
/-- the word of a refusal -/
inductive Rf : Str → String → Prop
  | number : Rf "BadNumber" "number"
  | tree : Rf "BadTree" "tree"
  | order : Rf "BadOrder" "order"
  | table : Rf "BadTable" "table"
  | stuck : Rf "Stuck" "stuck"
  | over : Rf "Over" "over"
  | text : Rf "BadText" "text"
section
variable {st : Store} {ex : Str → List Da → Store → Prop} {post : Da → Store → Prop}
theorem wq_count_l {d : Da} {xs : List Da} (h1 : pl 60 d = true) (h2 : plL 59 xs = true) : Wq (countD (.lst xs) d) st post ex ↔ post (.int (((toPyL xs).countP fun z => PyData.eqv z (toPy d) : Nat) : Int)) st := by
  have a1 := pl_is (st := st) (n := 60) (by decide) h1
  have a2 : PyIs st (.lst xs) (.list (toPyL xs)) := by
    have := pl_is (st := st) (n := 60) (by decide) (d := .lst xs) (by simpa using h2)
    simpa [toPy] using this
  rw [wq_iff]
  unfold Wp countD
  rw [a1.py, a2.py]
  dsimp only
  rw [if_pos (by rw [a1.sh, a2.sh]; rfl)]
theorem wq_index_l {d : Da} {xs : List Da} {j : Nat} (h1 : pl 60 d = true) (h2 : plL 59 xs = true) (hj : (toPyL xs).findIdx? (fun z => PyData.eqv z (toPy d)) = some j) : Wq (indexD (.lst xs) d) st post ex ↔ post (.int j) st := by
  have a1 := pl_is (st := st) (n := 60) (by decide) h1
  have a2 : PyIs st (.lst xs) (.list (toPyL xs)) := by
    have := pl_is (st := st) (n := 60) (by decide) (d := .lst xs) (by simpa using h2)
    simpa [toPy] using this
  rw [wq_iff]
  unfold Wp indexD
  rw [a1.py, a2.py]
  dsimp only
  rw [if_pos (by rw [a1.sh, a2.sh]; rfl), hj]
theorem refusal_ok {n : Nat} {c : Str} {w : String} (h : st[n]? = some (.exn c)) (r : Rf c w) (hp : post (.str (Str.ofString w)) st) : Wq (f__law_refusal [.han n]) st post ex := by
  unfold f__law_refusal m__law_refusal
  have key : ∀ {tab : List (Str × Bool)} {v : Bool} {post : Da → Store → Prop} {ex : Str → List Da → Store → Prop}, tab.lookup c = some v → (Wq (isX tab (.han n)) st post ex ↔ post (.bl v) st) := fun {tab v post ex} ht => wq_isX h ht
  cases r with
  | number =>
    simp [startS]
    iterate 8 ((first | rw [key (v := true) (by decide)] | rw [key (v := false) (by decide)]); simp)
    rw [wq_count_l (by simp) (by simp)]
    simp [toPyL, toPy, PyData.eqv]
    iterate 2 ((first | rw [key (v := true) (by decide)] | rw [key (v := false) (by decide)]); simp)
    rw [wq_index_l (j := 0) (by simp) (by simp) (by simp [toPyL, toPy, PyData.eqv, List.findIdx?_cons])]
    have hix : ∀ {post : Da → Store → Prop} {ex : Str → List Da → Store → Prop}, Wq (ixD (.lst [.str "number", .str "tree", .str "order", .str "table", .str "place", .str "stuck", .str "over", .str "text"]) (.int ((0 : Nat) : Int))) st post ex ↔ post (.str "number") st := wq_ix_l (atI_nat (j := 0) rfl)
    simp at hix
    simp [hix]
    exact hp
  | tree =>
    simp [startS]
    iterate 8 ((first | rw [key (v := true) (by decide)] | rw [key (v := false) (by decide)]); simp)
    rw [wq_count_l (by simp) (by simp)]
    simp [toPyL, toPy, PyData.eqv]
    iterate 2 ((first | rw [key (v := true) (by decide)] | rw [key (v := false) (by decide)]); simp)
    rw [wq_index_l (j := 1) (by simp) (by simp) (by simp [toPyL, toPy, PyData.eqv, List.findIdx?_cons])]
    have hix : ∀ {post : Da → Store → Prop} {ex : Str → List Da → Store → Prop}, Wq (ixD (.lst [.str "number", .str "tree", .str "order", .str "table", .str "place", .str "stuck", .str "over", .str "text"]) (.int ((1 : Nat) : Int))) st post ex ↔ post (.str "tree") st := wq_ix_l (atI_nat (j := 1) rfl)
    simp at hix
    simp [hix]
    exact hp
  | order =>
    simp [startS]
    iterate 8 ((first | rw [key (v := true) (by decide)] | rw [key (v := false) (by decide)]); simp)
    rw [wq_count_l (by simp) (by simp)]
    simp [toPyL, toPy, PyData.eqv]
    iterate 2 ((first | rw [key (v := true) (by decide)] | rw [key (v := false) (by decide)]); simp)
    rw [wq_index_l (j := 2) (by simp) (by simp) (by simp [toPyL, toPy, PyData.eqv, List.findIdx?_cons])]
    have hix : ∀ {post : Da → Store → Prop} {ex : Str → List Da → Store → Prop}, Wq (ixD (.lst [.str "number", .str "tree", .str "order", .str "table", .str "place", .str "stuck", .str "over", .str "text"]) (.int ((2 : Nat) : Int))) st post ex ↔ post (.str "order") st := wq_ix_l (atI_nat (j := 2) rfl)
    simp at hix
    simp [hix]
    exact hp
  | table =>
    simp [startS]
    iterate 8 ((first | rw [key (v := true) (by decide)] | rw [key (v := false) (by decide)]); simp)
    rw [wq_count_l (by simp) (by simp)]
    simp [toPyL, toPy, PyData.eqv]
    iterate 2 ((first | rw [key (v := true) (by decide)] | rw [key (v := false) (by decide)]); simp)
    rw [wq_index_l (j := 3) (by simp) (by simp) (by simp [toPyL, toPy, PyData.eqv, List.findIdx?_cons])]
    have hix : ∀ {post : Da → Store → Prop} {ex : Str → List Da → Store → Prop}, Wq (ixD (.lst [.str "number", .str "tree", .str "order", .str "table", .str "place", .str "stuck", .str "over", .str "text"]) (.int ((3 : Nat) : Int))) st post ex ↔ post (.str "table") st := wq_ix_l (atI_nat (j := 3) rfl)
    simp at hix
    simp [hix]
    exact hp
  | stuck =>
    simp [startS]
    iterate 8 ((first | rw [key (v := true) (by decide)] | rw [key (v := false) (by decide)]); simp)
    rw [wq_count_l (by simp) (by simp)]
    simp [toPyL, toPy, PyData.eqv]
    iterate 2 ((first | rw [key (v := true) (by decide)] | rw [key (v := false) (by decide)]); simp)
    rw [wq_index_l (j := 5) (by simp) (by simp) (by simp [toPyL, toPy, PyData.eqv, List.findIdx?_cons])]
    have hix : ∀ {post : Da → Store → Prop} {ex : Str → List Da → Store → Prop}, Wq (ixD (.lst [.str "number", .str "tree", .str "order", .str "table", .str "place", .str "stuck", .str "over", .str "text"]) (.int ((5 : Nat) : Int))) st post ex ↔ post (.str "stuck") st := wq_ix_l (atI_nat (j := 5) rfl)
    simp at hix
    simp [hix]
    exact hp
  | over =>
    simp [startS]
    iterate 8 ((first | rw [key (v := true) (by decide)] | rw [key (v := false) (by decide)]); simp)
    rw [wq_count_l (by simp) (by simp)]
    simp [toPyL, toPy, PyData.eqv]
    iterate 2 ((first | rw [key (v := true) (by decide)] | rw [key (v := false) (by decide)]); simp)
    rw [wq_index_l (j := 6) (by simp) (by simp) (by simp [toPyL, toPy, PyData.eqv, List.findIdx?_cons])]
    have hix : ∀ {post : Da → Store → Prop} {ex : Str → List Da → Store → Prop}, Wq (ixD (.lst [.str "number", .str "tree", .str "order", .str "table", .str "place", .str "stuck", .str "over", .str "text"]) (.int ((6 : Nat) : Int))) st post ex ↔ post (.str "over") st := wq_ix_l (atI_nat (j := 6) rfl)
    simp at hix
    simp [hix]
    exact hp
  | text =>
    simp [startS]
    iterate 8 ((first | rw [key (v := true) (by decide)] | rw [key (v := false) (by decide)]); simp)
    rw [wq_count_l (by simp) (by simp)]
    simp [toPyL, toPy, PyData.eqv]
    iterate 2 ((first | rw [key (v := true) (by decide)] | rw [key (v := false) (by decide)]); simp)
    rw [wq_index_l (j := 7) (by simp) (by simp) (by simp [toPyL, toPy, PyData.eqv, List.findIdx?_cons])]
    have hix : ∀ {post : Da → Store → Prop} {ex : Str → List Da → Store → Prop}, Wq (ixD (.lst [.str "number", .str "tree", .str "order", .str "table", .str "place", .str "stuck", .str "over", .str "text"]) (.int ((7 : Nat) : Int))) st post ex ↔ post (.str "text") st := wq_ix_l (atI_nat (j := 7) rfl)
    simp at hix
    simp [hix]
    exact hp
end
end CL
namespace CL
open PySem L2
section
variable {st : Store} {ex : Str → List Da → Store → Prop} {post : Da → Store → Prop}
theorem Wq.both {A : Type} {m : Mo A} {p p' : A → Store → Prop} {e e' : Str → List Da → Store → Prop} (h : Wq m st p e) (h1 : ∀ a s, p a s → p' a s) (h2 : ∀ c as s, e c as s → e' c as s) : Wq m st p' e' := by
  have h := h.p
  refine ⟨?_⟩
  unfold Wp at h ⊢
  cases q : m st with
  | ok a s => rw [q] at h; exact h1 _ _ h
  | exc c as s => rw [q] at h; exact h2 _ _ _ h
  | bad => rw [q] at h; exact h
theorem wq_is_hn {n : Nat} : Wq (isB false (.han n) .non) st post ex ↔ post (.bl false) st := wq_iff
theorem asked_ok {k one two : Da} (h : Wq (f__law_does [k, one, two]) st post (fun c as s => as = [] ∧ ∃ w, Rf c w ∧ post (.str (Str.ofString w)) (s ++ [.exn c]))) : Wq (f__law_asked [k, one, two]) st post ex := by
  unfold f__law_asked m__law_asked
  simp [startS]
  rw [wq_mTry]
  simp
  refine h.both ?_ ?_
  · intro d s hd
    simp
    exact hd
  · rintro c as s ⟨rfl, w, r, hp⟩
    refine ⟨by cases r <;> simp, rfl, ?_⟩
    rw [wq_is_hn]
    simp
    refine refusal_ok (c := c) (by simp) r ?_
    simp
    exact hp
end
end CL
namespace CL
open PySem L2
theorem pick_ok {t r : Nat} {st : Store} {xs : List Da} (h : Tw t r st) (h1 : xs ≠ []) (h2 : xs.length < 1000000) :
    Wp (f__law_pick [.han t, .lst xs]) st (fun d st' => d ∈ xs ∧ Dr t r st st') noEx := by
  have h3 : 1 ≤ xs.length := by
    cases xs with
    | nil => exact absurd rfl h1
    | cons x r => simp
  unfold f__law_pick m__law_pick
  simp [startS]
  refine (draw_ok h (by omega) (by omega)).mono fun d st' ⟨v, e, v0, v1, hd⟩ => ?_
  subst e
  obtain ⟨x, hx, hm⟩ := atI_mem v0 v1
  rw [wp_ix_l hx]
  exact ⟨hm, hd⟩
end CL
namespace CL
open PySem L2
theorem app_h {n : Nat} {x : Da} {xs : List Da} {st : Store} {ex : Str → List Da → Store → Prop} {post : Da → Store → Prop} (h : st[n]? = some (.lst xs)) (hl : xs.length < 1000000) (hp : post .non (st.set n (.lst (xs ++ [x])))) : Wp (appD (.han n) x) st post ex := (wp_appD h hl).mpr hp
theorem law_chain_ok {t r : Nat} {st : Store} (h : Tw t r st) : Wp (f__law_chain [.han t]) st (fun d st' => IsCh d ∧ Thin d ∧ Dr t r st st') noEx := by
  unfold f__law_chain m__law_chain
  simp [startS, wp_for]
  have hlt := h.lt
  refine (draw_ok h.push (by decide) (by decide)).mono fun d st1 ⟨v, e, v0, v1, hd⟩ => ?_
  subst e
  simp
  have hn : (1 + v).toNat = v.toNat + 1 := by omega
  refine ⟨⟨by omega, by omega⟩, ?_⟩
  refine wp_forI (fun i ro s => (∃ o, ro = [some (.han t), some (.han st.length), o]) ∧ (∃ xs : List Da, s[st.length]? = some (.lst xs) ∧ xs.length = i ∧ ∀ x ∈ xs, IsLink x) ∧ Dr t r st s) ?_ ?_ ?_
  · refine ⟨⟨_, rfl⟩, ⟨[], hd.at (new_at _ _) (by omega) (by omega), rfl, fun x hx => nomatch hx⟩, (Dr.refl h).push.trans hd⟩
  · rintro i x ro s hx ⟨⟨o, rfl⟩, ⟨xs, hxs, hlen, hal⟩, hdr⟩
    obtain ⟨hi, rfl⟩ := rng_get hx
    refine ⟨_, rfl, ?_⟩
    simp
    rw [wp_isLs_h hxs]
    refine (pick_ok hdr.tw (by simp) (by simp)).mono fun d1 s1 ⟨m1, k1⟩ => ?_
    refine (pick_ok k1.tw (by simp) (by simp)).mono fun d2 s2 ⟨m2, k2⟩ => ?_
    refine (draw_ok k2.tw (by decide) (by decide)).mono fun d3 s3 ⟨v3, e3, a3, b3, k3⟩ => ?_
    subst e3
    simp
    have hxs3 : s3[st.length]? = some (.lst xs) := k3.at (k2.at (k1.at hxs (by omega) (by omega)) (by omega) (by omega)) (by omega) (by omega)
    refine app_h hxs3 (by omega) ?_
    refine ⟨⟨_, List.getElem?_set_self (some_lt hxs3), by simp [hlen], fun x hx => ?_⟩, ((hdr.trans k1).trans (k2.trans k3)).set (Nat.le_refl _) h⟩
    rcases List.mem_append.mp hx with hx | hx
    · exact hal x hx
    · rw [List.mem_singleton] at hx
      subst hx
      simp at m1 m2
      refine ⟨d1, ?_⟩
      rcases m2 with rfl | rfl | rfl | rfl <;> refine ⟨_, _, rfl, ?_, by decide, by decide⟩ <;> (rcases m1 with rfl | rfl | rfl | rfl <;> simp)
  · rintro ro s ⟨⟨o, rfl⟩, ⟨xs, hxs, hlen, hal⟩, hdr⟩
    simp
    rw [wp_tuple_h hxs]
    simp [rngL] at hlen
    refine ⟨⟨xs, rfl, ?_, by omega, hal⟩, ⟨xs, rfl, by omega⟩, hdr⟩
    intro z; subst z; simp at hlen; omega
theorem Rows.snoc {b e : Int} {c : Da} : ∀ {a : Int} {rs : List Row}, Rows a rs → (∀ r ∈ rs, r.2.1 ≤ b) → a ≤ b → b < e → e ≤ 100000 → IsCh c → Rows a (rs ++ [(b, e, c)])
  | a, [], _, _, h1, h2, h3, h4 => ⟨h1, h2, h3, h4, trivial⟩
  | a, (b', e', c') :: rs, h, hal, h1, h2, h3, h4 => by
    obtain ⟨k1, k2, k3, k4, k5⟩ := h
    exact ⟨k1, k2, k3, k4, Rows.snoc k5 (fun r hr => hal r (List.mem_cons_of_mem _ hr)) (hal _ (List.mem_cons_self ..)) h2 h3 h4⟩
end CL
namespace CL
open PySem L2
theorem law_table_ok {t r : Nat} {st : Store} (h : Tw t r st) : Wp (f__law_table [.han t]) st (fun d st' => ∃ rs : List Row, d = .lst (rs.map rowD) ∧ Rows 0 rs ∧ rs.length ≤ 8 ∧ (∀ r ∈ rs, Thin r.2.2) ∧ Dr t r st st') noEx := by
  unfold f__law_table m__law_table
  have hlt := h.lt
  simp [startS, wp_for, wp_lComp]
  refine (draw_ok h (by decide) (by decide)).mono fun d s1 ⟨v, e, v0, v1, hd⟩ => ?_
  subst e
  simp
  have hb : big (1 + v) := ⟨by omega, by omega⟩
  refine ⟨hb, ?_⟩
  refine wp_compI (fun i acc s => acc.length = i ∧ (∀ x ∈ acc, IsCh x ∧ Thin x) ∧ Dr t r st s) ⟨rfl, (fun x hx => nomatch hx), hd⟩ (fun i acc s q => by omega) (by simp [rngL]; omega) ?_ ?_
  · rintro i x acc s hx ⟨hl, hal, hdr⟩
    obtain ⟨hi, rfl⟩ := rng_get hx
    refine ⟨_, rfl, ?_⟩
    simp
    refine (law_chain_ok hdr.tw).mono fun d2 s2 ⟨hc, hth, k2⟩ => ?_
    refine ⟨by omega, fun x hx => ?_, hdr.trans k2⟩
    rcases hx with hx | rfl
    · exact hal x hx
    · exact ⟨hc, hth⟩
  rintro acc s2 ⟨hacc, hal, hd2⟩
  have hacc2 : 1 ≤ acc.length ∧ acc.length ≤ 3 := by simp [rngL] at hacc; omega
  have hne : acc ≠ [] := by intro z; subst z; simp at hacc2
  have hge : st.length ≤ s2.length := hd2.kp.1
  refine (draw_ok hd2.tw.push (by decide) (by decide)).mono fun d s3 ⟨v', e, v0', v1', hd3⟩ => ?_
  subst e
  simp
  refine ⟨⟨by omega, by omega⟩, ?_⟩
  refine wp_forI (fun i ro s => ∃ (a : Int) (o1 o2 : Option Da) (rs : List Row), ro = [some (.han t), some (.lst acc), some (.han s2.length), some (.int a), o1, o2] ∧ s[s2.length]? = some (.lst (rs.map rowD)) ∧ rs.length = i ∧ Rows 0 rs ∧ (∀ r ∈ rs, r.2.1 ≤ a ∧ Thin r.2.2) ∧ 0 ≤ a ∧ a ≤ i * 6000 ∧ Dr t r st s) ?_ ?_ ?_
  · refine ⟨0, _, _, [], rfl, hd3.at (new_at _ _) (by omega) (by omega), rfl, trivial, (fun r hr => nomatch hr), by decide, by decide, hd2.push.trans hd3⟩
  · rintro i x ro s hx ⟨a, o1, o2, rs, rfl, hrs, hlen, hR, hle, ha0, ha1, hdr⟩
    obtain ⟨hi, rfl⟩ := rng_get hx
    refine ⟨_, rfl, ?_⟩
    simp
    refine (draw_ok hdr.tw (by decide) (by decide)).mono fun d4 s4 ⟨v4, e4, a4, b4, k4⟩ => ?_
    subst e4
    try simp
    refine (pick_ok k4.tw (by simp) (by simp)).mono fun d5 s5 ⟨m5, k5⟩ => ?_
    have ⟨v5, e5, a5, b5⟩ : ∃ v5 : Int, d5 = .int v5 ∧ 0 ≤ v5 ∧ v5 < 3000 := by
      simp at m5
      rcases m5 with rfl | rfl | rfl | rfl | rfl | rfl <;> exact ⟨_, rfl, by omega, by omega⟩
    subst e5
    try simp
    refine (draw_ok k5.tw (by decide) (by decide)).mono fun d6 s6 ⟨v6, e6, a6, b6, k6⟩ => ?_
    subst e6
    try simp
    refine (pick_ok k6.tw (by simp) (by simp)).mono fun d7 s7 ⟨m7, k7⟩ => ?_
    have ⟨v7, e7, a7, b7⟩ : ∃ v7 : Int, d7 = .int v7 ∧ 0 ≤ v7 ∧ v7 < 3000 := by
      simp at m7
      rcases m7 with rfl | rfl | rfl | rfl | rfl <;> exact ⟨_, rfl, by omega, by omega⟩
    subst e7
    try simp
    have kk := (k4.trans k5).trans (k6.trans k7)
    have h7 := kk.at hrs (by omega) (by omega)
    rw [wp_isLs_h h7]
    refine (pick_ok k7.tw hne (by omega)).mono fun d8 s8 ⟨m8, k8⟩ => ?_
    have h8 := k8.at h7 (by omega) (by omega)
    refine app_h h8 (by simp; omega) ?_
    refine ⟨rs ++ [(a + v5, a + v5 + 1 + v7, d8)], ?_, by simp [hlen], ?_, ?_, by omega, by omega, (hdr.trans (kk.trans k8)).set hge h⟩
    · rw [List.getElem?_set_self (some_lt h8), List.map_append]
      rfl
    · exact Rows.snoc hR (fun r hr => by have := (hle r hr).1; omega) (by omega) (by omega) (by omega) (hal _ m8).1
    · intro b' e' c' hm
      rcases List.mem_append.mp hm with hm | hm
      · have := hle _ hm
        simp at this
        exact ⟨by omega, this.2⟩
      · rw [List.mem_singleton] at hm
        cases hm
        exact ⟨by omega, (hal _ m8).2⟩
  · rintro ro s ⟨a, o1, o2, rs, rfl, hrs, hlen, hR, hle, ha0, ha1, hdr⟩
    simp
    rw [wp_fz hrs]
    have hlen2 : rs.length = v'.toNat := by rw [hlen]; simp [rngL]
    simp at hle
    exact ⟨rs, rfl, hR, by omega, fun b1 b2 b3 hr => (hle b1 b2 b3 hr).2, hdr.set hge h⟩
end CL
namespace CL
open PySem L2
section
variable {st : Store} {ex : Str → List Da → Store → Prop} {post : Da → Store → Prop}
/-- what the law takes for a table and is none -/
inductive BadT : Da → Prop
  | non : BadT .non
  | five : BadT (.int 5)
  | b1 : BadT (.lst [.tup [.int 1, .int 1, .tup [.tup [.non, .int 0, .bl false]]]])
  | b2 : BadT (.lst [.tup [.int 0, .int 1, .tup []]])
  | b3 : BadT (.tup [.tup [.int 0, .int 1]])
  | b4 : BadT (.lst [.tup [.int 0, .int 2, .tup [.tup [.int 9, .int 0, .bl false]]]])
end
end CL
namespace CL
open PySem L2
section
variable {st : Store} {ex : Str → List Da → Store → Prop} {post : Da → Store → Prop}
theorem wq_ex {m : Mo Da} {c : Str} {as : List Da} {s : Store} (e : m st = .exc c as s) (hp : ex c as s) : Wq m st post ex := ⟨by unfold Wp; rw [e]; exact hp⟩
theorem asked_bad {k : Int} {d e : Da} (hp : post (.str "table") (st ++ [.exn "BadTable"])) (h : f__law_does [.int k, d, e] st = .exc "BadTable" [] st) : Wq (f__law_asked [.int k, d, e]) st post ex :=
  asked_ok (wq_ex h ⟨rfl, "table", .table, hp⟩)
theorem bad0 {d : Da} (h : BadT d) : f__law_does [.int 0, d, .int 0] st = .exc "BadTable" [] st := by cases h <;> rfl
theorem bad1 {d : Da} (h : BadT d) : f__law_does [.int 1, d, .lst []] st = .exc "BadTable" [] st := by cases h <;> rfl
theorem bad1' {d : Da} (h : BadT d) : f__law_does [.int 1, .lst [], d] st = .exc "BadTable" [] st := by cases h <;> rfl
theorem bad2 {d : Da} (h : BadT d) : f__law_does [.int 2, d, .lst []] st = .exc "BadTable" [] st := by cases h <;> rfl
theorem bad2' {d : Da} (h : BadT d) : f__law_does [.int 2, .lst [], d] st = .exc "BadTable" [] st := by cases h <;> rfl
theorem bad3 {d : Da} (h : BadT d) : f__law_does [.int 3, d, .int 0] st = .exc "BadTable" [] st := by cases h <;> rfl
theorem bad4 {d : Da} (h : BadT d) : f__law_does [.int 4, d, .int 9] st = .exc "BadTable" [] st := by cases h <;> rfl
end
end CL
namespace CL
open PySem L2
section
variable {st : Store} {ex : Str → List Da → Store → Prop} {post : Da → Store → Prop}
/-- no numbers of the told kind -/
inductive BadN : Da → Prop
  | neg : BadN (.int (-1))
  | far : BadN (.int 100001)
  | bl : BadN (.bl true)
  | non : BadN .non
  | str : BadN (.str "1")
inductive BadK : Da → Prop
  | five : BadK (.int 5)
  | neg : BadK (.int (-1))
  | bl : BadK (.bl true)
  | non : BadK .non
theorem badK {d : Da} (h : BadK d) : f__law_does [.int 4, .tup [], d] st = .exc "BadNumber" [] st := by cases h <;> rfl
theorem badE1 : f__law_does [.int 4, .tup [.tup [.non, .int 5]], .int 0] st = .exc "BadTable" [] st := rfl
theorem badE2 : f__law_does [.int 4, .int 5, .int 9] st = .exc "BadTable" [] st := rfl
theorem badN_whole {d : Da} (h : BadN d) : f_is_whole [d, .int 0, .int 100000] st = .ok (.bl false) st := by cases h <;> rfl
theorem asked_num {k : Int} {d e : Da} (hp : post (.str "number") (st ++ [.exn "BadNumber"])) (h : f__law_does [.int k, d, e] st = .exc "BadNumber" [] st) : Wq (f__law_asked [.int k, d, e]) st post ex :=
  asked_ok (wq_ex h ⟨rfl, "number", .number, hp⟩)
end
end CL
namespace CL
open PySem L2
section
variable {A B : Type} {st : Store} {ex : Str → List Da → Store → Prop}
variable {a b c v o i' : Sl → Mo Da} {p q : Sl → Mo Bool} {al kl : Sl → Mo (List Da)} {ro : Sl} {post : Da → Store → Prop} {postB : Bool → Store → Prop} {postL : List Da → Store → Prop} {postF : Fl → Store → Prop} {postS : Src → Store → Prop} {postU : Unit → Store → Prop} {m n : Sl → Mo Fl}
@[simp] theorem wq_iE : Wq (iE al ro) st postS ex ↔ Wq (al ro) st (kb srcE postS ex) ex := wq_bnd
@[simp] theorem wq_iZ : Wq (iZ al ro) st postS ex ↔ Wq (al ro) st (kb srcZ postS ex) ex := wq_bnd
@[simp] theorem wq_iEZ : Wq (iEZ al ro) st postS ex ↔ Wq (al ro) st (kb srcEZ postS ex) ex := wq_bnd
@[simp] theorem wq_srcE {xs : List Da} : Wq (srcE [.lst xs]) st postS ex ↔ postS ⟨enumL 0 xs, none⟩ st := wq_iff
@[simp] theorem wq_srcZ {xs ys : List Da} : Wq (srcZ [.lst xs, .lst ys]) st postS ex ↔ postS ⟨zipL xs ys, none⟩ st := wq_iff
@[simp] theorem wq_srcEZ {xs ys : List Da} : Wq (srcEZ [.lst xs, .lst ys]) st postS ex ↔ postS ⟨enumL 0 (zipL xs ys), none⟩ st := wq_iff
@[simp] theorem wq_mPar3 {i j k : Nat} : Wq (mPar3 i j k al ro) st postF ex ↔ Wq (al ro) st (kb (fun ds => match ds with | [d, e, f] => ret (Fl.nx (((ro.set i (some d)).set j (some e)).set k (some f))) | _ => nop) postF ex) ex := by
  unfold mPar3
  exact wq_bnd
@[simp] theorem wq_mFlds2 {cs1 cs2 : List Str} {f1 f2 : Str} : Wq (mFlds2 cs1 f1 a cs2 f2 b al ro) st postF ex ↔ Wq (al ro) st (kb (fun xs => match xs with | [x, y] => bnd (a ro) fun p => bnd (setFD cs1 f1 p x) fun _ => bnd (b ro) fun q => bnd (setFD cs2 f2 q y) fun _ => ret (.nx ro) | _ => nop) postF ex) ex := by
  unfold mFlds2
  rw [wq_bnd, wq_eTup]
  rw [wq_iff, wq_iff]
  refine Wp.congr fun xs s1 => ?_
  rw [kb_app, kb_app]
  by_cases h : xs.length ≤ 1000
  · rw [if_pos h, wq_ret, kb_app]
    match xs with
    | [] => exact Iff.rfl
    | [_] => exact Iff.rfl
    | [_, _] => exact Iff.rfl
    | _ :: _ :: _ :: _ => exact Iff.rfl
  · rw [if_neg h]
    match xs, h with
    | [], h => exact absurd (by simp) h
    | [_], h => exact absurd (by simp) h
    | [_, _], h => exact absurd (by simp) h
    | _ :: _ :: _ :: _, h => simp
@[simp] theorem wq_mFldAug {cl f : Str} {g : Int → Int → Int} : Wq (mFldAug cl f g a b ro) st postF ex ↔ Wq (a ro) st (kb (fun d => bnd (fldD [cl] f d) fun x => bnd (b ro) fun y => match x, y with | .int p, .int q => bnd (setFD [cl] f d (.int (g p q))) fun _ => ret (.nx ro) | _, _ => nop) postF ex) ex := wq_bnd
@[simp] theorem wq_mAugI {f : Int → Int → Int} : Wq (mAugI a b f c ro) st postF ex ↔ Wq (a ro) st (kb (fun d => bnd (b ro) fun k => bnd (getL d k) fun x => bnd (c ro) fun y => match x, y with | .int p, .int q => bnd (setD d k (.int (f p q))) fun _ => ret (.nx ro) | _, _ => nop) postF ex) ex := wq_bnd
@[simp] theorem wq_eDict : Wq (eDict ro) st post ex ↔ post (.han st.length) (st ++ [.dK []]) := wq_iff
@[simp] theorem wq_mPutK : Wq (mPutK v o i' ro) st postF ex ↔ Wq (v ro) st (kb (fun x => bnd (o ro) fun d => bnd (i' ro) fun k => bnd (setK d k x) fun _ => ret (.nx ro)) postF ex) ex := wq_bnd
@[simp] theorem wq_eFF : Wq (eFF a ro) st post ex ↔ Wq (a ro) st (kb fzO post ex) ex := wq_bnd
theorem intsOf_mp : ∀ is : List Int, intsOf (is.map Da.int) = some is
  | [] => rfl
  | i :: r => by
    have h := intsOf_mp r
    simp only [List.map_cons]
    unfold intsOf
    rw [h]; rfl
theorem wq_max1 {xs : List Da} {is : List Int} (h : xs = is.map Da.int) (hm : is ≠ []) : Wq (max1 (.lst xs)) st post ex ↔ post (.int (maxL is)) st := by
  subst h
  rw [wq_iff]
  unfold Wp max1 lsI
  simp [lsOf, intsOf_mp, hm]
end
end CL
namespace CL
open PySem L2
def law27_13 (g__law_town g__law_table g__law_draw g__law_pick g__law_asked g_joined : List Da → Mo Da) : Sl → Mo Fl := (mRet (vAnd (e2 eqD (eCall (fun ds => ar 3 g__law_asked (ds ++ [])) (aCons (eC (.int 4)) (aCons (eTup (aCons (eTup (aCons (eC (.non)) (aCons (eC (.int 5)) aNil))) aNil)) (aCons (eC (.int 0)) aNil)))) (eC (.str "table"))) (vAnd (e2 eqD (eCall (fun ds => ar 2 g_joined (ds ++ [])) (aCons (eL (lDisp aNil)) (aCons (eVar 2) aNil))) (eVar 2)) (e2 eqD (eCall (fun ds => ar 3 g__law_asked (ds ++ [])) (aCons (eC (.int 4)) (aCons (eC (.int 5)) (aCons (eC (.int 9)) aNil)))) (eC (.str "table"))))))
def law27_12 (g__law_town g__law_table g__law_draw g__law_pick g__law_asked g_joined : List Da → Mo Da) : Sl → Mo Fl := (mSeq (mFor (iV (eL (lDisp (aCons (eC (.non)) (aCons (eC (.int 5)) (aCons (eL (lDisp (aCons (eTup (aCons (eC (.int 1)) (aCons (eC (.int 1)) (aCons (eTup (aCons (eTup (aCons (eC (.non)) (aCons (eC (.int 0)) (aCons (eC (.bl false)) aNil)))) aNil)) aNil)))) aNil))) (aCons (eL (lDisp (aCons (eTup (aCons (eC (.int 0)) (aCons (eC (.int 1)) (aCons (eTup aNil) aNil)))) aNil))) (aCons (eTup (aCons (eTup (aCons (eC (.int 0)) (aCons (eC (.int 1)) aNil))) aNil)) (aCons (eL (lDisp (aCons (eTup (aCons (eC (.int 0)) (aCons (eC (.int 2)) (aCons (eTup (aCons (eTup (aCons (eC (.int 9)) (aCons (eC (.int 0)) (aCons (eC (.bl false)) aNil)))) aNil)) aNil)))) aNil))) aNil))))))))) (gN 10) (mSeq (mIf (tst (e2 neD (eL (lDisp (aCons (eCall (fun ds => ar 3 g__law_asked (ds ++ [])) (aCons (eC (.int 0)) (aCons (eVar 10) (aCons (eC (.int 0)) aNil)))) (aCons (eCall (fun ds => ar 3 g__law_asked (ds ++ [])) (aCons (eC (.int 1)) (aCons (eVar 10) (aCons (eL (lDisp aNil)) aNil)))) (aCons (eCall (fun ds => ar 3 g__law_asked (ds ++ [])) (aCons (eC (.int 1)) (aCons (eL (lDisp aNil)) (aCons (eVar 10) aNil)))) (aCons (eCall (fun ds => ar 3 g__law_asked (ds ++ [])) (aCons (eC (.int 2)) (aCons (eVar 10) (aCons (eL (lDisp aNil)) aNil)))) (aCons (eCall (fun ds => ar 3 g__law_asked (ds ++ [])) (aCons (eC (.int 2)) (aCons (eL (lDisp aNil)) (aCons (eVar 10) aNil)))) aNil))))))) (eL (l2 repL (eL (lDisp (aCons (eC (.str "table")) aNil))) (eC (.int 5)))))) (mRet (eC (.bl false))) mNil) (mIf (tOr_ (tst (e2 neD (eCall (fun ds => ar 3 g__law_asked (ds ++ [])) (aCons (eC (.int 3)) (aCons (eVar 10) (aCons (eC (.int 0)) aNil)))) (eC (.str "table")))) (tst (e2 neD (eCall (fun ds => ar 3 g__law_asked (ds ++ [])) (aCons (eC (.int 4)) (aCons (eVar 10) (aCons (eC (.int 9)) aNil)))) (eC (.str "table"))))) (mRet (eC (.bl false))) mNil))) (law27_13 g__law_town g__law_table g__law_draw g__law_pick g__law_asked g_joined))
def law27_11 (g__law_town g__law_table g__law_draw g__law_pick g__law_asked g_joined : List Da → Mo Da) : Sl → Mo Fl := (mSeq (mFor (iV (eL (lDisp (aCons (e2 subD (eC (.int 0)) (eC (.int 1))) (aCons (eC (.int 100001)) (aCons (eC (.bl true)) (aCons (eC (.non)) (aCons (eC (.str "1")) aNil)))))))) (gN 10) (mIf (tOr_ (tst (e2 neD (eCall (fun ds => ar 3 g__law_asked (ds ++ [])) (aCons (eC (.int 0)) (aCons (eVar 2) (aCons (eVar 10) aNil)))) (eC (.str "number")))) (tst (e2 neD (eCall (fun ds => ar 3 g__law_asked (ds ++ [])) (aCons (eC (.int 4)) (aCons (eTup aNil) (aCons (eCall (fun ds => ar 2 g__law_pick (ds ++ [])) (aCons (eVar 1) (aCons (eL (lDisp (aCons (eC (.int 5)) (aCons (e2 subD (eC (.int 0)) (eC (.int 1))) (aCons (eC (.bl true)) (aCons (eC (.non)) aNil)))))) aNil))) aNil)))) (eC (.str "number"))))) (mRet (eC (.bl false))) mNil)) (law27_12 g__law_town g__law_table g__law_draw g__law_pick g__law_asked g_joined))
def law27_10 (g__law_town g__law_table g__law_draw g__law_pick g__law_asked g_joined : List Da → Mo Da) : Sl → Mo Fl := (mSeq (mIf (tAnd_ (tst (e2 gtD (eVar 3) (eC (.int 0)))) (tst (e2 neD (eVar 2) (eL (lDisp aNil))))) (mSeq (mSet 12 (eCall (fun ds => ar 1 g__law_table (ds ++ [])) (aCons (eVar 1) aNil))) (mSeq (mSet 13 (vAnd (e2 neD (eVar 12) (eL (lDisp aNil))) (e2 ltD (e2 ixD (e2 ixD (eVar 12) (eC (.int 0))) (eC (.int 0))) (e2 ixD (e2 ixD (eVar 2) (e1 negD (eC (.int 1)))) (eC (.int 1)))))) (mIf (tOr_ (tst (e2 neD (eCall (fun ds => ar 3 g__law_asked (ds ++ [])) (aCons (eC (.int 1)) (aCons (eVar 2) (aCons (eVar 12) aNil)))) (eIf (tst (eVar 13)) (eC (.str "table")) (e2 addD (eVar 2) (eVar 12))))) (tst (e2 neD (eCall (fun ds => ar 2 g_joined (ds ++ [])) (aCons (eVar 2) (aCons (eL (lDisp aNil)) aNil))) (eVar 2)))) (mRet (eC (.bl false))) mNil))) mNil) (law27_11 g__law_town g__law_table g__law_draw g__law_pick g__law_asked g_joined))
def law27_9 (g__law_town g__law_table g__law_draw g__law_pick g__law_asked g_joined : List Da → Mo Da) : Sl → Mo Fl := (mSeq (mIf (tAnd_ (tst (e2 neD (eVar 2) (eL (lDisp aNil)))) (tst (e2 ltD (e2 ixD (e2 ixD (eVar 2) (e1 negD (eC (.int 1)))) (eC (.int 1))) (eC (.int 100000))))) (mSeq (mSet 11 (eL (lDisp (aCons (eTup (aCons (e2 ixD (e2 ixD (eVar 2) (e1 negD (eC (.int 1)))) (eC (.int 1))) (aCons (e2 addD (e2 ixD (e2 ixD (eVar 2) (e1 negD (eC (.int 1)))) (eC (.int 1))) (eC (.int 1))) (aCons (e2 ixD (e2 ixD (eVar 2) (e1 negD (eC (.int 1)))) (eC (.int 2))) aNil)))) aNil)))) (mIf (tst (e2 neD (eCall (fun ds => ar 3 g__law_asked (ds ++ [])) (aCons (eC (.int 1)) (aCons (eVar 2) (aCons (eVar 11) aNil)))) (e2 addD (eVar 2) (eVar 11)))) (mRet (eC (.bl false))) mNil)) mNil) (law27_10 g__law_town g__law_table g__law_draw g__law_pick g__law_asked g_joined))
theorem law27_eq (g__law_town g__law_table g__law_draw g__law_pick g__law_asked g_joined : List Da → Mo Da) : m_law g__law_town g__law_table g__law_draw g__law_pick g__law_asked g_joined = (mSeq (mSet 1 (eCall (fun ds => ar 1 g__law_town (ds ++ [])) (aCons (eVar 0) aNil))) (mSeq (mSet 2 (eCall (fun ds => ar 1 g__law_table (ds ++ [])) (aCons (eVar 1) aNil))) (mSeq (mSet 3 (eCall (fun ds => ar 2 g__law_pick (ds ++ [])) (aCons (eVar 1) (aCons (eL (lDisp (aCons (eC (.int 0)) (aCons (eC (.int 1)) (aCons (eC (.int 1000)) (aCons (eC (.int 90000)) (aCons (eCall (fun ds => ar 2 g__law_draw (ds ++ [])) (aCons (eVar 1) (aCons (eC (.int 1001)) aNil))) aNil))))))) aNil)))) (mSeq (mSet 4 (eCall (fun ds => ar 3 g__law_asked (ds ++ [])) (aCons (eC (.int 0)) (aCons (eVar 2) (aCons (eVar 3) aNil))))) (mSeq (mSet 5 (eH (lDisp aNil))) (mSeq (mFor (iV (eVar 2)) (gT 3 (gsC (gN 6) (gsC (gN 7) (gsC (gN 8) gsN)))) (mExpr (eApp (eVar 5) (eTup (aCons (e2 addD (eVar 6) (eVar 3)) (aCons (e2 addD (eVar 7) (eVar 3)) (aCons (eCall (one tupleD) (aCons (eL (lComp (iV (eVar 8)) (gT 3 (gsC (gN 15) (gsC (gN 16) (gsC (gN 17) gsN)))) tYes_ (eTup (aCons (eVar 15) (aCons (e2 addD (eVar 16) (eVar 3)) (aCons (eVar 17) aNil)))) [15, 16, 17])) aNil)) aNil))))))) (mSeq (mSet 9 (eL (lDisp (aCons (eC (.int 0)) aNil)))) (mSeq (mFor (iV (eVar 5)) (gT 3 (gsC (gN 6) (gsC (gN 7) (gsC (gN 8) gsN)))) (mSet 9 (eL (l2 catL (eL (l2 catL (eVar 9) (eL (lDisp (aCons (eVar 6) (aCons (eVar 7) aNil)))))) (eL (lComp (iV (eVar 8)) (gN 14) tYes_ (e2 ixD (eVar 14) (eC (.int 1))) [14])))))) (mSeq (mIf (tst (e2 neD (eVar 4) (eIf (tst (e2 leD (eCall (one max1) (aCons (eVar 9) aNil)) (eC (.int 100000)))) (eVar 5) (eC (.str "table"))))) (mRet (eC (.bl false))) mNil) (law27_9 g__law_town g__law_table g__law_draw g__law_pick g__law_asked g_joined)))))))))) := rfl
end CL
namespace CL
open PySem L2
section
variable {S : Da} {rs : List Row} {v : Int} {o4 o5 o6 o7 o8 o9 o10 o11 o12 o13 o14 o15 o16 o17 : Option Da} {s : Store}
def tbR (rs : List Row) : Da := .lst (rs.map rowD)
abbrev F27 (g : (List Da → Mo Da) → (List Da → Mo Da) → (List Da → Mo Da) → (List Da → Mo Da) → (List Da → Mo Da) → (List Da → Mo Da) → Sl → Mo Fl) : Sl → Mo Fl := g f__law_town f__law_table f__law_draw f__law_pick f__law_asked f_joined
/-- what is asked of an odd table -/
theorem askT {k : Int} {d e : Da} (h : f__law_does [.int k, d, e] s = .exc "BadTable" [] s) : Wq (f__law_asked [.int k, d, e]) s (fun x s' => x = .str "table" ∧ Kx s s') noEx := by
  refine asked_bad ?_ h
  exact ⟨rfl, Kx.refl.push⟩
theorem askN {k : Int} {d e : Da} (h : f__law_does [.int k, d, e] s = .exc "BadNumber" [] s) : Wq (f__law_asked [.int k, d, e]) s (fun x s' => x = .str "number" ∧ Kx s s') noEx := by
  refine asked_num ?_ h
  exact ⟨rfl, Kx.refl.push⟩
theorem end27 (hR : Rows 0 rs) (hl : rs.length ≤ 8) : Wq (F27 law27_13 [some S, some (.han 1), some (tbR rs), some (.int v), o4, o5, o6, o7, o8, o9, o10, o11, o12, o13, o14, o15, o16, o17]) s (fun f _ => f = .rt (.bl true)) noEx := by
  have p1 : pl 60 (tbR rs) = true := by unfold tbR; rw [pl_lst60]; exact rows_pl hR 56
  unfold F27 law27_13
  simp
  refine (askT badE1).go ?_
  rintro _ s1 ⟨rfl, k1⟩
  simp
  refine joined_ok (rs := []) (vs := rs) trivial hR (by simp; omega) (fun _ => ?_) (fun z => by unfold meetsW at z; cases rs <;> simp at z)
  simp only [List.nil_append, kb_app]
  rw [show Da.lst (rs.map rowD) = tbR rs from rfl]
  simp
  rw [wq_eq p1 p1, deq_refl p1]
  simp
  refine (askT badE2).go ?_
  rintro _ s2 ⟨rfl, k2⟩
  simp
theorem repL_5 {x : Da} {st : Store} {post : List Da → Store → Prop} {ex : Str → List Da → Store → Prop} : Wq (repL (.lst [x]) (.int 5)) st post ex ↔ post [x, x, x, x, x] st := by
  have e : repL (.lst [x]) (.int 5) st = .ok [x, x, x, x, x] st := by kernel_rfl
  rw [wq_iff]; unfold Wp; rw [e]
theorem bads27 (hR : Rows 0 rs) (hl : rs.length ≤ 8) : Wq (F27 law27_12 [some S, some (.han 1), some (tbR rs), some (.int v), o4, o5, o6, o7, o8, o9, o10, o11, o12, o13, o14, o15, o16, o17]) s (fun f _ => f = .rt (.bl true)) noEx := by
  unfold F27 law27_12
  simp
  refine wq_forI (I := fun i ro s' => ∃ o10, ro = [some S, some (.han 1), some (tbR rs), some (.int v), o4, o5, o6, o7, o8, o9, o10, o11, o12, o13, o14, o15, o16, o17]) ⟨_, rfl⟩ ?_ ?_
  · rintro i x ro s' hx ⟨o10, rfl⟩
    have hm := List.mem_of_getElem? hx
    have hb : BadT x := by
      simp only [List.mem_cons, List.not_mem_nil, or_false] at hm
      rcases hm with rfl | rfl | rfl | rfl | rfl | rfl
      · exact .non
      · exact .five
      · exact .b1
      · exact .b2
      · exact .b3
      · exact .b4
    refine ⟨_, rfl, ?_⟩
    simp
    refine (askT (bad0 hb)).go ?_
    rintro _ s1 ⟨rfl, k1⟩
    simp
    refine (askT (bad1 hb)).go ?_
    rintro _ s1 ⟨rfl, k1⟩
    simp
    refine (askT (bad1' hb)).go ?_
    rintro _ s1 ⟨rfl, k1⟩
    simp
    refine (askT (bad2 hb)).go ?_
    rintro _ s1 ⟨rfl, k1⟩
    simp
    refine (askT (bad2' hb)).go ?_
    rintro _ s1 ⟨rfl, k1⟩
    simp [repL_5]
    refine (askT (bad3 hb)).go ?_
    rintro _ s1 ⟨rfl, k1⟩
    simp
    refine (askT (bad4 hb)).go ?_
    rintro _ s1 ⟨rfl, k1⟩
    simp [loopP]
  · rintro ro s' ⟨o10, rfl⟩
    exact end27 hR hl
theorem does_num {x : Da} (hR : Rows 0 rs) (h : BadN x) : Wq (f__law_does [.int 0, tbR rs, x]) s (fun _ _ => False) (fun c as s' => as = [] ∧ c = "BadNumber" ∧ s' = s) := by
  obtain ⟨hW, hin⟩ := RowsW.of hR
  unfold f__law_does m__law_does
  simp [startS, gD_shifted_by, g_shifted_by_]
  unfold f_shifted m_shifted
  simp [startS]
  refine look_ans hW (.inl rfl) (fun _ => ?_) (fun z => by rw [hin] at z; cases z)
  simp
  refine Wq.of (badN_whole h) ?_
  simp
theorem nums27 (ht : Tw 1 0 s) (hR : Rows 0 rs) (hl : rs.length ≤ 8) : Wq (F27 law27_11 [some S, some (.han 1), some (tbR rs), some (.int v), o4, o5, o6, o7, o8, o9, o10, o11, o12, o13, o14, o15, o16, o17]) s (fun f _ => f = .rt (.bl true)) noEx := by
  unfold F27 law27_11
  simp
  refine wq_forI (I := fun i ro s' => Tw 1 0 s' ∧ ∃ o10, ro = [some S, some (.han 1), some (tbR rs), some (.int v), o4, o5, o6, o7, o8, o9, o10, o11, o12, o13, o14, o15, o16, o17]) ⟨ht, _, rfl⟩ ?_ ?_
  · rintro i x ro s' hx ⟨tw, o10, rfl⟩
    have hm := List.mem_of_getElem? hx
    have hb : BadN x := by
      simp only [List.mem_cons, List.not_mem_nil, or_false] at hm
      rcases hm with rfl | rfl | rfl | rfl | rfl
      · exact .neg
      · exact .far
      · exact .bl
      · exact .non
      · exact .str
    refine ⟨_, rfl, ?_⟩
    simp
    refine asked_ok ((does_num hR hb).both (fun _ _ z => z.elim) ?_)
    rintro c as s1 ⟨rfl, rfl, rfl⟩
    refine ⟨rfl, "number", .number, ?_⟩
    simp
    refine (pick_ok tw.push (by simp) (by simp)).go ?_
    rintro y s2 ⟨hy, d2⟩
    have hk : BadK y := by
      simp only [List.mem_cons, List.not_mem_nil, or_false] at hy
      rcases hy with rfl | rfl | rfl | rfl
      · exact .five
      · exact .neg
      · exact .bl
      · exact .non
    simp
    refine (askN (badK hk)).go ?_
    rintro _ s3 ⟨rfl, k3⟩
    simp [loopP]
    exact d2.tw.kx k3
  · rintro ro s' ⟨tw, o10, rfl⟩
    exact bads27 hR hl
theorem ask1 {vs : List Row} (hR : Rows 0 rs) (hV : Rows 0 vs) (hl : rs.length + vs.length ≤ 900000) : Wq (f__law_asked [.int 1, tbR rs, tbR vs]) s (fun d s' => d = (if meetsW rs vs = true then .str "table" else tbR (rs ++ vs)) ∧ Kx s s') noEx := by
  refine asked_ok ?_
  unfold f__law_does m__law_does
  simp [startS]
  refine joined_ok hR hV hl (fun z => ?_) (fun z => ?_)
  · simp only [kb_app, fnE_rt, wq_ret]
    rw [if_neg (by simp [z])]
    exact ⟨rfl, Kx.refl⟩
  · refine ⟨rfl, "table", .table, ?_⟩
    simp [z]
    exact Kx.refl.push
theorem ask0 (hR : Rows 0 rs) (hl : rs.length ≤ 8) (h0 : 0 ≤ v) (h1 : v ≤ 100000) : Wq (f__law_asked [.int 0, tbR rs, .int v]) s (fun d s' => d = (if (rs.map (shR v)).all rowIn = true then .lst (shD v rs) else .str "table") ∧ Kx s s') noEx := by
  refine asked_ok ?_
  unfold f__law_does m__law_does
  simp [startS, gD_shifted_by, g_shifted_by_]
  refine shifted_ok hR (by omega) h0 h1 (fun s' z k => ?_) (fun s' z k => ?_)
  · simp only [kb_app, fnE_rt, wq_ret]
    rw [if_pos z]
    exact ⟨rfl, k⟩
  · refine ⟨rfl, "table", .table, ?_⟩
    rw [if_neg (by simp [z])]
    exact ⟨rfl, k.push⟩
theorem tb_pl (hR : Rows 0 rs) : pl 60 (tbR rs) = true := by unfold tbR; rw [pl_lst60]; exact rows_pl hR 56
theorem ne_nil (hR : Rows 0 rs) {post : Da → Store → Prop} {ex : Str → List Da → Store → Prop} : Wq (eqB true (tbR rs) (.lst [])) s post ex ↔ post (.bl (!rs.isEmpty)) s := by
  rw [wq_ne (tb_pl hR) (by simp)]
  unfold tbR
  rw [deq_lst, deqL_ne]
  cases rs <;> simp
theorem add_tb {vs : List Row} (hl : rs.length + vs.length ≤ 900000) {post : Da → Store → Prop} {ex : Str → List Da → Store → Prop} : Wq (addD (tbR rs) (tbR vs)) s post ex ↔ post (tbR (rs ++ vs)) s := by
  unfold tbR
  rw [wq_iff]
  unfold Wp addD lsOf
  dsimp only
  rw [if_pos (by simp; show rs.length + vs.length ≤ 1000000; omega), List.map_append]
theorem rows_app {vs : List Row} : ∀ {a : Int} {rs : List Row}, Rows a rs → Rows 0 vs → (∀ w, vs.head? = some w → (a ≤ w.1 ∨ rs ≠ []) ∧ (rs ≠ [] → endE rs ≤ w.1)) → 0 ≤ a → Rows a (rs ++ vs)
  | a, [], _, hv, hw, ha => by
    cases vs with
    | nil => trivial
    | cons w vs =>
      obtain ⟨b, e, c⟩ := w
      have := hw _ rfl
      exact ⟨by rcases this.1 with z | z; exact z; exact absurd rfl z, hv.2⟩
  | a, (b, e, c) :: rs, h, hv, hw, ha => by
    obtain ⟨h1, h2, h3, h4, h5⟩ := h
    refine ⟨h1, h2, h3, h4, rows_app h5 hv (fun w hw' => ?_) (by omega)⟩
    have := (hw w hw').2 (by simp)
    cases rs with
    | nil => exact ⟨.inl (by simpa [endE] using this), fun z => absurd rfl z⟩
    | cons q qs => exact ⟨.inr (by simp), fun _ => by simpa [endE] using this⟩
theorem meets_of {vs : List Row} (hm : meetsW rs vs = false) : ∀ w, vs.head? = some w → (0 ≤ w.1 → ((0 : Int) ≤ w.1 ∨ rs ≠ []) ∧ (rs ≠ [] → endE rs ≤ w.1)) := by
  intro w hw h0
  cases vs with
  | nil => simp at hw
  | cons q vs =>
    simp at hw
    subst hw
    refine ⟨.inl h0, fun z => ?_⟩
    unfold meetsW at hm
    cases rs with
    | nil => exact absurd rfl z
    | cons x xs => simpa using hm
theorem rows_joined {vs : List Row} (hR : Rows 0 rs) (hV : Rows 0 vs) (hm : meetsW rs vs = false) : Rows 0 (rs ++ vs) := rows_app hR hV (fun w hw => meets_of hm w hw (by
    cases vs with
    | nil => simp at hw
    | cons q vs =>
      simp at hw
      subst hw
      exact hV.1)) (by decide)
theorem joined0 (hR : Rows 0 rs) (hl : rs.length ≤ 8) : Wq (f_joined [tbR rs, .lst []]) s (fun d s' => d = tbR rs ∧ s = s') noEx := by
  have := joined_ok (rs := rs) (vs := []) (st := s) (post := fun d s' => d = tbR rs ∧ s = s') (ex := noEx) hR trivial (by simp; omega) (fun _ => ⟨by unfold tbR; simp, rfl⟩) (fun z => by simp [meetsW] at z)
  exact this
theorem ix_last {rs : List Row} {r : Row} {post : Da → Store → Prop} {ex : Str → List Da → Store → Prop} : Wq (ixD (tbR (rs ++ [r])) (.int (-1))) s post ex ↔ post (rowD r) s := by
  unfold tbR
  exact wq_ix_l (by rw [List.map_append]; exact atI_end _ _)
theorem ix_fst {rs : List Row} {r : Row} {post : Da → Store → Prop} {ex : Str → List Da → Store → Prop} : Wq (ixD (tbR (r :: rs)) (.int 0)) s post ex ↔ post (rowD r) s := by
  unfold tbR
  exact wq_ix_l0
theorem ix_r0 {r : Row} {post : Da → Store → Prop} {ex : Str → List Da → Store → Prop} : Wq (ixD (rowD r) (.int 0)) s post ex ↔ post (.int r.1) s := wq_ix_t0
theorem ix_r1 {r : Row} {post : Da → Store → Prop} {ex : Str → List Da → Store → Prop} : Wq (ixD (rowD r) (.int 1)) s post ex ↔ post (.int r.2.1) s := wq_ix_t1
theorem ix_r2 {r : Row} {post : Da → Store → Prop} {ex : Str → List Da → Store → Prop} : Wq (ixD (rowD r) (.int 2)) s post ex ↔ post r.2.2 s := wq_ix_t2
theorem meetE {rs vs : List Row} {r : Row} {ro : Sl} {post : Da → Store → Prop} {ex : Str → List Da → Store → Prop} (hV : Rows 0 vs) (h2 : ro[2]? = some (some (tbR (rs ++ [r])))) (h12 : ro[12]? = some (some (tbR vs))) : Wq (vAnd (e2 neD (eVar 12) (eL (lDisp aNil))) (e2 ltD (e2 ixD (e2 ixD (eVar 12) (eC (.int 0))) (eC (.int 0))) (e2 ixD (e2 ixD (eVar 2) (e1 negD (eC (.int 1)))) (eC (.int 1)))) ro) s post ex ↔ post (.bl (meetsW (rs ++ [r]) vs)) s := by
  simp [wq_var h2, wq_var h12, ne_nil hV]
  cases vs with
  | nil => simp [meetsW]
  | cons w vs =>
    have hne : (rs ++ [r]).isEmpty = false := by cases rs <;> rfl
    simp [wq_var h2, wq_var h12, ix_last, ix_fst, ix_r0, ix_r1, meetsW, endE_snoc, hne]
theorem other27 (ht : Tw 1 0 s) (hR : Rows 0 rs) (hl : rs.length ≤ 8) : Wq (F27 law27_10 [some S, some (.han 1), some (tbR rs), some (.int v), o4, o5, o6, o7, o8, o9, o10, o11, o12, o13, o14, o15, o16, o17]) s (fun f _ => f = .rt (.bl true)) noEx := by
  have fin := fun {s o4 o5 o6 o7 o8 o9 o10 o11 o12 o13 o14 o15 o16 o17} (h : Tw 1 0 s) => nums27 (S := S) (v := v) (o4 := o4) (o5 := o5) (o6 := o6) (o7 := o7) (o8 := o8) (o9 := o9) (o10 := o10) (o11 := o11) (o12 := o12) (o13 := o13) (o14 := o14) (o15 := o15) (o16 := o16) (o17 := o17) h hR hl
  unfold F27 at fin ⊢
  unfold law27_10
  have p1 := tb_pl hR
  simp
  by_cases hv : 0 < v
  · simp only [hv, if_true]
    simp [ne_nil hR]
    by_cases hr : rs = []
    · simp [hr] at fin ⊢
      exact fin ht
    · simp [hr]
      refine (law_table_ok ht).go ?_
      rintro _ s1 ⟨vs, rfl, hV, hvl, _, d1⟩
      obtain ⟨rs', r, rfl⟩ : ∃ rs' r, rs = rs' ++ [r] := ⟨rs.dropLast, rs.getLast hr, (List.dropLast_concat_getLast _).symm⟩
      have hU : Da.lst (vs.map rowD) = tbR vs := rfl
      rw [hU]
      simp [-wq_vAnd]
      rw [meetE hV rfl rfl]
      simp
      refine (ask1 hR hV (by omega)).go ?_
      rintro _ s2 ⟨rfl, k2⟩
      have tw2 := d1.tw.kx k2
      generalize hm : meetsW (rs' ++ [r]) vs = m
      cases m with
      | true =>
        simp
        refine (joined0 hR hl).go ?_
        rintro _ _ ⟨rfl, rfl⟩
        simp
        rw [wq_ne p1 p1, deq_refl p1]
        simp
        exact fin tw2
      | false =>
        have p2 := tb_pl (rows_joined hR hV hm)
        simp [add_tb (show (rs' ++ [r]).length + vs.length ≤ 900000 by omega)]
        rw [wq_ne (by simpa using p2) (by simpa using p2), deq_refl (by simpa using p2)]
        simp
        refine (joined0 hR hl).go ?_
        rintro _ _ ⟨rfl, rfl⟩
        simp
        rw [wq_ne p1 p1, deq_refl p1]
        simp
        exact fin tw2
  · simp [hv]
    exact fin ht
theorem ne_same (hR : Rows 0 rs) {post : Da → Store → Prop} {ex : Str → List Da → Store → Prop} : Wq (eqB true (tbR rs) (tbR rs)) s post ex ↔ post (.bl false) s := by
  rw [wq_ne (tb_pl hR) (tb_pl hR), deq_refl (tb_pl hR)]
  simp
theorem touch27 (ht : Tw 1 0 s) (hR : Rows 0 rs) (hl : rs.length ≤ 8) : Wq (F27 law27_9 [some S, some (.han 1), some (tbR rs), some (.int v), o4, o5, o6, o7, o8, o9, o10, o11, o12, o13, o14, o15, o16, o17]) s (fun f _ => f = .rt (.bl true)) noEx := by
  have fin := fun {s o4 o5 o6 o7 o8 o9 o10 o11 o12 o13 o14 o15 o16 o17} (h : Tw 1 0 s) => other27 (S := S) (v := v) (o4 := o4) (o5 := o5) (o6 := o6) (o7 := o7) (o8 := o8) (o9 := o9) (o10 := o10) (o11 := o11) (o12 := o12) (o13 := o13) (o14 := o14) (o15 := o15) (o16 := o16) (o17 := o17) h hR hl
  unfold F27 at fin ⊢
  unfold law27_9
  simp [ne_nil hR]
  by_cases hr : rs = []
  · simp [hr] at fin ⊢
    exact fin ht
  · obtain ⟨rs', r, rfl⟩ : ∃ rs' r, rs = rs' ++ [r] := ⟨rs.dropLast, rs.getLast hr, (List.dropLast_concat_getLast _).symm⟩
    simp [ix_last, ix_r1, ix_r2]
    have hm := Rows.mem hR (by decide) r (by simp)
    by_cases hz : r.2.1 < 100000
    · simp [hz, ix_last, ix_r1, ix_r2]
      have hT : Rows 0 [(r.2.1, r.2.1 + 1, r.2.2)] := ⟨by show (0 : Int) ≤ r.2.1; omega, by show r.2.1 < r.2.1 + 1; omega, by show r.2.1 + 1 ≤ 100000; omega, hm.2.2.2, trivial⟩
      have hU : Da.lst [.tup [.int r.2.1, .int (r.2.1 + 1), r.2.2]] = tbR [(r.2.1, r.2.1 + 1, r.2.2)] := rfl
      rw [hU]
      have hmt : meetsW (rs' ++ [r]) [(r.2.1, r.2.1 + 1, r.2.2)] = false := by simp [meetsW, endE_snoc]
      refine (ask1 hR hT (by simp at hl ⊢; omega)).go ?_
      rintro _ s2 ⟨rfl, k2⟩
      rw [if_neg (by simp [hmt])]
      have hJ := rows_joined hR hT hmt
      have ha : ∀ {s : Store} {post : Da → Store → Prop} {ex : Str → List Da → Store → Prop}, Wq (addD (tbR (rs' ++ [r])) (tbR [(r.2.1, r.2.1 + 1, r.2.2)])) s post ex ↔ post (tbR (rs' ++ [r] ++ [(r.2.1, r.2.1 + 1, r.2.2)])) s := fun {s post ex} => add_tb (by simp at hl ⊢; omega)
      simp [ha, -List.append_assoc, ne_same hJ]
      exact fin (ht.kx k2)
    · simp [hz]
      exact fin ht
/-- how far all reaches -/
def farI (rs : List Row) : List Int := rs.flatMap fun r => r.1 :: r.2.1 :: (match r.2.2 with | .tup xs => xs.map fun x => (match x with | .tup [_, .int b, _] => b | _ => 0) | _ => [])
theorem maxL_le {is : List Int} (h : is ≠ []) {n : Int} : maxL is ≤ n ↔ ∀ i ∈ is, i ≤ n := by
  obtain ⟨h1, h2⟩ := maxL_is h
  exact ⟨fun z i hi => Int.le_trans (h2 i hi) z, fun z => z _ h1⟩
theorem rowsW_pl : ∀ {a : Int} {rs : List Row}, RowsW a rs → plL 59 (rs.map rowD) = true
  | _, [], _ => by simp
  | a, (b, e, c) :: rs, h => by
    obtain ⟨h1, h2, ⟨xs, rfl, hne, hx⟩, h4⟩ := h
    have ih := rowsW_pl h4
    have : plL 57 xs = true := by
      rw [plL_all, List.all_eq_true]
      exact fun x hm => pl_le _ _ _ (by decide) (hx x hm).pl
    simp [rowD, pl, plL, this]
    simpa using ih
theorem farI_snoc {rs : List Row} {b e : Int} {xs : List Da} : farI (rs ++ [(b, e, .tup xs)]) = farI rs ++ ([b, e] ++ xs.map fun x => (match x with | .tup [_, .int b, _] => b | _ => 0)) := by simp [farI]
theorem farI_len {v : Int} : ∀ {rs : List Row}, (∀ r ∈ rs, ∃ xs, r.2.2 = .tup xs ∧ xs.length ≤ 1000) → (farI (rs.map (shR v))).length ≤ rs.length * 1002
  | [], _ => by simp [farI]
  | (b, e, c) :: rs, h => by
    obtain ⟨xs, hc, hl⟩ := h (b, e, c) (by simp)
    dsimp only at hc
    subst hc
    have ih := farI_len (v := v) (rs := rs) (fun r hr => h r (List.mem_cons_of_mem _ hr))
    simp [farI] at ih ⊢
    simp [shR, shC]
    omega
theorem far_in : ∀ {a : Int} {rs : List Row}, RowsW a rs → ((∀ i ∈ farI rs, i ≤ 100000) ↔ rs.all rowIn = true)
  | _, [], _ => by simp [farI]
  | a, (b, e, c) :: rs, h => by
    obtain ⟨h1, h2, ⟨xs, rfl, hne, hx⟩, h4⟩ := h
    have ih := far_in h4
    have e1 : farI ((b, e, .tup xs) :: rs) = b :: e :: (xs.map fun x => (match x with | .tup [_, .int b, _] => b | _ => 0)) ++ farI rs := by simp [farI]
    rw [e1, List.all_cons, Bool.and_eq_true, ← ih]
    constructor
    · intro hh
      refine ⟨?_, fun i hi => hh i (by simp [hi])⟩
      have he := hh e (by simp)
      simp only [rowIn, Bool.and_eq_true, decide_eq_true_eq, List.all_eq_true]
      refine ⟨he, fun x hm => ?_⟩
      obtain ⟨a', b', c', rfl, _⟩ := hx x hm
      have := hh b' (by
        rw [List.mem_append]
        left
        refine List.mem_cons_of_mem _ (List.mem_cons_of_mem _ (List.mem_map.mpr ⟨_, hm, rfl⟩)))
      simpa [inR] using this
    · rintro ⟨hr, hh⟩ i hi
      simp only [rowIn, Bool.and_eq_true, decide_eq_true_eq, List.all_eq_true] at hr
      rw [List.mem_append] at hi
      rcases hi with hi | hi
      · simp only [List.mem_cons, List.mem_map] at hi
        rcases hi with rfl | rfl | ⟨x, hm, rfl⟩
        · have := hr.1; omega
        · exact hr.1
        · obtain ⟨a', b', c', rfl, _⟩ := hx x hm
          have := hr.2 _ hm
          simpa [inR] using this
      · exact hh i hi
end
theorem law_true (ns : List Int) (hl : ns.length ≤ 63) : ∃ st, f_law [.fro (ns.map Da.int)] [] = .ok (.bl true) st := by
  suffices h : Wq (f_law [.fro (ns.map Da.int)]) [] (fun d _ => d = .bl true) noEx by
    obtain ⟨d, st, h1, rfl⟩ := h.p.out
    exact ⟨st, h1⟩
  unfold f_law
  rw [law27_eq]
  simp [startS]
  refine (town_ok ns).go fun d s ⟨e, ht⟩ => ?_
  subst e
  simp
  refine (law_table_ok ht).go ?_
  rintro _ s1 ⟨rs, rfl, hR, hrl, hth, d1⟩
  simp
  refine (draw_ok d1.tw (by decide) (by decide)).go ?_
  rintro _ s2 ⟨w, rfl, w0, w1, d2⟩
  simp
  refine (pick_ok d2.tw (by simp) (by simp)).go ?_
  rintro y s3 ⟨hy, d3⟩
  obtain ⟨v, rfl, v0, v1⟩ : ∃ v : Int, y = .int v ∧ 0 ≤ v ∧ v ≤ 90000 := by
    simp only [List.mem_cons, List.not_mem_nil, or_false] at hy
    rcases hy with rfl | rfl | rfl | rfl | rfl
    · exact ⟨_, rfl, by decide, by decide⟩
    · exact ⟨_, rfl, by decide, by decide⟩
    · exact ⟨_, rfl, by decide, by decide⟩
    · exact ⟨_, rfl, by decide, by decide⟩
    · exact ⟨_, rfl, by omega, by omega⟩
  simp
  refine (ask0 hR hrl v0 (by omega)).go ?_
  rintro T s4 ⟨hT, k4⟩
  have tw4 := d3.tw.kx k4
  simp
  obtain ⟨q, hq⟩ : ∃ q, q = s4.length := ⟨_, rfl⟩
  rw [← hq]
  have lt4 := tw4.lt
  have hq0 : (s4 ++ [Cell.lst []])[q]? = some (.lst (shD v (rs.take 0))) := by rw [hq]; simp [shD]
  have tw5 : Tw 1 0 (s4 ++ [Cell.lst []]) := tw4.push
  generalize s4 ++ [Cell.lst []] = s5 at hq0 tw5 ⊢
  refine wq_forI (I := fun i ro s => Tw 1 0 s ∧ s[q]? = some (.lst (shD v (rs.take i))) ∧ ∃ o6 o7 o8 o9 o10 o11 o12 o13 o14 o15 o16 o17, ro = [some (.fro (ns.map Da.int)), some (.han 1), some (tbR rs), some (.int v), some T, some (.han q), o6, o7, o8, o9, o10, o11, o12, o13, o14, o15, o16, o17]) ⟨tw5, hq0, _, _, _, _, _, _, _, _, _, _, _, _, rfl⟩ ?_ ?_
  · rintro i x ro s hx ⟨tw, hqs, o6, o7, o8, o9, o10, o11, o12, o13, o14, o15, o16, o17, rfl⟩
    rw [List.getElem?_map] at hx
    obtain ⟨⟨b, e, c⟩, hr, rfl⟩ := Option.map_eq_some_iff.mp hx
    obtain ⟨hi, he⟩ := List.getElem?_eq_some_iff.mp hr
    obtain ⟨_, _, _, ⟨xs, hc, hne, hxl, hxs⟩⟩ := Rows.mem hR (by decide) _ (List.mem_of_getElem? hr)
    dsimp only at hc
    subst hc
    refine ⟨_, rfl, ?_⟩
    simp
    rw [wq_isLs_h hqs]
    simp [wipeS]
    refine comp_sh (v := v) hxs (by omega) ?_ ?_ ?_ ?_ ?_
    · intros; rfl
    · intros; rfl
    · intros; rfl
    · intros; rfl
    simp
    rw [wq_appD hqs (by rw [shD_len]; simp; omega)]
    simp [loopP]
    refine ⟨tw.set (by omega) (by omega), ?_⟩
    rw [List.getElem?_set_self (some_lt hqs), List.take_succ_eq_append_getElem hi, he, shD_snoc]
    rfl
  rintro ro s ⟨tw, hqs, o6, o7, o8, o9, o10, o11, o12, o13, o14, o15, o16, o17, rfl⟩
  rw [List.length_map, List.take_length] at hqs
  simp
  have hW := shR_rows v0 hR (a' := 0) (by omega)
  refine wq_forLs (xs := shD v rs) (.inr ⟨q, rfl, hqs⟩) (I := fun i ro s' => s' = s ∧ ∃ o6 o7 o8 o14, ro = [some (.fro (ns.map Da.int)), some (.han 1), some (tbR rs), some (.int v), some T, some (.han q), o6, o7, o8, some (.lst ((0 :: farI ((rs.take i).map (shR v))).map Da.int)), o10, o11, o12, o13, o14, o15, o16, o17]) ⟨rfl, _, _, _, _, by rfl⟩ (fun i ro s' z => by rw [z.1]; exact .inr ⟨q, rfl, hqs⟩) ?_ ?_
  · rintro i x ro s' hx ⟨rfl, o6, o7, o8, o14, rfl⟩
    unfold shD at hx
    rw [List.getElem?_map, List.getElem?_map] at hx
    obtain ⟨r', hr', rfl⟩ := Option.map_eq_some_iff.mp hx
    obtain ⟨⟨b, e, c⟩, hr, rfl⟩ := Option.map_eq_some_iff.mp hr'
    obtain ⟨hi, he⟩ := List.getElem?_eq_some_iff.mp hr
    obtain ⟨_, _, _, ⟨xs, hc, hne, hxl, hxs⟩⟩ := Rows.mem hR (by decide) _ (List.mem_of_getElem? hr)
    dsimp only at hc
    subst hc
    have hlen : (farI ((rs.take i).map (shR v))).length ≤ 8 * 1010 := by
      have := farI_len (v := v) (rs := rs.take i) (fun r hr => by
        obtain ⟨_, _, _, ⟨ys, hc, _, hl, _⟩⟩ := Rows.mem hR (by decide) r (List.mem_of_mem_take hr)
        exact ⟨ys, hc, hl⟩)
      have h2 : (rs.take i).length ≤ 8 := by simp; omega
      omega
    obtain ⟨G, hG⟩ : ∃ G, G = farI ((rs.take i).map (shR v)) := ⟨_, rfl⟩
    have hG2 : farI ((rs.take (i + 1)).map (shR v)) = G ++ ([b + v, e + v] ++ (xs.map (shL v)).map fun x => (match x with | .tup [_, .int b, _] => b | _ => 0)) := by
      rw [List.take_succ_eq_append_getElem hi, he, List.map_append, List.map_cons, List.map_nil]
      show farI (_ ++ [(b + v, e + v, .tup (xs.map (shL v)))]) = _
      rw [farI_snoc, ← hG]
    rw [← hG] at hlen ⊢
    rw [hG2]
    refine ⟨_, rfl, ?_⟩
    simp [shR, shC, rowD]
    rw [wq_catL_l (by simp; omega)]
    simp [wipeS]
    refine wq_compM (rs := xs) (f := shL v) (g := fun x => Da.int (match shL v x with | .tup [_, .int b, _] => b | _ => 0)) (by omega) (fun x hm => ?_) ?_
    · obtain ⟨a', b', c', rfl, _⟩ := hxs x hm
      refine ⟨_, rfl, ?_⟩
      simp [shL]
    · simp
      rw [wq_catL_l (by simp; omega)]
      simp [loopP]
  · rintro ro s' ⟨rfl, o6, o7, o8, o14, rfl⟩
    have e1 : (shD v rs).length = rs.length := shD_len _ _
    rw [e1, List.take_length]
    have hF := far_in hW
    obtain ⟨G, hG⟩ : ∃ G, G = farI (rs.map (shR v)) := ⟨_, rfl⟩
    rw [← hG] at hF ⊢
    simp
    rw [wq_max1 (is := 0 :: G) (by simp) (by simp)]
    simp
    have hcond : maxL (0 :: G) ≤ 100000 ↔ (rs.map (shR v)).all rowIn = true := by
      rw [maxL_le (by simp), ← hF]
      simp
    have fin := fun {o4 o6 o7 o8 o9 o10 o11 o12 o13 o14 o15 o16 o17} => touch27 (S := .fro (ns.map Da.int)) (v := v) (o4 := o4) (o5 := some (.han q)) (o6 := o6) (o7 := o7) (o8 := o8) (o9 := o9) (o10 := o10) (o11 := o11) (o12 := o12) (o13 := o13) (o14 := o14) (o15 := o15) (o16 := o16) (o17 := o17) tw hR hrl
    unfold F27 at fin
    by_cases hin : (rs.map (shR v)).all rowIn = true
    · rw [if_pos hin] at hT
      subst hT
      rw [if_pos (hcond.mpr hin)]
      have hpl : plL 59 (shD v rs) = true := rowsW_pl hW
      have hpl2 : pl 60 (.lst (shD v rs)) = true := by rw [pl_lst60]; exact hpl
      simp
      rw [wq_eqI (pl_is (n := 60) (by decide) hpl2) (han_is (by decide) hqs hpl)]
      have : PyData.eqv (toPy (.lst (shD v rs))) (.list (toPyL (shD v rs))) = true := deq_refl hpl2
      rw [this]
      simp
      refine fin.mono ?_
      rintro f s' rfl
      simp
    · rw [if_neg hin] at hT
      subst hT
      rw [if_neg (fun z => hin (hcond.mp z))]
      simp
      refine fin.mono ?_
      rintro f s' rfl
      simp
end CL
open PySem PySem.W PySem.Calls PyProof.Rows
theorem PySem.Challenge.cw_coldlanes_k27_whole_moved_holds : PySem.Challenge.rw_coldlanes_k27_whole_moved.Holds := by
  w_on; o_law
  refine HandSHeadRun.head_any (r := OpenLaw.row PySem.Challenge.rw_coldlanes_k27_whole_moved) (q := view (OpenLaw.row PySem.Challenge.rw_coldlanes_k27_whole_moved).prog [38]) (H := CL.hk) (ob := CL.hob) (M := 12000) (loose := CL.loose) (d := HandSHeadRun.topDef (OpenLaw.row PySem.Challenge.rw_coldlanes_k27_whole_moved).prog 38) (kwd := []) CL.hob_eq
    (by kernel_rfl) (fun s => by kernel_rfl) CL.hrun (by kernel_rfl) (by kernel_rfl) (by kernel_rfl) (by rfl) (by first | assumption | decide +kernel) (by decide +kernel) ⟨rfl, rfl, rfl, rfl, rfl, by decide +kernel⟩ ?hw ?hc
  case hw => w_witness2
  case hc =>
    refine CL.walkE (l := PySem.Challenge.rw_coldlanes_k27_whole_moved) (n := 63) (k := 8) (x := "script") rfl (by decide) (by kernel_rfl) ⟨rfl, by decide, by decide⟩ ?F
    intro w mg fa h Y G hmg0
    obtain ⟨K, KX, c⟩ := Y
    have T : CL.Tx K mg := CL.tx_of KX G c
    have hmg : mg ("law" : PySem.Str) = some (.ref fa) := by
      have e : (HandSHeadRun.topDef (OpenLaw.row PySem.Challenge.rw_coldlanes_k27_whole_moved).prog 38).name = ("law" : PySem.Str) := by kernel_rfl
      rw [← e]
      exact hmg0
    obtain ⟨hl, fd, F⟩ := T.d_law
    rw [hmg] at hl
    cases hl
    have b := L2.FunD.bindsA (ps := ["script"]) F fun _ _ _ _ _ _ us hl => match us, hl with | [_], _ => rfl
    exact ⟨K, fd, CL.SpOf K 1 CL.f_law, KX, fun s v => b s [v] rfl, fun H a ns hl hO hS => CL.law_start hO hS (CL.law_true ns hl), fun base _ _ => CL.the_law T F⟩
