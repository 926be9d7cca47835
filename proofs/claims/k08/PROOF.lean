import PyProof.Rows.All
import Wide.All
import OpenK.AllK
import Wide.FinOn
import HandS.ForMost
import HandS.ForExc
import HandS.HeadHook1
import HandS.CallSlots
import HandS.TupAny
import HandS.TupLe
import HandS.Deep
import HandS.IsInst
import HandS.Defaults
import HandS.Strs
import HandS.SetFor
import HandS.MakeKwOnly
import HandS.ExcOwn
import KE.KExcIs
import KE.KDictZip
import HandS.Iter
import PyProof.NeKinds
import HandS.Head0
import HandS.Head1
import HandS.Head2
import HandS.HeadEnd
import HandS.HeadHook2
import HandS.HeadHook3
import HandS.HeadHook4
import PySem.Challenge.RW_coldlanes_k08_whole_bytes
import HandS.Style
set_option Elab.async false
set_option linter.all false
set_option maxRecDepth 100000
set_option maxHeartbeats 4000000
namespace CL
open PySem PySem.Spec L2
/-- data without addresses; han: a thing that may change, by its number in the store; fro: the script -/
inductive Da where
  | non | bl (b : Bool) | int (i : Int) | str (s : Str) | tup (xs : List Da) | lst (xs : List Da) | fro (xs : List Da) | han (n : Nat)
inductive Cell where
  | lst (xs : List Da) | ins (c : Str) (fs : List (Str × Da)) | dK (kvs : List (Key × Da)) | exn (c : Str) | dead
abbrev Store := List Cell
/-- a world: where the things stand, what they hold, the heap; pv: lists that are being made -/
structure Wd where
  io : List Addr
  st : Store
  H : Hp
  pv : List Addr
def LiveS (w : Wd) (a : Addr) : Prop := ∃ (n : Nat) (c : Cell), w.io[n]? = some a ∧ w.st[n]? = some c ∧ c ≠ .dead
def Live (w : Wd) (a : Addr) : Prop := a ∈ w.pv ∨ LiveS w a
/-- a list of the written part -/
def KLst (K : PySem.W.Frag) (a : Addr) (xs : List V) : Prop := ∃ (o : Obj) (its : Array Value) (n : Nat), K.lookup a = some o ∧ o.cls = .type "list" ∧ o.dict = none ∧ o.data = .seq its n ∧ its.size ≤ sizeLine ∧ Vals xs its.toList
def FrL (K : PySem.W.Frag) (H : Hp) (a : Addr) (xs : List V) : Prop := (∃ o, H a = some (.frz o (.lst xs))) ∨ KLst K a xs
theorem FrL.sq {K : PySem.W.Frag} {H : Hp} {a : Addr} {xs : List V} (h : FrL K H a xs) : SqL K H a xs := by
  rcases h with h | h
  · exact .inl (.inr h)
  · exact .inr h
mutual
inductive Rep (K : PySem.W.Frag) (w : Wd) : V → Da → Prop
  | non : Rep K w .non .non
  | bl (b : Bool) : Rep K w (.bl b) (.bl b)
  | int (i : Int) : Rep K w (.int i) (.int i)
  | str (s : Str) : Rep K w (.str s) (.str s)
  | tup {a : Addr} {vs : List V} {ds : List Da} : SqT K w.H a vs → RepL K w vs ds → Rep K w (.ref a) (.tup ds)
  | lst {a : Addr} {vs : List V} {ds : List Da} : w.H a = some (.lst vs) → ¬ Live w a → RepL K w vs ds → Rep K w (.ref a) (.lst ds)
  | fro {a : Addr} {vs : List V} {ds : List Da} : FrL K w.H a vs → RepL K w vs ds → Rep K w (.ref a) (.fro ds)
  | han {a : Addr} {n : Nat} : w.io[n]? = some a → Rep K w (.ref a) (.han n)
inductive RepL (K : PySem.W.Frag) (w : Wd) : List V → List Da → Prop
  | nil : RepL K w [] []
  | cons {v : V} {vs : List V} {d : Da} {ds : List Da} : Rep K w v d → RepL K w vs ds → RepL K w (v :: vs) (d :: ds)
end
inductive RepF (K : PySem.W.Frag) (w : Wd) : List (Str × V) → List (Str × Da) → Prop
  | nil : RepF K w [] []
  | cons {f : Str} {v : V} {vs : List (Str × V)} {d : Da} {ds : List (Str × Da)} : Rep K w v d → RepF K w vs ds → RepF K w ((f, v) :: vs) ((f, d) :: ds)
inductive RepK (K : PySem.W.Frag) (w : Wd) : List (Key × V) → List (Key × Da) → Prop
  | nil : RepK K w [] []
  | cons {f : Key} {v : V} {vs : List (Key × V)} {d : Da} {ds : List (Key × Da)} : Rep K w v d → RepK K w vs ds → RepK K w ((f, v) :: vs) ((f, d) :: ds)
/-- a caught error of a class of one's own, at a -/
def XO (cls : Value) (dd : Option Addr) (a : Addr) : HO := .ext fun h => ∃ oe, h.get? a = some oe ∧ Zc cls dd oe ∧ ∃ vs, oe.data = .fields vs
def CellOk (K : PySem.W.Frag) (ga : Str → Addr) (w : Wd) (a : Addr) : Cell → Prop
  | .lst ds => ∃ vs, w.H a = some (.lst vs) ∧ RepL K w vs ds
  | .ins c fs => ∃ dx vfs, w.H a = some (.ins (ga c) dx vfs) ∧ RepF K w vfs fs
  | .dK kvs => ∃ vs, w.H a = some (.dK vs) ∧ RepK K w vs kvs
  | .exn c => w.H a = some (XO (.ref (ga c)) none a)
  | .dead => True
structure Emb (K : PySem.W.Frag) (ga : Str → Addr) (w : Wd) : Prop where
  len : w.io.length = w.st.length
  nd : w.io.Nodup
  dom : ∀ a ∈ w.io, ∃ o, w.H a = some o
  cell : ∀ (n : Nat) (a : Addr) (c : Cell), w.io[n]? = some a → w.st[n]? = some c → CellOk K ga w a c
  pvo : ∀ a ∈ w.pv, a ∉ w.io ∧ ∃ vs, w.H a = some (.lst vs)
structure Ext (w w' : Wd) : Prop where
  io : ∃ t, w'.io = w.io ++ t
  keep : ∀ a o, w.H a = some o → ¬ Live w a → w'.H a = some o ∧ ¬ Live w' a
  pvk : ∀ a ∈ w.pv, a ∈ w'.pv ∧ w'.H a = w.H a
theorem Ext.refl (w : Wd) : Ext w w := ⟨⟨[], by simp⟩, fun _ _ h n => ⟨h, n⟩, fun _ h => ⟨h, rfl⟩⟩
theorem Ext.trans {a b c : Wd} (x : Ext a b) (y : Ext b c) : Ext a c := by
  obtain ⟨t, ht⟩ := x.io
  obtain ⟨u, hu⟩ := y.io
  refine ⟨⟨t ++ u, by rw [hu, ht, List.append_assoc]⟩, fun p o h n => ?_, fun p hp => ?_⟩
  · obtain ⟨h1, n1⟩ := x.keep p o h n
    exact y.keep p o h1 n1
  · obtain ⟨h1, e1⟩ := x.pvk p hp
    obtain ⟨h2, e2⟩ := y.pvk p h1
    exact ⟨h2, e2.trans e1⟩
theorem Ext.at {w w' : Wd} (x : Ext w w') {n : Nat} {a : Addr} (h : w.io[n]? = some a) : w'.io[n]? = some a := by
  obtain ⟨t, ht⟩ := x.io
  rw [ht, List.getElem?_append_left (List.getElem?_eq_some_iff.mp h).1]
  exact h
/-- what is alive is of a kind that changes -/
theorem Emb.live {K : PySem.W.Frag} {ga : Str → Addr} {w : Wd} (m : Emb K ga w) {a : Addr} (h : Live w a) :
    (∃ vs, w.H a = some (.lst vs)) ∨ (∃ C dx fs, w.H a = some (.ins C dx fs)) ∨ (∃ kvs, w.H a = some (.dK kvs)) ∨ ∃ φ, w.H a = some (.ext φ) := by
  rcases h with h | ⟨n, c, h1, h2, h3⟩
  · exact .inl (m.pvo a h).2
  have q := m.cell n a c h1 h2
  cases c with
  | lst ds => obtain ⟨vs, e, _⟩ := q; exact .inl ⟨vs, e⟩
  | ins c fs => obtain ⟨dx, vfs, e, _⟩ := q; exact .inr (.inl ⟨_, dx, vfs, e⟩)
  | dK kvs => obtain ⟨vs, e, _⟩ := q; exact .inr (.inr (.inl ⟨vs, e⟩))
  | exn c => exact .inr (.inr (.inr ⟨_, q⟩))
  | dead => exact absurd rfl h3
theorem Emb.noTup {K : PySem.W.Frag} {ga : Str → Addr} {w : Wd} (m : Emb K ga w) {a : Addr} {vs : List V} (h : w.H a = some (.tup vs)) : ¬ Live w a := fun l => by
  rcases m.live l with ⟨_, e⟩ | ⟨_, _, _, e⟩ | ⟨_, e⟩ | ⟨_, e⟩ <;> rw [h] at e <;> cases e
theorem Emb.noFrz {K : PySem.W.Frag} {ga : Str → Addr} {w : Wd} (m : Emb K ga w) {a : Addr} {o : Obj} {u : HO} (h : w.H a = some (.frz o u)) : ¬ Live w a := fun l => by
  rcases m.live l with ⟨_, e⟩ | ⟨_, _, _, e⟩ | ⟨_, e⟩ | ⟨_, e⟩ <;> rw [h] at e <;> cases e
section
variable {K : PySem.W.Frag} {ga : Str → Addr} {w w' : Wd}
theorem sqT_mono (m : Emb K ga w) (x : Ext w w') {a : Addr} {vs : List V} (h : SqT K w.H a vs) : SqT K w'.H a vs := by
  rcases h with (h | ⟨o, h⟩) | h
  · exact .inl (.inl (x.keep a _ h (m.noTup h)).1)
  · exact .inl (.inr ⟨o, (x.keep a _ h (m.noFrz h)).1⟩)
  · exact .inr h
mutual
theorem Rep.mono (m : Emb K ga w) (x : Ext w w') : ∀ {v : V} {d : Da}, Rep K w v d → Rep K w' v d
  | _, _, .non => .non
  | _, _, .bl b => .bl b
  | _, _, .int i => .int i
  | _, _, .str s => .str s
  | _, _, .tup h r => .tup (sqT_mono m x h) (RepL.mono m x r)
  | _, _, .lst h n r => .lst (x.keep _ _ h n).1 (x.keep _ _ h n).2 (RepL.mono m x r)
  | _, _, .fro h r => .fro (by
      rcases h with ⟨o, h⟩ | h
      · exact .inl ⟨o, (x.keep _ _ h (m.noFrz h)).1⟩
      · exact .inr h) (RepL.mono m x r)
  | _, _, .han h => .han (x.at h)
theorem RepL.mono (m : Emb K ga w) (x : Ext w w') : ∀ {vs : List V} {ds : List Da}, RepL K w vs ds → RepL K w' vs ds
  | _, _, .nil => .nil
  | _, _, .cons h r => .cons (Rep.mono m x h) (RepL.mono m x r)
end
theorem RepF.mono (m : Emb K ga w) (x : Ext w w') : ∀ {vs : List (Str × V)} {ds : List (Str × Da)}, RepF K w vs ds → RepF K w' vs ds
  | _, _, .nil => .nil
  | _, _, .cons h r => .cons (h.mono m x) (r.mono m x)
theorem RepK.mono (m : Emb K ga w) (x : Ext w w') : ∀ {vs : List (Key × V)} {ds : List (Key × Da)}, RepK K w vs ds → RepK K w' vs ds
  | _, _, .nil => .nil
  | _, _, .cons h r => .cons (h.mono m x) (r.mono m x)
theorem RepL.length {vs : List V} {ds : List Da} (r : RepL K w vs ds) : vs.length = ds.length := by
  induction vs generalizing ds with
  | nil => cases r; rfl
  | cons v vs ih => cases r with | cons h t => simp [ih t]
theorem RepL.get : ∀ {vs : List V} {ds : List Da} {i : Nat} {d : Da}, RepL K w vs ds → ds[i]? = some d → ∃ v, vs[i]? = some v ∧ Rep K w v d
  | _, _, i, d, .nil, e => by simp at e
  | _, _, 0, d, .cons h _, e => by simp at e; subst e; exact ⟨_, rfl, h⟩
  | _, _, i + 1, d, .cons _ t, e => by
    obtain ⟨v, h1, h2⟩ := RepL.get (i := i) (d := d) t (by simpa using e)
    exact ⟨v, by simpa using h1, h2⟩
theorem RepL.append : ∀ {vs us : List V} {ds es : List Da}, RepL K w vs ds → RepL K w us es → RepL K w (vs ++ us) (ds ++ es)
  | _, _, _, _, .nil, r => r
  | _, _, _, _, .cons h t, r => .cons h (t.append r)
theorem RepL.set {x : V} {d : Da} (h : Rep K w x d) : ∀ {vs : List V} {ds : List Da} (i : Nat), RepL K w vs ds → RepL K w (vs.set i x) (ds.set i d)
  | _, _, _, .nil => .nil
  | _, _, 0, .cons _ t => .cons h t
  | _, _, i + 1, .cons q t => .cons q (RepL.set h i t)
theorem RepL.take : ∀ {vs : List V} {ds : List Da} (n : Nat), RepL K w vs ds → RepL K w (vs.take n) (ds.take n)
  | _, _, 0, _ => .nil
  | _, _, _ + 1, .nil => .nil
  | _, _, n + 1, .cons r t => .cons r (RepL.take n t)
theorem RepL.drop : ∀ {vs : List V} {ds : List Da} (n : Nat), RepL K w vs ds → RepL K w (vs.drop n) (ds.drop n)
  | _, _, 0, r => r
  | _, _, _ + 1, .nil => .nil
  | _, _, n + 1, .cons _ t => RepL.drop n t
theorem RepL.dropLast : ∀ {vs : List V} {ds : List Da}, RepL K w vs ds → RepL K w vs.dropLast ds.dropLast := fun {vs ds} r => by
  rw [List.dropLast_eq_take, List.dropLast_eq_take, r.length]
  exact r.take _
theorem RepF.lookup : ∀ {vs : List (Str × V)} {ds : List (Str × Da)} {f : Str} {d : Da}, RepF K w vs ds → ds.lookup f = some d → ∃ v, vs.lookup f = some v ∧ Rep K w v d
  | _, _, f, d, .nil, e => by simp at e
  | _, _, f, d, .cons (f := g) h t, e => by
    by_cases q : (f == g) = true
    · simp only [List.lookup, q] at e ⊢
      cases e
      exact ⟨_, rfl, h⟩
    · have q' : (f == g) = false := by simpa using q
      simp only [List.lookup, q'] at e ⊢
      exact RepF.lookup t e
theorem RepF.lookup_none : ∀ {vs : List (Str × V)} {ds : List (Str × Da)} {f : Str}, RepF K w vs ds → ds.lookup f = none → vs.lookup f = none
  | _, _, f, .nil, e => rfl
  | _, _, f, .cons (f := g) h t, e => by
    by_cases q : (f == g) = true
    · simp only [List.lookup, q] at e
      cases e
    · have q' : (f == g) = false := by simpa using q
      simp only [List.lookup, q'] at e ⊢
      exact RepF.lookup_none t e
theorem RepF.length : ∀ {vs : List (Str × V)} {ds : List (Str × Da)}, RepF K w vs ds → vs.length = ds.length
  | _, _, .nil => rfl
  | _, _, .cons _ t => by simp [t.length]
def putD (f : Str) (v : Da) : List (Str × Da) → List (Str × Da)
  | [] => [(f, v)]
  | (g, x) :: r => if g = f then (g, v) :: r else (g, x) :: putD f v r
theorem RepF.put {f : Str} {x : V} {d : Da} (h : Rep K w x d) : ∀ {vs : List (Str × V)} {ds : List (Str × Da)}, RepF K w vs ds → RepF K w (putF f x vs) (putD f d ds)
  | _, _, .nil => .cons h .nil
  | _, _, .cons (f := g) q t => by
    unfold putF putD
    by_cases e : g = f
    · rw [if_pos e, if_pos e]
      exact .cons h t
    · rw [if_neg e, if_neg e]
      exact .cons q (RepF.put h t)
theorem CellOk.mono (m : Emb K ga w) (x : Ext w w') {a : Addr} {c : Cell} (hH : c ≠ .dead → w'.H a = w.H a) (h : CellOk K ga w a c) : CellOk K ga w' a c := by
  cases c with
  | lst ds => obtain ⟨vs, e, r⟩ := h; exact ⟨vs, (hH (by intro z; cases z)).trans e, r.mono m x⟩
  | ins c fs => obtain ⟨dx, vs, e, r⟩ := h; exact ⟨dx, vs, (hH (by intro z; cases z)).trans e, r.mono m x⟩
  | dK ds => obtain ⟨vs, e, r⟩ := h; exact ⟨vs, (hH (by intro z; cases z)).trans e, r.mono m x⟩
  | exn c => exact (hH (by intro z; cases z)).trans h
  | dead => trivial
theorem io_inj (nd : w.io.Nodup) {i j : Nat} {a : Addr} (h1 : w.io[i]? = some a) (h2 : w.io[j]? = some a) : i = j := nd_ix nd h1 h2
/-- a new thing that never changes -/
def Wd.new (w : Wd) (p : Addr) (o : HO) : Wd := ⟨w.io, w.st, upd w.H p o, w.pv⟩
theorem Emb.fresh (m : Emb K ga w) {p : Addr} (hp : w.H p = none) : p ∉ w.io := fun h => by
  obtain ⟨o, e⟩ := m.dom p h
  rw [hp] at e; cases e
theorem Emb.freshP (m : Emb K ga w) {p : Addr} (hp : w.H p = none) : p ∉ w.pv := fun h => by
  obtain ⟨_, vs, e⟩ := m.pvo p h
  rw [hp] at e; cases e
theorem Emb.notLive (m : Emb K ga w) {p : Addr} (hp : w.H p = none) : ¬ Live w p := fun h => by
  rcases h with h | ⟨n, c, h1, _, _⟩
  · exact m.freshP hp h
  · exact m.fresh hp (List.mem_of_getElem? h1)
theorem Ext.new (m : Emb K ga w) {p : Addr} {o : HO} (hp : w.H p = none) : Ext w (w.new p o) := by
  refine ⟨⟨[], by simp [Wd.new]⟩, fun a u h n => ⟨?_, n⟩, fun a ha => ⟨ha, ?_⟩⟩
  · show upd w.H p o a = some u
    rw [upd_ne (ne_of_none h hp)]
    exact h
  · show upd w.H p o a = w.H a
    rw [upd_ne (show a ≠ p from fun z => m.freshP hp (z ▸ ha))]
theorem Emb.new (m : Emb K ga w) {p : Addr} {o : HO} (hp : w.H p = none) : Emb K ga (w.new p o) := by
  refine ⟨m.len, m.nd, fun a ha => ?_, fun n a c h1 h2 => ?_, fun a ha => ?_⟩
  · obtain ⟨u, e⟩ := m.dom a ha
    refine ⟨u, ?_⟩
    show upd w.H p o a = some u
    rw [upd_ne (ne_of_none e hp)]
    exact e
  · refine (m.cell n a c h1 h2).mono m (Ext.new m hp) fun _ => ?_
    have ne : a ≠ p := fun z => m.fresh hp (z ▸ List.mem_of_getElem? h1)
    show upd w.H p o a = w.H a
    rw [upd_ne ne]
  · obtain ⟨h1, vs, h2⟩ := m.pvo a ha
    refine ⟨h1, vs, ?_⟩
    show upd w.H p o a = some (.lst vs)
    rw [upd_ne (ne_of_none h2 hp)]
    exact h2
theorem Rep.newTup (m : Emb K ga w) {p : Addr} {vs : List V} {ds : List Da} (hp : w.H p = none) (r : RepL K w vs ds) : Rep K (w.new p (.tup vs)) (.ref p) (.tup ds) :=
  .tup (.inl (.inl upd_same)) (r.mono m (Ext.new m hp))
theorem Rep.newLst (m : Emb K ga w) {p : Addr} {vs : List V} {ds : List Da} (hp : w.H p = none) (r : RepL K w vs ds) : Rep K (w.new p (.lst vs)) (.ref p) (.lst ds) :=
  .lst upd_same (fun l => m.notLive hp l) (r.mono m (Ext.new m hp))
/-- a new thing that may change -/
def Wd.push (w : Wd) (p : Addr) (o : HO) (c : Cell) : Wd := ⟨w.io ++ [p], w.st ++ [c], upd w.H p o, w.pv⟩
theorem push_at (m : Emb K ga w) {p : Addr} {o : HO} {c : Cell} : (w.push p o c).io[w.st.length]? = some p := by
  show (w.io ++ [p])[w.st.length]? = some p
  rw [← m.len]
  simp
theorem Ext.push (m : Emb K ga w) {p : Addr} {o : HO} {c : Cell} (hp : w.H p = none) : Ext w (w.push p o c) := by
  refine ⟨⟨[p], rfl⟩, fun a u h n => ⟨?_, fun l => ?_⟩, fun a ha => ⟨ha, ?_⟩⟩
  · show upd w.H p o a = some u
    rw [upd_ne (ne_of_none h hp)]
    exact h
  · rcases l with l | l
    · exact n (.inl l)
    obtain ⟨i, k, h1, h2, h3⟩ := l
    have h1' : (w.io ++ [p])[i]? = some a := h1
    have h2' : (w.st ++ [c])[i]? = some k := h2
    have ne : a ≠ p := ne_of_none h hp
    by_cases hi : i < w.io.length
    · rw [List.getElem?_append_left hi] at h1'
      rw [List.getElem?_append_left (m.len ▸ hi)] at h2'
      exact n (.inr ⟨i, k, h1', h2', h3⟩)
    · rw [List.getElem?_append_right (by omega)] at h1'
      have : i - w.io.length = 0 := by
        have := (List.getElem?_eq_some_iff.mp h1').1
        simp at this
        omega
      rw [this] at h1'
      simp at h1'
      exact ne h1'.symm
  · show upd w.H p o a = w.H a
    rw [upd_ne (show a ≠ p from fun z => m.freshP hp (z ▸ ha))]
theorem Emb.push (m : Emb K ga w) {p : Addr} {o : HO} {c : Cell} (hp : w.H p = none) (hc : CellOk K ga (w.push p o c) p c) : Emb K ga (w.push p o c) := by
  refine ⟨?_, ?_, fun a ha => ?_, fun n a k h1 h2 => ?_, fun a ha => ?_⟩
  · show (w.io ++ [p]).length = (w.st ++ [c]).length
    simp [m.len]
  · show (w.io ++ [p]).Nodup
    rw [List.nodup_append]
    refine ⟨m.nd, by simp, fun a ha b hb => ?_⟩
    have e : b = p := by simpa using hb
    rw [e]
    exact fun z => m.fresh hp (z ▸ ha)
  · have ha' : a ∈ w.io ++ [p] := ha
    rcases List.mem_append.mp ha' with ha | ha
    · obtain ⟨u, e⟩ := m.dom a ha
      refine ⟨u, ?_⟩
      show upd w.H p o a = some u
      rw [upd_ne (ne_of_none e hp)]
      exact e
    · have e : a = p := by simpa using ha
      rw [e]
      exact ⟨o, upd_same⟩
  · have h1' : (w.io ++ [p])[n]? = some a := h1
    have h2' : (w.st ++ [c])[n]? = some k := h2
    by_cases hi : n < w.io.length
    · rw [List.getElem?_append_left hi] at h1'
      rw [List.getElem?_append_left (m.len ▸ hi)] at h2'
      refine (m.cell n a k h1' h2').mono m (Ext.push m hp) fun _ => ?_
      have ne : a ≠ p := fun z => m.fresh hp (z ▸ List.mem_of_getElem? h1')
      show upd w.H p o a = w.H a
      rw [upd_ne ne]
    · rw [List.getElem?_append_right (by omega)] at h1'
      rw [List.getElem?_append_right (by rw [← m.len]; omega)] at h2'
      have z : n - w.io.length = 0 := by
        have := (List.getElem?_eq_some_iff.mp h1').1
        simp at this
        omega
      rw [← m.len, z] at h2'
      rw [z] at h1'
      simp at h1' h2'
      subst h1' h2'
      exact hc
  · obtain ⟨h1, vs, h2⟩ := m.pvo a ha
    have ne : a ≠ p := fun z => m.freshP hp (z ▸ ha)
    refine ⟨fun z => ?_, vs, ?_⟩
    · have z' : a ∈ w.io ++ [p] := z
      rcases List.mem_append.mp z' with z | z
      · exact h1 z
      · exact ne (by simpa using z)
    · show upd w.H p o a = some (.lst vs)
      rw [upd_ne ne]
      exact h2
/-- a thing changes -/
def Wd.put (w : Wd) (n : Nat) (a : Addr) (o : HO) (c : Cell) : Wd := ⟨w.io, w.st.set n c, upd w.H a o, w.pv⟩
theorem put_live {n : Nat} {a b : Addr} {o : HO} {c : Cell} (h : Live (w.put n a o c) b) (hb : b ≠ a ∨ c = .dead) (ha : w.io[n]? = some a) : Live w b := by
  rcases h with h | ⟨i, k, h1, h2, h3⟩
  · exact .inl h
  have h1' : w.io[i]? = some b := h1
  have h2' : (w.st.set n c)[i]? = some k := h2
  by_cases e : i = n
  · subst e
    rw [ha] at h1'
    cases h1'
    rcases hb with hb | hb
    · exact absurd rfl hb
    · rw [List.getElem?_set] at h2'
      simp only [if_true] at h2'
      split at h2'
      · cases h2'
        exact absurd hb h3
      · cases h2'
  · rw [List.getElem?_set_ne (Ne.symm e)] at h2'
    exact .inr ⟨i, k, h1', h2', h3⟩
theorem Ext.put (m : Emb K ga w) {n : Nat} {a : Addr} {o : HO} {c c0 : Cell} (ha : w.io[n]? = some a) (hc0 : w.st[n]? = some c0) (hl : c0 ≠ .dead) : Ext w (w.put n a o c) := by
  refine ⟨⟨[], by simp [Wd.put]⟩, fun b u h nl => ?_, fun b hb => ⟨hb, ?_⟩⟩
  · have ne : b ≠ a := fun z => nl (z ▸ .inr ⟨n, c0, ha, hc0, hl⟩)
    refine ⟨?_, fun l => nl (put_live l (.inl ne) ha)⟩
    show upd w.H a o b = some u
    rw [upd_ne ne]
    exact h
  · show upd w.H a o b = w.H b
    rw [upd_ne (show b ≠ a from fun z => (m.pvo b hb).1 (z ▸ List.mem_of_getElem? ha))]
theorem Emb.put (m : Emb K ga w) {n : Nat} {a : Addr} {o : HO} {c c0 : Cell} (ha : w.io[n]? = some a) (hc0 : w.st[n]? = some c0) (hl : c0 ≠ .dead) (hc : CellOk K ga (w.put n a o c) a c) : Emb K ga (w.put n a o c) := by
  refine ⟨?_, m.nd, fun b hb => ?_, fun i b k h1 h2 => ?_, fun b hb => ?_⟩
  · show w.io.length = (w.st.set n c).length
    rw [List.length_set]; exact m.len
  · by_cases e : b = a
    · rw [e]; exact ⟨o, upd_same⟩
    · obtain ⟨u, q⟩ := m.dom b hb
      refine ⟨u, ?_⟩
      show upd w.H a o b = some u
      rw [upd_ne e]; exact q
  · have h1' : w.io[i]? = some b := h1
    have h2' : (w.st.set n c)[i]? = some k := h2
    by_cases e : i = n
    · subst e
      rw [ha] at h1'; cases h1'
      have hlt : i < w.st.length := (List.getElem?_eq_some_iff.mp hc0).1
      rw [List.getElem?_set_self hlt] at h2'
      cases h2'
      exact hc
    · rw [List.getElem?_set_ne (Ne.symm e)] at h2'
      refine (m.cell i b k h1' h2').mono m (Ext.put m ha hc0 hl) fun _ => ?_
      have ne : b ≠ a := fun z => e (io_inj m.nd h1' (z ▸ ha))
      show upd w.H a o b = w.H b
      rw [upd_ne ne]
  · obtain ⟨h1, vs, h2⟩ := m.pvo b hb
    refine ⟨h1, vs, ?_⟩
    show upd w.H a o b = some (.lst vs)
    rw [upd_ne (show b ≠ a from fun z => h1 (z ▸ List.mem_of_getElem? ha))]
    exact h2
/-- a thing stops changing -/
def Wd.kill (w : Wd) (n : Nat) : Wd := ⟨w.io, w.st.set n .dead, w.H, w.pv⟩
theorem kill_live {n : Nat} {b : Addr} (h : Live (w.kill n) b) : b ∈ w.pv ∨ Live w b ∧ ∃ i, i ≠ n ∧ w.io[i]? = some b := by
  rcases h with h | ⟨i, k, h1, h2, h3⟩
  · exact .inl h
  have h1' : w.io[i]? = some b := h1
  have h2' : (w.st.set n .dead)[i]? = some k := h2
  by_cases e : i = n
  · subst e
    rw [List.getElem?_set] at h2'
    simp only [if_true] at h2'
    split at h2'
    · cases h2'
      exact absurd rfl h3
    · cases h2'
  · rw [List.getElem?_set_ne (Ne.symm e)] at h2'
    exact .inr ⟨.inr ⟨i, k, h1', h2', h3⟩, i, e, h1'⟩
theorem kill_live' {n : Nat} {b : Addr} (h : Live (w.kill n) b) : Live w b := by
  rcases kill_live h with h | h
  · exact .inl h
  · exact h.1
theorem Ext.kill {n : Nat} : Ext w (w.kill n) := ⟨⟨[], by simp [Wd.kill]⟩, fun _ _ h nl => ⟨h, fun l => nl (kill_live' l)⟩, fun _ h => ⟨h, rfl⟩⟩
theorem Emb.kill (m : Emb K ga w) {n : Nat} : Emb K ga (w.kill n) := by
  refine ⟨?_, m.nd, m.dom, fun i b k h1 h2 => ?_, m.pvo⟩
  · show w.io.length = (w.st.set n .dead).length
    rw [List.length_set]; exact m.len
  · have h1' : w.io[i]? = some b := h1
    have h2' : (w.st.set n .dead)[i]? = some k := h2
    by_cases e : i = n
    · subst e
      rw [List.getElem?_set] at h2'
      simp only [if_true] at h2'
      split at h2'
      · cases h2'; trivial
      · cases h2'
    · rw [List.getElem?_set_ne (Ne.symm e)] at h2'
      exact (m.cell i b k h1' h2').mono m Ext.kill fun _ => rfl
theorem Rep.killed (m : Emb K ga w) {n : Nat} {a : Addr} {vs : List V} {ds : List Da} (ha : w.io[n]? = some a) (hH : w.H a = some (.lst vs)) (r : RepL K w vs ds) : Rep K (w.kill n) (.ref a) (.lst ds) := by
  refine .lst hH (fun l => ?_) (r.mono m Ext.kill)
  rcases kill_live l with h | ⟨_, i, hi, h⟩
  · exact (m.pvo a h).1 (List.mem_of_getElem? ha)
  · exact hi (io_inj m.nd h ha)
def Wd.hid (w : Wd) (p : Addr) (vs : List V) : Wd := ⟨w.io, w.st, upd w.H p (.lst vs), p :: w.pv⟩
theorem Ext.hid (m : Emb K ga w) {p : Addr} {vs : List V} (hp : w.H p = none) : Ext w (w.hid p vs) := by
  refine ⟨⟨[], by simp [Wd.hid]⟩, fun a u h n => ⟨?_, fun l => ?_⟩, fun a ha => ⟨List.mem_cons_of_mem _ ha, ?_⟩⟩
  · show upd w.H p _ a = some u
    rw [upd_ne (ne_of_none h hp)]
    exact h
  · rcases l with l | l
    · have l' : a ∈ p :: w.pv := l
      rcases List.mem_cons.mp l' with l | l
      · exact ne_of_none h hp l
      · exact n (.inl l)
    · exact n (.inr l)
  · show upd w.H p _ a = w.H a
    rw [upd_ne (show a ≠ p from fun z => m.freshP hp (z ▸ ha))]
theorem Emb.hid (m : Emb K ga w) {p : Addr} {vs : List V} (hp : w.H p = none) : Emb K ga (w.hid p vs) := by
  refine ⟨m.len, m.nd, fun a ha => ?_, fun n a c h1 h2 => ?_, fun a ha => ?_⟩
  · obtain ⟨u, e⟩ := m.dom a ha
    refine ⟨u, ?_⟩
    show upd w.H p _ a = some u
    rw [upd_ne (ne_of_none e hp)]
    exact e
  · refine (m.cell n a c h1 h2).mono m (Ext.hid m hp) fun _ => ?_
    show upd w.H p _ a = w.H a
    rw [upd_ne (show a ≠ p from fun z => m.fresh hp (z ▸ List.mem_of_getElem? h1))]
  · have ha' : a ∈ p :: w.pv := ha
    rcases List.mem_cons.mp ha' with e | ha
    · rw [e]
      exact ⟨m.fresh hp, vs, upd_same⟩
    · obtain ⟨h1, us, h2⟩ := m.pvo a ha
      refine ⟨h1, us, ?_⟩
      show upd w.H p _ a = some (.lst us)
      rw [upd_ne (ne_of_none h2 hp)]
      exact h2
/-- it grows -/
def Wd.grow (w : Wd) (p : Addr) (vs : List V) : Wd := ⟨w.io, w.st, upd w.H p (.lst vs), w.pv⟩
/-- all but p -/
structure ExtP (p : Addr) (w w' : Wd) : Prop where
  io : ∃ t, w'.io = w.io ++ t
  keep : ∀ a o, w.H a = some o → ¬ Live w a → w'.H a = some o ∧ ¬ Live w' a
  pvk : ∀ a ∈ w.pv, a ∈ w'.pv ∧ (a ≠ p → w'.H a = w.H a)
theorem ExtP.grow (m : Emb K ga w) {p : Addr} {vs : List V} (hp : p ∈ w.pv) : ExtP p w (w.grow p vs) := by
  refine ⟨⟨[], by simp [Wd.grow]⟩, fun a u h n => ⟨?_, n⟩, fun a ha => ⟨ha, fun ne => ?_⟩⟩
  · show upd w.H p _ a = some u
    rw [upd_ne (show a ≠ p from fun z => n (.inl (z ▸ hp)))]
    exact h
  · show upd w.H p _ a = w.H a
    rw [upd_ne ne]
mutual
theorem Rep.monoP {p : Addr} (m : Emb K ga w) (x : ExtP p w w') : ∀ {v : V} {d : Da}, Rep K w v d → Rep K w' v d
  | _, _, .non => .non
  | _, _, .bl b => .bl b
  | _, _, .int i => .int i
  | _, _, .str s => .str s
  | _, _, .tup h r => .tup (by
      rcases h with (h | ⟨o, h⟩) | h
      · exact .inl (.inl (x.keep _ _ h (m.noTup h)).1)
      · exact .inl (.inr ⟨o, (x.keep _ _ h (m.noFrz h)).1⟩)
      · exact .inr h) (RepL.monoP m x r)
  | _, _, .lst h n r => .lst (x.keep _ _ h n).1 (x.keep _ _ h n).2 (RepL.monoP m x r)
  | _, _, .fro h r => .fro (by
      rcases h with ⟨o, h⟩ | h
      · exact .inl ⟨o, (x.keep _ _ h (m.noFrz h)).1⟩
      · exact .inr h) (RepL.monoP m x r)
  | _, _, .han h => .han (by
      obtain ⟨t, ht⟩ := x.io
      rw [ht, List.getElem?_append_left (List.getElem?_eq_some_iff.mp h).1]
      exact h)
theorem RepL.monoP {p : Addr} (m : Emb K ga w) (x : ExtP p w w') : ∀ {vs : List V} {ds : List Da}, RepL K w vs ds → RepL K w' vs ds
  | _, _, .nil => .nil
  | _, _, .cons h r => .cons (Rep.monoP m x h) (RepL.monoP m x r)
end
theorem RepF.monoP {p : Addr} (m : Emb K ga w) (x : ExtP p w w') : ∀ {vs : List (Str × V)} {ds : List (Str × Da)}, RepF K w vs ds → RepF K w' vs ds
  | _, _, .nil => .nil
  | _, _, .cons h r => .cons (h.monoP m x) (r.monoP m x)
theorem RepK.monoP {p : Addr} (m : Emb K ga w) (x : ExtP p w w') : ∀ {vs : List (Key × V)} {ds : List (Key × Da)}, RepK K w vs ds → RepK K w' vs ds
  | _, _, .nil => .nil
  | _, _, .cons h r => .cons (h.monoP m x) (r.monoP m x)
theorem Emb.grow (m : Emb K ga w) {p : Addr} {vs : List V} (hp : p ∈ w.pv) : Emb K ga (w.grow p vs) := by
  have x : ExtP p w (w.grow p vs) := ExtP.grow m hp
  have ne : ∀ a ∈ w.io, a ≠ p := fun a ha z => (m.pvo p hp).1 (z ▸ ha)
  refine ⟨m.len, m.nd, fun a ha => ?_, fun n a c h1 h2 => ?_, fun a ha => ⟨(m.pvo a ha).1, ?_⟩⟩
  · obtain ⟨u, e⟩ := m.dom a ha
    refine ⟨u, ?_⟩
    show upd w.H p _ a = some u
    rw [upd_ne (ne a ha)]
    exact e
  · have q := m.cell n a c h1 h2
    have hH : (w.grow p vs).H a = w.H a := by
      show upd w.H p _ a = w.H a
      rw [upd_ne (ne a (List.mem_of_getElem? h1))]
    cases c with
    | lst ds => obtain ⟨us, e, r⟩ := q; exact ⟨us, hH.trans e, r.monoP m x⟩
    | ins c fs => obtain ⟨dx, us, e, r⟩ := q; exact ⟨dx, us, hH.trans e, r.monoP m x⟩
    | dK ds => obtain ⟨us, e, r⟩ := q; exact ⟨us, hH.trans e, r.monoP m x⟩
    | exn c => exact hH.trans q
    | dead => trivial
  · by_cases e : a = p
    · rw [e]; exact ⟨vs, upd_same⟩
    · obtain ⟨us, h2⟩ := (m.pvo a ha).2
      refine ⟨us, ?_⟩
      show upd w.H p _ a = some (.lst us)
      rw [upd_ne e]
      exact h2
theorem Ext.thenGrow {w0 : Wd} (x : Ext w0 w) (m : Emb K ga w) {p : Addr} {vs : List V} (hp : p ∈ w.pv) (h0 : w0.H p = none) (hm0 : p ∉ w0.pv) : Ext w0 (w.grow p vs) := by
  refine ⟨x.io, fun a u h n => ?_, fun a ha => ?_⟩
  · obtain ⟨h1, n1⟩ := x.keep a u h n
    refine ⟨?_, n1⟩
    show upd w.H p _ a = some u
    rw [upd_ne (ne_of_none h h0)]
    exact h1
  · obtain ⟨h1, e1⟩ := x.pvk a ha
    refine ⟨h1, ?_⟩
    show upd w.H p _ a = w0.H a
    rw [upd_ne (show a ≠ p from fun z => hm0 (z ▸ ha))]
    exact e1
def del (H : Hp) (p : Addr) : Hp := fun a => if a = p then none else H a
theorem del_same {H : Hp} {p : Addr} : del H p p = none := by unfold del; rw [if_pos rfl]
theorem del_ne {H : Hp} {p a : Addr} (h : a ≠ p) : del H p a = H a := by unfold del; rw [if_neg h]
theorem upd_del {H : Hp} {p : Addr} {o : HO} (h : H p = some o) : upd (del H p) p o = H := by
  funext a
  by_cases e : a = p
  · rw [e, upd_same, h]
  · rw [upd_ne e, del_ne e]
def Wd.del (w : Wd) (p : Addr) (l : List Addr) : Wd := ⟨w.io, w.st, CL.del w.H p, l⟩
theorem del_live {p a : Addr} {l : List Addr} (hl : w.pv = p :: l) (h : Live (w.del p l) a) : Live w a := by
  rcases h with h | h
  · exact .inl (by rw [hl]; exact List.mem_cons_of_mem _ h)
  · exact .inr h
mutual
theorem Rep.del {p : Addr} {l : List Addr} {us : List V} (hl : w.pv = p :: l) (hp : w.H p = some (.lst us)) : ∀ {v : V} {d : Da}, Rep K w v d → Rep K (w.del p l) v d
  | _, _, .non => .non
  | _, _, .bl b => .bl b
  | _, _, .int i => .int i
  | _, _, .str s => .str s
  | _, _, .tup (a := a) h r => .tup (by
      have tr : ∀ o, w.H a = some o → (∀ zs, o ≠ .lst zs) → (w.del p l).H a = some o := fun o ho hz => by
        show CL.del w.H p a = some o
        have ne : a ≠ p := fun z => by
          rw [z, hp] at ho
          exact hz us (Option.some.inj ho).symm
        rw [del_ne ne]
        exact ho
      rcases h with (h | ⟨o, h⟩) | h
      · exact .inl (.inl (tr _ h fun _ z => nomatch z))
      · exact .inl (.inr ⟨o, tr _ h fun _ z => nomatch z⟩)
      · exact .inr h) (RepL.del hl hp r)
  | _, _, .lst (a := a) h n r => .lst (by
      have ne : a ≠ p := fun z => n (.inl (by rw [hl, z]; exact List.mem_cons_self))
      show CL.del w.H p a = _
      rw [del_ne ne]
      exact h) (fun z => n (del_live hl z)) (RepL.del hl hp r)
  | _, _, .fro (a := a) h r => .fro (by
      rcases h with ⟨o, h⟩ | h
      · have ne : a ≠ p := fun z => by
          rw [z, hp] at h
          cases h
        refine .inl ⟨o, ?_⟩
        show CL.del w.H p a = _
        rw [del_ne ne]
        exact h
      · exact .inr h) (RepL.del hl hp r)
  | _, _, .han h => .han h
theorem RepL.del {p : Addr} {l : List Addr} {us : List V} (hl : w.pv = p :: l) (hp : w.H p = some (.lst us)) : ∀ {vs : List V} {ds : List Da}, RepL K w vs ds → RepL K (w.del p l) vs ds
  | _, _, .nil => .nil
  | _, _, .cons h r => .cons (Rep.del hl hp h) (RepL.del hl hp r)
end
theorem RepF.del {p : Addr} {l : List Addr} {us : List V} (hl : w.pv = p :: l) (hp : w.H p = some (.lst us)) : ∀ {vs : List (Str × V)} {ds : List (Str × Da)}, RepF K w vs ds → RepF K (w.del p l) vs ds
  | _, _, .nil => .nil
  | _, _, .cons h r => .cons (h.del hl hp) (r.del hl hp)
theorem RepK.del {p : Addr} {l : List Addr} {us : List V} (hl : w.pv = p :: l) (hp : w.H p = some (.lst us)) : ∀ {vs : List (Key × V)} {ds : List (Key × Da)}, RepK K w vs ds → RepK K (w.del p l) vs ds
  | _, _, .nil => .nil
  | _, _, .cons h r => .cons (h.del hl hp) (r.del hl hp)
theorem Emb.del (m : Emb K ga w) {p : Addr} {l : List Addr} {us : List V} (hl : w.pv = p :: l) (hp : w.H p = some (.lst us)) (hn : p ∉ l) : Emb K ga (w.del p l) := by
  have ne : ∀ a ∈ w.io, a ≠ p := fun a ha z => (m.pvo p (by rw [hl]; exact List.mem_cons_self)).1 (z ▸ ha)
  refine ⟨m.len, m.nd, fun a ha => ?_, fun n a c h1 h2 => ?_, fun a ha => ?_⟩
  · obtain ⟨o, e⟩ := m.dom a ha
    refine ⟨o, ?_⟩
    show CL.del w.H p a = _
    rw [del_ne (ne a ha)]
    exact e
  · have q := m.cell n a c h1 h2
    have hH : (w.del p l).H a = w.H a := del_ne (ne a (List.mem_of_getElem? h1))
    cases c with
    | lst ds => obtain ⟨vs, e, r⟩ := q; exact ⟨vs, hH.trans e, r.del hl hp⟩
    | ins c fs => obtain ⟨dx, vs, e, r⟩ := q; exact ⟨dx, vs, hH.trans e, r.del hl hp⟩
    | dK ds => obtain ⟨vs, e, r⟩ := q; exact ⟨vs, hH.trans e, r.del hl hp⟩
    | exn c => exact hH.trans q
    | dead => trivial
  · obtain ⟨h1, vs, h2⟩ := m.pvo a (by rw [hl]; exact List.mem_cons_of_mem _ ha)
    refine ⟨h1, vs, ?_⟩
    show CL.del w.H p a = _
    rw [del_ne (show a ≠ p from fun z => hn (z ▸ ha))]
    exact h2
theorem Ext.del {w0 : Wd} {p : Addr} (x : Ext w0 w) (hl : w.pv = p :: w0.pv) (h0 : w0.H p = none) (hn : p ∉ w0.pv) : Ext w0 (w.del p w0.pv) := by
  refine ⟨x.io, fun a o h n => ?_, fun a ha => ⟨ha, ?_⟩⟩
  · obtain ⟨h1, n1⟩ := x.keep a o h n
    refine ⟨?_, fun z => n1 (del_live hl z)⟩
    show CL.del w.H p a = _
    rw [del_ne (ne_of_none h h0)]
    exact h1
  · show CL.del w.H p a = _
    rw [del_ne (show a ≠ p from fun z => hn (z ▸ ha))]
    exact (x.pvk a ha).2
end
structure ExtW (w w' : Wd) : Prop where
  io : ∃ t, w'.io = w.io ++ t
  keep : ∀ a o, w.H a = some o → ¬ Live w a → w'.H a = some o ∧ ¬ Live w' a
theorem Ext.w {w w' : Wd} (x : Ext w w') : ExtW w w' := ⟨x.io, x.keep⟩
theorem ExtP.w {p : Addr} {w w' : Wd} (x : ExtP p w w') : ExtW w w' := ⟨x.io, x.keep⟩
theorem ExtW.trans {a b c : Wd} (x : ExtW a b) (y : ExtW b c) : ExtW a c := by
  obtain ⟨t, ht⟩ := x.io
  obtain ⟨u, hu⟩ := y.io
  refine ⟨⟨t ++ u, by rw [hu, ht, List.append_assoc]⟩, fun p o h n => ?_⟩
  obtain ⟨h1, n1⟩ := x.keep p o h n
  exact y.keep p o h1 n1
theorem ExtW.at {w w' : Wd} (x : ExtW w w') {n : Nat} {a : Addr} (h : w.io[n]? = some a) : w'.io[n]? = some a := by
  obtain ⟨t, ht⟩ := x.io
  rw [ht, List.getElem?_append_left (List.getElem?_eq_some_iff.mp h).1]
  exact h
section
variable {K : PySem.W.Frag} {ga : Str → Addr} {w w' : Wd}
theorem sqT_monoW (m : Emb K ga w) (x : ExtW w w') {a : Addr} {vs : List V} (h : SqT K w.H a vs) : SqT K w'.H a vs := by
  rcases h with (h | ⟨o, h⟩) | h
  · exact .inl (.inl (x.keep a _ h (m.noTup h)).1)
  · exact .inl (.inr ⟨o, (x.keep a _ h (m.noFrz h)).1⟩)
  · exact .inr h
mutual
theorem Rep.monoW (m : Emb K ga w) (x : ExtW w w') : ∀ {v : V} {d : Da}, Rep K w v d → Rep K w' v d
  | _, _, .non => .non
  | _, _, .bl b => .bl b
  | _, _, .int i => .int i
  | _, _, .str s => .str s
  | _, _, .tup h r => .tup (sqT_monoW m x h) (RepL.monoW m x r)
  | _, _, .lst h n r => .lst (x.keep _ _ h n).1 (x.keep _ _ h n).2 (RepL.monoW m x r)
  | _, _, .fro h r => .fro (by
      rcases h with ⟨o, h⟩ | h
      · exact .inl ⟨o, (x.keep _ _ h (m.noFrz h)).1⟩
      · exact .inr h) (RepL.monoW m x r)
  | _, _, .han h => .han (x.at h)
theorem RepL.monoW (m : Emb K ga w) (x : ExtW w w') : ∀ {vs : List V} {ds : List Da}, RepL K w vs ds → RepL K w' vs ds
  | _, _, .nil => .nil
  | _, _, .cons h r => .cons (Rep.monoW m x h) (RepL.monoW m x r)
end
end
end CL
namespace CL
open PySem PySem.Spec L2
inductive Res (A : Type) where
  | ok (a : A) (st : Store)
  | exc (c : Str) (as : List Da) (st : Store)
  | bad
abbrev Mo (A : Type) := Store → Res A
def bnd {A B : Type} (m : Mo A) (f : A → Mo B) : Mo B := fun st => match m st with
  | .ok a st' => f a st'
  | .exc c as st' => .exc c as st'
  | .bad => .bad
def ret {A : Type} (a : A) : Mo A := fun st => .ok a st
def nop {A : Type} : Mo A := fun _ => .bad
@[simp] theorem bnd_ret {A B : Type} (a : A) (f : A → Mo B) : bnd (ret a) f = f a := rfl
@[simp] theorem bnd_nop {A B : Type} (f : A → Mo B) : bnd (nop : Mo A) f = nop := rfl
theorem bnd_assoc {A B C : Type} (m : Mo A) (f : A → Mo B) (g : B → Mo C) : bnd (bnd m f) g = bnd m fun a => bnd (f a) g := by
  funext st
  unfold bnd
  cases m st <;> rfl
abbrev Sl := List (Option Da)
abbrev Em (K : PySem.W.Frag) (w : Wd) : Prop := Emb K (He.ga K) w
/-- what a result must bring -/
def Run (K : PySem.W.Frag) {A : Type} (w : Wd) (r : Res A) (ok : A → Wd → Prop) (ex : Str → List Da → Wd → Prop) : Prop := match r with
  | .ok a st => ∀ io H, Ext w ⟨io, st, H, w.pv⟩ → Em K ⟨io, st, H, w.pv⟩ → ok a ⟨io, st, H, w.pv⟩
  | .exc c as st => ∀ io H, Ext w ⟨io, st, H, w.pv⟩ → Em K ⟨io, st, H, w.pv⟩ → ex c as ⟨io, st, H, w.pv⟩
  | .bad => False
section
variable {K : PySem.W.Frag} {A B : Type} {w w' : Wd} {ok ok' : A → Wd → Prop} {ex ex' : Str → List Da → Wd → Prop}
theorem Run.ext {r : Res A} (h : Run K w r ok ex) (x : Ext w w') (e : w'.pv = w.pv) : Run K w' r ok ex := by
  cases r with
  | ok a st =>
    intro io H x' m
    rw [e] at x' m ⊢
    exact h io H (x.trans x') m
  | exc c as st =>
    intro io H x' m
    rw [e] at x' m ⊢
    exact h io H (x.trans x') m
  | bad => exact h
theorem Run.mono {r : Res A} (h : Run K w r ok ex) (h1 : ∀ a w', Ext w w' → w'.pv = w.pv → Em K w' → ok a w' → ok' a w') (h2 : ∀ c as w', ex c as w' → ex' c as w') : Run K w r ok' ex' := by
  cases r with
  | ok a st => exact fun io H x m => h1 a _ x rfl m (h io H x m)
  | exc c as st => exact fun io H x m => h2 c as _ (h io H x m)
  | bad => exact h
theorem Run.bind {m : Mo A} {f : A → Mo B} {ok : B → Wd → Prop} (h : Run K w (bnd m f w.st) ok ex) : Run K w (m w.st) (fun a w' => Run K w' (f a w'.st) ok ex) ex := by
  unfold bnd at h
  cases q : m w.st with
  | ok a st =>
    rw [q] at h
    exact fun io H x e => Run.ext (w' := ⟨io, st, H, w.pv⟩) h x rfl
  | exc c as st =>
    rw [q] at h
    exact h
  | bad =>
    rw [q] at h
    exact h
theorem Run.here {a : A} (m : Em K w) (h : Run K w (.ok a w.st) ok ex) : ok a w := h w.io w.H (Ext.refl w) m
theorem Run.at {a : A} {st : Store} (h : Run K w (.ok a st) ok ex) (x : Ext w w') (m : Em K w') (e1 : w'.st = st) (e2 : w'.pv = w.pv) : ok a w' := by
  obtain ⟨io, st', H, pv⟩ := w'
  cases e1
  cases e2
  exact h io H x m
end
structure En (K : PySem.W.Frag) (w : Wd) (ro : Sl) (σ : St) : Prop where
  emb : Em K w
  len : σ.length = ro.length
  slot : ∀ (i : Nat) (d : Da), ro[i]? = some (some d) → ∃ v, σ[i]? = some (some v) ∧ Rep K w v d
section
variable {K : PySem.W.Frag} {w w' : Wd} {ro : Sl} {σ : St}
theorem En.mono (e : En K w ro σ) (x : Ext w w') (m : Em K w') : En K w' ro σ :=
  ⟨m, e.len, fun i d h => let ⟨v, h1, h2⟩ := e.slot i d h; ⟨v, h1, h2.mono e.emb x⟩⟩
theorem En.set (e : En K w ro σ) {i : Nat} {v : V} {d : Da} (r : Rep K w v d) : En K w (ro.set i (some d)) (σ.set i (some v)) := by
  refine ⟨e.emb, by simp [e.len], fun j x h => ?_⟩
  by_cases hj : j = i
  · subst hj
    rw [List.getElem?_set] at h
    simp only [if_true] at h
    split at h
    · rename_i hlt
      cases h
      refine ⟨v, ?_, r⟩
      rw [List.getElem?_set_self (by rw [e.len]; exact hlt)]
    · cases h
  · rw [List.getElem?_set_ne (Ne.symm hj)] at h
    obtain ⟨u, h1, h2⟩ := e.slot j x h
    exact ⟨u, by rw [List.getElem?_set_ne (Ne.symm hj)]; exact h1, h2⟩
end
def ExcD (K : PySem.W.Frag) (w : Wd) (as : List Da) (dd : Option Addr) : Prop := match as with
  | [] => dd = none
  | d :: _ => ∃ a v, dd = some a ∧ w.H a = some (.xd [(("place" : Str), v)]) ∧ Rep K w v d
def XP (K : PySem.W.Frag) (E : XK) (c : Str) (as : List Da) (w : Wd) : Prop := ∀ dd, ExcD K w as dd → E (.ref (He.ga K c)) dd w.H
abbrev OkV (K : PySem.W.Frag) (Q : VK) (d : Da) (w : Wd) : Prop := ∀ v, Rep K w v d → Q v w.H
def SE (K : PySem.W.Frag) (E : St → XK) (te : TE) (m : Sl → Mo Da) : Prop := ∀ (w : Wd) (ro : Sl) (σ : St) (Q : VK), En K w ro σ →
  Run K w (m ro w.st) (OkV K Q) (XP K (E σ)) → te σ w.H Q
def ST (K : PySem.W.Frag) (E : St → XK) (tt : TT) (m : Sl → Mo Bool) : Prop := ∀ (w : Wd) (ro : Sl) (σ : St) (Q : Bool → Hp → Prop), En K w ro σ →
  Run K w (m ro w.st) (fun b w' => Q b w'.H) (XP K (E σ)) → tt σ w.H Q
def SA (K : PySem.W.Frag) (E : St → XK) (ta : TA) (m : Sl → Mo (List Da)) : Prop := ∀ (w : Wd) (ro : Sl) (σ : St) (Q : List V → Hp → Prop), En K w ro σ →
  Run K w (m ro w.st) (fun ds w' => ∀ vs, RepL K w' vs ds → Q vs w'.H) (XP K (E σ)) → ta σ w.H Q
/-- a list that is new -/
def OkL (K : PySem.W.Frag) (Q : VK) (ds : List Da) (w : Wd) : Prop := ∀ p vs, w.H p = none → RepL K w vs ds → Q (.ref p) (upd w.H p (.lst vs))
def SL (K : PySem.W.Frag) (E : St → XK) (te : TE) (m : Sl → Mo (List Da)) : Prop := ∀ (w : Wd) (ro : Sl) (σ : St) (Q : VK), En K w ro σ →
  Run K w (m ro w.st) (OkL K Q) (XP K (E σ)) → te σ w.H Q
theorem okL_fresh {K : PySem.W.Frag} {w : Wd} {Q : VK} {ex : Str → List Da → Wd → Prop} {p : Addr} {vs : List V} {ds : List Da} {st : Store} (m : Em K w) (h : Run K w (.ok ds st) (OkL K Q) ex) (es : st = w.st) (hp : w.H p = none) (r : RepL K w vs ds) : Q (.ref p) (upd w.H p (.lst vs)) := by
  subst es
  exact h.here m p vs hp r
inductive Fl where
  | nx (ro : Sl) | rt (d : Da) | bk (ro : Sl) | ct (ro : Sl)
def OkF (K : PySem.W.Frag) (D : Ends) (f : Fl) (w : Wd) : Prop := match f with
  | .nx ro => ∀ σ, En K w ro σ → D.nx σ w.H
  | .rt d => ∀ v, Rep K w v d → D.rt v w.H
  | .bk ro => ∀ σ, En K w ro σ → D.bk σ w.H
  | .ct ro => ∀ σ, En K w ro σ → D.ct σ w.H
def SS (K : PySem.W.Frag) (E : St → XK) (ts : TS) (m : Sl → Mo Fl) : Prop := ∀ (w : Wd) (ro : Sl) (σ : St) (D : Ends), En K w ro σ →
  Run K w (m ro w.st) (OkF K D) (fun c as w' => ∀ σ', XP K (E σ') c as w') → ts D σ w.H
/-- a two-place operation by values; a one-place one; a call by values -/
def S2 (K : PySem.W.Frag) (r : R2) (f : Da → Da → Mo Da) : Prop := ∀ (w : Wd) (x y : V) (d e : Da) (Q : VK) (ex : Str → List Da → Wd → Prop), Em K w → Rep K w x d → Rep K w y e →
  Run K w (f d e w.st) (OkV K Q) ex → r x y w.H Q
def SC (K : PySem.W.Frag) (r : List V → Hp → VK → Prop) (f : List Da → Mo Da) : Prop := ∀ (w : Wd) (xs : List V) (ds : List Da) (Q : VK) (ex : Str → List Da → Wd → Prop), Em K w → RepL K w xs ds →
  Run K w (f ds w.st) (OkV K Q) ex → r xs w.H Q
def SCL (K : PySem.W.Frag) (r : List V → Hp → VK → Prop) (f : List Da → Mo (List Da)) : Prop := ∀ (w : Wd) (xs : List V) (ds : List Da) (Q : VK) (ex : Str → List Da → Wd → Prop), Em K w → RepL K w xs ds →
  Run K w (f ds w.st) (OkL K Q) ex → r xs w.H Q
def eVar (i : Nat) : Sl → Mo Da := fun ro st => match ro[i]? with
  | some (some d) => .ok d st
  | _ => .bad
def eC (d : Da) : Sl → Mo Da := fun _ st => .ok d st
def e2 (f : Da → Da → Mo Da) (a b : Sl → Mo Da) : Sl → Mo Da := fun ro => bnd (a ro) fun x => bnd (b ro) fun y => f x y
def e1 (f : Da → Mo Da) (a : Sl → Mo Da) : Sl → Mo Da := fun ro => bnd (a ro) f
def toB : Da → Mo Bool
  | .bl b => ret b
  | _ => nop
def tst (a : Sl → Mo Da) : Sl → Mo Bool := fun ro => bnd (a ro) toB
def tAnd_ (a b : Sl → Mo Bool) : Sl → Mo Bool := fun ro => bnd (a ro) fun c => if c = true then b ro else ret false
def tOr_ (a b : Sl → Mo Bool) : Sl → Mo Bool := fun ro => bnd (a ro) fun c => if c = true then ret true else b ro
def tNot_ (a : Sl → Mo Bool) : Sl → Mo Bool := fun ro => bnd (a ro) fun c => ret (!c)
def vAnd (a b : Sl → Mo Da) : Sl → Mo Da := fun ro => bnd (tst a ro) fun c => if c = true then b ro else ret (.bl false)
def vOr (a b : Sl → Mo Da) : Sl → Mo Da := fun ro => bnd (tst a ro) fun c => if c = true then ret (.bl true) else b ro
def vNot (a : Sl → Mo Da) : Sl → Mo Da := fun ro => bnd (tst a ro) fun c => ret (.bl (!c))
def eIf (t : Sl → Mo Bool) (a b : Sl → Mo Da) : Sl → Mo Da := fun ro => bnd (t ro) fun c => if c = true then a ro else b ro
def aNil : Sl → Mo (List Da) := fun _ => ret []
def aCons (a : Sl → Mo Da) (r : Sl → Mo (List Da)) : Sl → Mo (List Da) := fun ro => bnd (a ro) fun x => bnd (r ro) fun xs => ret (x :: xs)
def eTup (a : Sl → Mo (List Da)) : Sl → Mo Da := fun ro => bnd (a ro) fun xs => if xs.length ≤ 1000 then ret (.tup xs) else nop
def lDisp (a : Sl → Mo (List Da)) : Sl → Mo (List Da) := fun ro => bnd (a ro) fun xs => if xs.length ≤ 1000 then ret xs else nop
def eL (a : Sl → Mo (List Da)) : Sl → Mo Da := fun ro => bnd (a ro) fun xs => ret (.lst xs)
def eH (a : Sl → Mo (List Da)) : Sl → Mo Da := fun ro => bnd (a ro) fun xs st => .ok (.han st.length) (st ++ [.lst xs])
def fz : Da → Mo Da
  | .han n => fun st => match st[n]? with
    | some (.lst ds) => .ok (.lst ds) (st.set n .dead)
    | _ => .bad
  | d => ret d
def eF (a : Sl → Mo Da) : Sl → Mo Da := fun ro => bnd (a ro) fz
def eChain (f g : Da → Da → Mo Da) (a b c : Sl → Mo Da) : Sl → Mo Da := fun ro => bnd (a ro) fun x => bnd (b ro) fun y => bnd (bnd (f x y) toB) fun k => if k = true then bnd (c ro) fun z => g y z else ret (.bl false)
def eCall (f : List Da → Mo Da) (a : Sl → Mo (List Da)) : Sl → Mo Da := fun ro => bnd (a ro) f
section
variable {K : PySem.W.Frag} {E : St → XK} {ta tb tc te : TE} {t u : TT} {a b c : Sl → Mo Da} {p q : Sl → Mo Bool} {r : R2} {f g : Da → Da → Mo Da} {tA : TA} {al : Sl → Mo (List Da)}
theorem s_var {i : Nat} : SE K E (tVar i) (eVar i) := fun w ro σ Q e h => by
  unfold eVar at h
  cases q : ro[i]? with
  | none => rw [q] at h; exact h.elim
  | some o =>
    cases o with
    | none => rw [q] at h; exact h.elim
    | some d =>
      rw [q] at h
      obtain ⟨v, h1, h2⟩ := e.slot i d q
      exact ⟨v, h1, h.here e.emb v h2⟩
theorem s_c {v : V} {d : Da} (hr : ∀ w, Em K w → Rep K w v d) : SE K E (tC v) (eC d) := fun w ro σ Q e h => h.here e.emb v (hr w e.emb)
theorem s_op (h2 : S2 K r f) (ha : SE K E ta a) (hb : SE K E tb b) : SE K E (tOp r ta tb) (e2 f a b) := fun w ro σ Q e h =>
  ha w ro σ _ e (h.bind.mono (fun d w1 x1 p1 m1 k v rv => hb w1 ro σ _ (e.mono x1 m1) (k.bind.mono (fun d2 w2 x2 p2 m2 k2 v2 rv2 =>
    h2 w2 v v2 d d2 Q _ m2 (rv.mono m1 x2) rv2 k2) fun _ _ _ z => z)) fun _ _ _ z => z)
theorem toB_run {w : Wd} {d : Da} {ok : Bool → Wd → Prop} {ex : Str → List Da → Wd → Prop} (m : Em K w) (h : Run K w (toB d w.st) ok ex) : ∃ k, d = .bl k ∧ ok k w := by
  cases d with
  | bl k => exact ⟨k, rfl, h.here m⟩
  | non => exact h.elim
  | int i => exact h.elim
  | str s => exact h.elim
  | tup xs => exact h.elim
  | lst xs => exact h.elim
  | fro xs => exact h.elim
  | han n => exact h.elim
theorem rep_bl {w : Wd} {v : V} {k : Bool} (r : Rep K w v (.bl k)) : v = .bl k := by cases r; rfl
theorem s_tst (ha : SE K E ta a) : ST K E (tTest ta) (tst a) := fun w ro σ Q e h =>
  ha w ro σ _ e (h.bind.mono (fun d w1 x1 p1 m1 k v rv => by
    obtain ⟨c, rfl, q⟩ := toB_run m1 k
    exact ⟨c, rep_bl rv, q⟩) fun _ _ _ z => z)
theorem s_tB (ha : SE K E ta a) : ST K E (tB ta) (tst a) := s_tst ha
theorem s_and (ha : ST K E t p) (hb : ST K E u q) : ST K E (tAnd t u) (tAnd_ p q) := fun w ro σ Q e h =>
  ha w ro σ _ e (h.bind.mono (fun c w1 x1 p1 m1 k => by
    cases c with
    | true => rw [if_pos rfl] at k ⊢; exact hb w1 ro σ Q (e.mono x1 m1) k
    | false => rw [if_neg Bool.false_ne_true] at k ⊢; exact k.here m1) fun _ _ _ z => z)
theorem s_or (ha : ST K E t p) (hb : ST K E u q) : ST K E (tOr t u) (tOr_ p q) := fun w ro σ Q e h =>
  ha w ro σ _ e (h.bind.mono (fun c w1 x1 p1 m1 k => by
    cases c with
    | true => rw [if_pos rfl] at k ⊢; exact k.here m1
    | false => rw [if_neg Bool.false_ne_true] at k ⊢; exact hb w1 ro σ Q (e.mono x1 m1) k) fun _ _ _ z => z)
theorem s_not (ha : ST K E t p) : ST K E (tNot t) (tNot_ p) := fun w ro σ Q e h =>
  ha w ro σ _ e (h.bind.mono (fun c w1 x1 p1 m1 k => k.here m1) fun _ _ _ z => z)
theorem s_vAnd (ha : SE K E ta a) (hb : SE K E tb b) : SE K E (tAndV ta tb) (vAnd a b) := fun w ro σ Q e h => by
  unfold vAnd tst at h
  rw [bnd_assoc] at h
  refine ha w ro σ _ e (h.bind.mono (fun d w1 x1 p1 m1 k v rv => ?_) fun _ _ _ z => z)
  obtain ⟨c, rfl, k2⟩ := toB_run m1 k.bind
  refine ⟨c, rep_bl rv, ?_⟩
  cases c with
  | true => rw [if_pos rfl] at k2 ⊢; exact hb w1 ro σ Q (e.mono x1 m1) k2
  | false => rw [if_neg Bool.false_ne_true] at k2 ⊢; exact k2.here m1 _ (.bl false)
theorem s_vNot (ha : SE K E ta a) : SE K E (tNotV ta) (vNot a) := fun w ro σ Q e h => by
  unfold vNot tst at h
  rw [bnd_assoc] at h
  refine ha w ro σ _ e (h.bind.mono (fun d w1 x1 p1 m1 k v rv => ?_) fun _ _ _ z => z)
  obtain ⟨c, rfl, k2⟩ := toB_run m1 k.bind
  exact ⟨c, rep_bl rv, k2.here m1 _ (.bl (!c))⟩
theorem s_if (ht : ST K E t p) (ha : SE K E ta a) (hb : SE K E tb b) : SE K E (tIf t ta tb) (eIf p a b) := fun w ro σ Q e h =>
  ht w ro σ _ e (h.bind.mono (fun c w1 x1 p1 m1 k => by
    cases c with
    | true => rw [if_pos rfl] at k ⊢; exact ha w1 ro σ Q (e.mono x1 m1) k
    | false => rw [if_neg Bool.false_ne_true] at k ⊢; exact hb w1 ro σ Q (e.mono x1 m1) k) fun _ _ _ z => z)
theorem s_nil : SA K E tNil aNil := fun w ro σ Q e h => h.here e.emb [] .nil
theorem s_cons (ha : SE K E ta a) (hr : SA K E tA al) : SA K E (tCons ta tA) (aCons a al) := fun w ro σ Q e h =>
  ha w ro σ _ e (h.bind.mono (fun d w1 x1 p1 m1 k v rv => hr w1 ro σ _ (e.mono x1 m1) (k.bind.mono (fun ds w2 x2 p2 m2 k2 vs rvs =>
    k2.here m2 (v :: vs) (.cons (rv.mono m1 x2) rvs)) fun _ _ _ z => z)) fun _ _ _ z => z)
theorem le_line {n : Nat} (h : n ≤ 1000) : n ≤ sizeLine := Nat.le_of_lt (small1000 h)
theorem s_tup (ha : SA K E tA al) : SE K E (tTup tA) (eTup al) := fun w ro σ Q e h =>
  ha w ro σ _ e (h.bind.mono (fun ds w1 x1 p1 m1 k vs rvs => by
    by_cases hl : ds.length ≤ 1000
    · rw [if_pos hl] at k
      refine ⟨by rw [rvs.length]; exact le_line hl, fun p hp => ?_⟩
      exact k.at (w' := w1.new p (.tup vs)) (Ext.new m1 hp) (m1.new hp) rfl rfl _ (Rep.newTup m1 hp rvs)
    · rw [if_neg hl] at k; exact k.elim) fun _ _ _ z => z)
theorem s_lst (ha : SA K E tA al) : SL K E (tLst tA) (lDisp al) := fun w ro σ Q e h =>
  ha w ro σ _ e (h.bind.mono (fun ds w1 x1 p1 m1 k vs rvs => by
    by_cases hl : ds.length ≤ 1000
    · rw [if_pos hl] at k
      exact ⟨by rw [rvs.length]; exact le_line hl, fun p hp => okL_fresh m1 k rfl hp rvs⟩
    · rw [if_neg hl] at k; exact k.elim) fun _ _ _ z => z)
/-- a new list as data, as a thing -/
theorem s_L (ha : SL K E te al) : SE K E te (eL al) := fun w ro σ Q e h =>
  ha w ro σ _ e (h.bind.mono (fun ds w1 x1 p1 m1 k p vs hp rvs =>
    k.at (w' := w1.new p (.lst vs)) (Ext.new m1 hp) (m1.new hp) rfl rfl _ (Rep.newLst m1 hp rvs)) fun _ _ _ z => z)
theorem s_H (ha : SL K E te al) : SE K E te (eH al) := fun w ro σ Q e h =>
  ha w ro σ _ e (h.bind.mono (fun ds w1 x1 p1 m1 k p vs hp rvs => by
    have x2 : Ext w1 (w1.push p (.lst vs) (.lst ds)) := Ext.push m1 hp
    exact Run.at (w' := w1.push p (.lst vs) (.lst ds)) k x2 (m1.push hp ⟨vs, upd_same, rvs.mono m1 x2⟩) rfl rfl _ (.han (push_at m1))) fun _ _ _ z => z)
/-- a thing stops changing, where it is told -/
theorem s_F (ha : SE K E te a) : SE K E te (eF a) := fun w ro σ Q e h =>
  ha w ro σ _ e (h.bind.mono (fun d w1 x1 p1 m1 k v rv => by
    cases d with
    | han n =>
      have k' : Run K w1 (match w1.st[n]? with | some (.lst ds) => .ok (.lst ds) (w1.st.set n .dead) | _ => .bad) (OkV K Q) (XP K (E σ)) := k
      cases rv with
      | han ha =>
        cases q : w1.st[n]? with
        | none => rw [q] at k'; exact k'.elim
        | some c =>
          rw [q] at k'
          cases c with
          | lst ds =>
            obtain ⟨vs, hH, r⟩ := m1.cell n _ _ ha q
            exact Run.at (w' := w1.kill n) k' Ext.kill m1.kill rfl rfl _ (Rep.killed m1 ha hH r)
          | ins c fs => exact k'.elim
          | dK kvs => exact k'.elim
          | exn c => exact k'.elim
          | dead => exact k'.elim
    | non => exact k.here m1 v rv
    | bl b => exact k.here m1 v rv
    | int i => exact k.here m1 v rv
    | str s => exact k.here m1 v rv
    | tup xs => exact k.here m1 v rv
    | lst xs => exact k.here m1 v rv
    | fro xs => exact k.here m1 v rv) fun _ _ _ z => z)
theorem s_chain {r' : R2} (h1 : S2 K r f) (h2 : S2 K r' g) (ha : SE K E ta a) (hb : SE K E tb b) (hc : SE K E tc c) : SE K E (tChain r r' ta tb tc) (eChain f g a b c) := fun w ro σ Q e h =>
  ha w ro σ _ e (h.bind.mono (fun d w1 x1 p1 m1 k v rv => hb w1 ro σ _ (e.mono x1 m1) (k.bind.mono (fun d2 w2 x2 p2 m2 k2 v2 rv2 => by
    rw [bnd_assoc] at k2
    refine h1 w2 v v2 d d2 _ _ m2 (rv.mono m1 x2) rv2 (k2.bind.mono (fun z w3 x3 p3 m3 k3 v3 rv3 => ?_) fun _ _ _ z => z)
    obtain ⟨cc, rfl, k5⟩ := toB_run m3 k3.bind
    refine ⟨cc, rep_bl rv3, ?_⟩
    have e3 := e.mono (x1.trans (x2.trans x3)) m3
    cases cc with
    | true =>
      rw [if_pos rfl] at k5 ⊢
      exact hc w3 ro σ _ e3 (k5.bind.mono (fun d4 w4 x4 p4 m4 k4 v4 rv4 => h2 w4 v2 v4 d2 d4 Q _ m4 ((rv2.mono m2 x3).mono m3 x4) rv4 k4) fun _ _ _ z => z)
    | false => rw [if_neg Bool.false_ne_true] at k5 ⊢; exact k5.here m3 _ (.bl false)) fun _ _ _ z => z)) fun _ _ _ z => z)
theorem s_cb {r : List V → Hp → VK → Prop} {f : List Da → Mo Da} (hc : SC K r f) (ha : SA K E tA al) : SE K E (tCB r tA) (eCall f al) := fun w ro σ Q e h =>
  ha w ro σ _ e (h.bind.mono (fun ds w1 x1 p1 m1 k vs rvs => hc w1 vs ds Q _ m1 rvs k) fun _ _ _ z => z)
end
end CL
namespace CL
open PySem PySem.Spec L2
abbrev szD : Nat := 1000000
theorem szD_le {n : Nat} (h : n ≤ szD) : n ≤ sizeLine := Nat.le_trans h (by decide)
theorem szD_lt {n : Nat} (h : n < szD) : n < sizeLine := Nat.lt_of_lt_of_le h (by decide)
/-- the items of a list -/
def lsOf (st : Store) : Da → Option (List Da)
  | .lst xs => some xs
  | .han n => match st[n]? with
    | some (.lst xs) => some xs
    | _ => none
  | _ => none
/-- .. of a list or tuple, the script too -/
def sqOf (st : Store) : Da → Option (List Da)
  | .tup xs => some xs
  | .fro xs => some xs
  | d => lsOf st d
section
variable {K : PySem.W.Frag} {w : Wd}
theorem ls_rep {v : V} {d : Da} {ds : List Da} (m : Em K w) (r : Rep K w v d) (h : lsOf w.st d = some ds) : ∃ a vs, v = .ref a ∧ w.H a = some (.lst vs) ∧ RepL K w vs ds := by
  cases r with
  | lst h1 _ r1 => cases h; exact ⟨_, _, rfl, h1, r1⟩
  | @han a n ha =>
    have h' : (match w.st[n]? with | some (.lst xs) => some xs | _ => none) = some ds := h
    cases q : w.st[n]? with
    | none => rw [q] at h'; cases h'
    | some c =>
      rw [q] at h'
      cases c with
      | lst xs =>
        cases h'
        obtain ⟨vs, hH, r⟩ := m.cell n a _ ha q
        exact ⟨a, vs, rfl, hH, r⟩
      | ins c fs => cases h'
      | dK kvs => cases h'
      | exn c => cases h'
      | dead => cases h'
  | non => cases h
  | bl b => cases h
  | int i => cases h
  | str s => cases h
  | tup h1 r1 => cases h
  | fro h1 r1 => cases h
theorem sq_rep {v : V} {d : Da} {ds : List Da} (m : Em K w) (r : Rep K w v d) (h : sqOf w.st d = some ds) : ∃ a vs, v = .ref a ∧ (SqL K w.H a vs ∨ SqT K w.H a vs) ∧ RepL K w vs ds := by
  cases r with
  | tup h1 r1 => cases h; exact ⟨_, _, rfl, .inr h1, r1⟩
  | fro h1 r1 => cases h; exact ⟨_, _, rfl, .inl h1.sq, r1⟩
  | lst h1 n1 r1 =>
    obtain ⟨a, vs, e, h2, r2⟩ := ls_rep m (.lst h1 n1 r1) h
    exact ⟨a, vs, e, .inl (SqL.of h2), r2⟩
  | han ha =>
    obtain ⟨a, vs, e, h2, r2⟩ := ls_rep m (.han ha) h
    exact ⟨a, vs, e, .inl (SqL.of h2), r2⟩
  | non => cases h
  | bl b => cases h
  | int i => cases h
  | str s => cases h
end
def addD : Da → Da → Mo Da
  | .int i, .int j => ret (.int (i + j))
  | .str a, .str b => if a.length + b.length ≤ szD then ret (.str (a ++ b)) else nop
  | .tup xs, .tup ys => if xs.length + ys.length ≤ szD then ret (.tup (xs ++ ys)) else nop
  | d, e => fun st => match lsOf st d, lsOf st e with
    | some xs, some ys => if xs.length + ys.length ≤ szD then .ok (.lst (xs ++ ys)) st else .bad
    | _, _ => .bad
def catL (d e : Da) : Mo (List Da) := fun st => match lsOf st d, lsOf st e with
    | some xs, some ys => if xs.length + ys.length ≤ szD then .ok (xs ++ ys) st else .bad
    | _, _ => .bad
def subD : Da → Da → Mo Da
  | .int i, .int j => ret (.int (i - j))
  | _, _ => nop
instance (i j : Int) : Decidable (CMul i j) := by unfold CMul; infer_instance
instance (i j : Int) : Decidable (CDivN i j) := by unfold CDivN; infer_instance
instance (i j : Int) : Decidable (CPow i j) := by unfold CPow; infer_instance
def mulD : Da → Da → Mo Da
  | .int i, .int j => if CMul i j then ret (.int (i * j)) else nop
  | _, _ => nop
def fdivD : Da → Da → Mo Da
  | .int i, .int j => if CDivN i j then ret (.int (i.fdiv j)) else nop
  | _, _ => nop
def modD : Da → Da → Mo Da
  | .int i, .int j => if j ≠ 0 then ret (.int (i.fmod j)) else nop
  | _, _ => nop
def powD : Da → Da → Mo Da
  | .int i, .int j => if CPow i j then ret (.int (i ^ j.toNat)) else nop
  | _, _ => nop
def cmpI (f : Int → Int → Bool) : Da → Da → Mo Da
  | .int i, .int j => ret (.bl (f i j))
  | _, _ => nop
def ltD := cmpI fun i j => decide (i < j)
def leD := cmpI fun i j => decide (i ≤ j)
def gtD := cmpI fun i j => decide (j < i)
def geD := cmpI fun i j => decide (j ≤ i)
mutual
def pyW (hf : Nat → Option PyData) : Da → Option PyData
  | .non => some .none
  | .bl b => some (.bool b)
  | .int i => some (.int i)
  | .str s => some (.str s)
  | .tup xs => (pyWL hf xs).map .tuple
  | .lst xs => (pyWL hf xs).map .list
  | .fro xs => (pyWL hf xs).map .list
  | .han n => hf n
def pyWL (hf : Nat → Option PyData) : List Da → Option (List PyData)
  | [] => some []
  | x :: xs => match pyW hf x, pyWL hf xs with
    | some d, some ds => some (d :: ds)
    | _, _ => none
end
abbrev py0L : List Da → Option (List PyData) := pyWL fun _ => none
def hfOf (st : Store) (n : Nat) : Option PyData := match st[n]? with
  | some (.lst xs) => (py0L xs).map .list
  | _ => none
abbrev pyD (st : Store) : Da → Option PyData := pyW (hfOf st)
section
variable {K : PySem.W.Frag} {w : Wd}
mutual
theorem dp_of {hf : Nat → Option PyData} (hh : ∀ n a p, hf n = some p → w.io[n]? = some a → Dp K w.H (.ref a) p) : ∀ (d : Da) (v : V) (p : PyData), Rep K w v d → pyW hf d = some p → Dp K w.H v p
  | .non, _, _, r, h => by cases r; cases h; exact .non
  | .bl b, _, _, r, h => by cases r; cases h; exact .bl b
  | .int i, _, _, r, h => by cases r; cases h; exact .int i
  | .str s, _, _, r, h => by cases r; cases h; exact .str s
  | .tup xs, _, _, r, h => by
    cases r with
    | tup h1 r1 =>
      unfold pyW at h
      cases q : pyWL hf xs with
      | none => rw [q] at h; cases h
      | some ps => rw [q] at h; cases h; exact .tup h1 (dpAll_of hh xs _ ps r1 q)
  | .lst xs, _, _, r, h => by
    cases r with
    | lst h1 _ r1 =>
      unfold pyW at h
      cases q : pyWL hf xs with
      | none => rw [q] at h; cases h
      | some ps => rw [q] at h; cases h; exact .lst (SqL.of h1) (dpAll_of hh xs _ ps r1 q)
  | .fro xs, _, _, r, h => by
    cases r with
    | fro h1 r1 =>
      unfold pyW at h
      cases q : pyWL hf xs with
      | none => rw [q] at h; cases h
      | some ps => rw [q] at h; cases h; exact .lst h1.sq (dpAll_of hh xs _ ps r1 q)
  | .han n, _, _, r, h => by
    cases r with
    | han ha => exact hh n _ _ (by unfold pyW at h; exact h) ha
theorem dpAll_of {hf : Nat → Option PyData} (hh : ∀ n a p, hf n = some p → w.io[n]? = some a → Dp K w.H (.ref a) p) : ∀ (ds : List Da) (vs : List V) (ps : List PyData), RepL K w vs ds → pyWL hf ds = some ps → DpAll K w.H vs ps
  | [], _, _, r, h => by cases r; cases h; exact .nil
  | d :: ds, _, _, r, h => by
    cases r with
    | cons r1 r2 =>
      unfold pyWL at h
      cases q1 : pyW hf d with
      | none => rw [q1] at h; cases h
      | some p =>
        cases q2 : pyWL hf ds with
        | none => rw [q1, q2] at h; cases h
        | some ps => rw [q1, q2] at h; cases h; exact .cons (dp_of hh d _ p r1 q1) (dpAll_of hh ds _ ps r2 q2)
end
theorem dp_hf (m : Em K w) : ∀ n a p, hfOf w.st n = some p → w.io[n]? = some a → Dp K w.H (.ref a) p := fun n a p h ha => by
  unfold hfOf at h
  cases q : w.st[n]? with
  | none => rw [q] at h; cases h
  | some c =>
    rw [q] at h
    cases c with
    | lst xs =>
      obtain ⟨vs, hH, r⟩ := m.cell n a _ ha q
      have h' : (py0L xs).map PyData.list = some p := h
      cases q2 : py0L xs with
      | none => rw [q2] at h'; cases h'
      | some ps =>
        rw [q2] at h'
        cases h'
        exact .lst (SqL.of hH) (dpAll_of (hf := fun _ => none) (fun _ _ _ z => nomatch z) xs vs ps r q2)
    | ins c fs => cases h
    | dK kvs => cases h
    | exn c => cases h
    | dead => cases h
theorem dp_py (m : Em K w) {d : Da} {v : V} {p : PyData} (r : Rep K w v d) (h : pyD w.st d = some p) : Dp K w.H v p := dp_of (dp_hf m) d v p r h
end
def eqB (neg : Bool) (d e : Da) : Mo Da := fun st => match pyD st d, pyD st e with
  | some p, some q => if (SeqAt.shaped p && SeqAt.shaped q) = true then .ok (.bl (if neg then !PyData.eqv p q else PyData.eqv p q)) st else .bad
  | _, _ => .bad
abbrev eqD := eqB false
abbrev neD := eqB true
def isB (neg : Bool) : Da → Da → Mo Da
  | .bl a, .bl b => ret (.bl (if neg then !decide (a = b) else decide (a = b)))
  | d, .non => ret (.bl (if neg then !(match d with | .non => true | _ => false) else match d with | .non => true | _ => false))
  | _, _ => nop
def negD : Da → Mo Da
  | .int i => ret (.int (-i))
  | _ => nop
def ixD (d e : Da) : Mo Da := fun st => match e with
  | .int i => (match d with
    | .str s => if s.length ≤ szD then (match atI s.cps.toList i with
      | some c => .ok (.str ⟨#[c]⟩) st
      | none => .bad) else .bad
    | d => (match d with
      | .fro _ => .bad
      | d => match sqOf st d with
        | some xs => (match atI xs i with
          | some x => .ok x st
          | none => .bad)
        | none => .bad))
  | _ => .bad
def cutD (xs : List Da) (lo hi : Option Int) : List Da := (xs.drop (HT.sIx xs.length 0 lo)).take (HT.sIx xs.length xs.length hi - HT.sIx xs.length 0 lo)
structure QO (X : Cx) (f : Value → Value → Sem Value) (r : R2) (g : Da → Da → Mo Da) : Prop where
  op : OpR X f r
  s2 : S2 X.K r g
def rOr (r r' : R2) : R2 := fun x y H Q => r x y H Q ∨ r' x y H Q
section
variable {X : Cx} {K : PySem.W.Frag} {w : Wd}
theorem OpR.or {f : Value → Value → Sem Value} {r r' : R2} (h : OpR X f r) (h' : OpR X f r') : OpR X f (rOr r r') := fun pins s σ H x y v u Q I rx ry q => by
  rcases q with q | q
  · exact h pins s σ H x y v u Q I rx ry q
  · exact h' pins s σ H x y v u Q I rx ry q
theorem QO.or2 {f : Value → Value → Sem Value} {g : Da → Da → Mo Da} {r r' : R2} (h : OpR X f r) (h' : OpR X f r') (s : S2 X.K (rOr r r') g) : QO X f (rOr r r') g := ⟨OpR.or h h', s⟩
theorem at_map {vs : List V} {ds : List Da} {i : Int} {x : Da} (r : RepL K w vs ds) (h : atI ds i = some x) : ∃ v, atI vs i = some v ∧ Rep K w v x := by
  unfold atI at h ⊢
  rw [r.length]
  cases q : ixN ds.length i with
  | none => rw [q] at h; cases h
  | some j =>
    rw [q] at h
    exact r.get h
theorem q_sub : QO X (binaryOp .Sub) (rI0 fun i j => .int (i - j)) subD := ⟨op_sub, fun w x y d e Q ex m rx ry h => by
  unfold subD at h
  split at h
  · cases rx; cases ry
    exact ⟨_, _, rfl, rfl, h.here m _ (.int _)⟩
  · exact h.elim⟩
theorem q_mul : QO X (binaryOp .Mult) (rI CMul fun i j => .int (i * j)) mulD := ⟨op_mul, fun w x y d e Q ex m rx ry h => by
  unfold mulD at h
  split at h
  · cases rx; cases ry
    split at h
    · rename_i hc
      exact ⟨_, _, rfl, rfl, hc, h.here m _ (.int _)⟩
    · exact h.elim
  · exact h.elim⟩
theorem q_fdiv : QO X (binaryOp .FloorDiv) (rI CDivN fun i j => .int (i.fdiv j)) fdivD := ⟨op_fdivN, fun w x y d e Q ex m rx ry h => by
  unfold fdivD at h
  split at h
  · cases rx; cases ry
    split at h
    · rename_i hc
      exact ⟨_, _, rfl, rfl, hc, h.here m _ (.int _)⟩
    · exact h.elim
  · exact h.elim⟩
theorem q_mod : QO X (binaryOp .Mod) (rI (fun _ j => j ≠ 0) fun i j => .int (i.fmod j)) modD := ⟨op_modN, fun w x y d e Q ex m rx ry h => by
  unfold modD at h
  split at h
  · cases rx; cases ry
    split at h
    · rename_i hc
      exact ⟨_, _, rfl, rfl, hc, h.here m _ (.int _)⟩
    · exact h.elim
  · exact h.elim⟩
theorem q_pow : QO X (binaryOp .Pow) (rI CPow fun i j => .int (i ^ j.toNat)) powD := ⟨op_pow, fun w x y d e Q ex m rx ry h => by
  unfold powD at h
  split at h
  · cases rx; cases ry
    split at h
    · rename_i hc
      exact ⟨_, _, rfl, rfl, hc, h.here m _ (.int _)⟩
    · exact h.elim
  · exact h.elim⟩
theorem q_cmpI {op : CmpOp} {f : Int → Int → Bool} (ho : OpR X (compareOp op) (rI0 fun i j => .bl (f i j))) : QO X (compareOp op) (rI0 fun i j => .bl (f i j)) (cmpI f) := ⟨ho, fun w x y d e Q ex m rx ry h => by
  unfold cmpI at h
  split at h
  · cases rx; cases ry
    exact ⟨_, _, rfl, rfl, h.here m _ (.bl _)⟩
  · exact h.elim⟩
theorem q_lt : QO X (compareOp .Lt) (rI0 fun i j => .bl (decide (i < j))) ltD := q_cmpI op_lt
theorem q_le : QO X (compareOp .LtE) (rI0 fun i j => .bl (decide (i ≤ j))) leD := q_cmpI op_le
theorem q_gt : QO X (compareOp .Gt) (rI0 fun i j => .bl (decide (j < i))) gtD := q_cmpI op_gt
theorem q_ge : QO X (compareOp .GtE) (rI0 fun i j => .bl (decide (j ≤ i))) geD := q_cmpI op_ge
theorem q_eqB {op : CmpOp} {neg : Bool} {r : R2} (ho : OpR X (compareOp op) r) (hr : ∀ x y H Q d e, Dp X.K H x d → Dp X.K H y e → SeqAt.shaped d = true → SeqAt.shaped e = true → Q (.bl (if neg then !PyData.eqv d e else PyData.eqv d e)) H → r x y H Q) : QO X (compareOp op) r (eqB neg) := ⟨ho, fun w x y d e Q ex m rx ry h => by
  unfold eqB at h
  split at h
  · rename_i p q h1 h2
    split at h
    · rename_i hs
      obtain ⟨s1, s2⟩ := Bool.and_eq_true_iff.mp hs
      exact hr x y w.H Q p q (dp_py m rx h1) (dp_py m ry h2) s1 s2 (h.here m _ (.bl _))
    · exact h.elim
  · exact h.elim⟩
theorem q_eq' (hu : X.A.units + 64 < cLine) : QO X (compareOp .Eq) (rEqD X.K) eqD := q_eqB (op_eqD hu) fun x y H Q d e h1 h2 h3 h4 h => ⟨d, e, h1, h2, h3, h4, h⟩
theorem q_ne' (hu : X.A.units + 64 < cLine) : QO X (compareOp .NotEq) (rNeD X.K) neD := q_eqB (op_neD hu) fun x y H Q d e h1 h2 h3 h4 h => ⟨d, e, h1, h2, h3, h4, h⟩
theorem q_isB {op : CmpOp} {neg : Bool} {r r' : R2} (ho : OpR X (compareOp op) r) (ho' : OpR X (compareOp op) r') (h1 : ∀ x H Q, Q (.bl (if neg then !decide (x = .non) else decide (x = .non))) H → r x .non H Q) (h2 : ∀ a b H Q, Q (.bl (if neg then !decide (a = b) else decide (a = b))) H → r' (.bl a) (.bl b) H Q) :
    QO X (compareOp op) (rOr r r') (isB neg) := QO.or2 ho ho' fun w x y d e Q ex m rx ry h => by
  unfold isB at h
  split at h
  · cases rx; cases ry
    exact .inr (h2 _ _ _ _ (h.here m _ (.bl _)))
  · cases ry
    refine .inl (h1 _ _ _ ?_)
    have k := h.here m _ (.bl _)
    cases rx <;> exact k
  · exact h.elim
abbrev rIs : R2 := rOr (fun x y H Q => y = .non ∧ Q (.bl (decide (x = .non))) H) (fun x y H Q => ∃ a b, x = .bl a ∧ y = .bl b ∧ Q (.bl (decide (a = b))) H)
abbrev rIsNot : R2 := rOr (fun x y H Q => y = .non ∧ Q (.bl (!decide (x = .non))) H) (fun x y H Q => ∃ a b, x = .bl a ∧ y = .bl b ∧ Q (.bl (!decide (a = b))) H)
theorem q_is : QO X (compareOp .Is) rIs (isB false) := q_isB op_isN op_is_bl (fun x H Q h => ⟨rfl, h⟩) fun a b H Q h => ⟨a, b, rfl, rfl, h⟩
theorem q_isNot : QO X (compareOp .IsNot) rIsNot (isB true) := q_isB op_notN op_isnot_bl (fun x H Q h => ⟨rfl, h⟩) fun a b H Q h => ⟨a, b, rfl, rfl, h⟩
def rAddA (K : PySem.W.Frag) : R2 := rOr (rOr (rI0 fun i j => .int (i + j)) (fun x y H Q => ∃ i j, x = .str i ∧ y = .str j ∧ i.length + j.length ≤ sizeLine ∧ Q (.str (i ++ j)) H)) (rOr (rCatA K) rCat)
theorem q_add' : QO X (binaryOp .Add) (rAddA X.K) addD := by
  refine ⟨OpR.or (OpR.or op_add op_add_str) (OpR.or op_catA op_cat), fun w x y d e Q ex m rx ry h => ?_⟩
  unfold addD at h
  split at h
  · cases rx; cases ry
    exact .inl (.inl ⟨_, _, rfl, rfl, h.here m _ (.int _)⟩)
  · cases rx; cases ry
    split at h
    · rename_i hl
      exact .inl (.inr ⟨_, _, rfl, rfl, szD_le hl, h.here m _ (.str _)⟩)
    · exact h.elim
  · split at h
    · rename_i hl
      cases rx with
      | @tup a vs _ h1 r1 =>
        cases ry with
        | @tup b us _ h2 r2 =>
          refine .inr (.inl ⟨a, b, vs, us, rfl, rfl, h1, h2, ?_, fun e => ?_, fun n1 e => ?_, fun n1 n2 p hp => ?_⟩)
          · rw [r1.length, r2.length]; exact szD_le hl
          · subst e; cases r1; exact h.here m _ (.tup h2 r2)
          · subst e; cases r2; rw [List.append_nil] at h; exact h.here m _ (.tup h1 r1)
          · exact Run.at (w' := w.new p (.tup (vs ++ us))) h (Ext.new m hp) (m.new hp) rfl rfl _ (Rep.newTup m hp (r1.append r2))
    · exact h.elim
  · dsimp only at h
    split at h
    · rename_i xs ys h1 h2
      split at h
      · rename_i hl
        obtain ⟨a, vs, rfl, hH, r1⟩ := ls_rep m rx h1
        obtain ⟨b, us, rfl, hH2, r2⟩ := ls_rep m ry h2
        refine .inr (.inr ⟨a, b, vs, us, rfl, rfl, hH, hH2, by rw [r1.length, r2.length]; exact szD_le hl, fun p hp => ?_⟩)
        exact Run.at (w' := w.new p (.lst (vs ++ us))) h (Ext.new m hp) (m.new hp) rfl rfl _ (Rep.newLst m hp (r1.append r2))
      · exact h.elim
    · exact h.elim
/-- a new list out of two operands -/
structure QOL (X : Cx) (f : Value → Value → Sem Value) (r : R2) (g : Da → Da → Mo (List Da)) : Prop where
  op : OpR X f r
  s2 : ∀ (w : Wd) (x y : V) (d e : Da) (Q : VK) (ex : Str → List Da → Wd → Prop), Em X.K w → Rep X.K w x d → Rep X.K w y e →
  Run X.K w (g d e w.st) (OkL X.K Q) ex → r x y w.H Q
theorem ql_cat : QOL X (binaryOp .Add) rCat catL := ⟨op_cat, fun w x y d e Q ex m rx ry h => by
  unfold catL at h
  split at h
  · rename_i xs ys h1 h2
    split at h
    · rename_i hl
      obtain ⟨a, vs, rfl, hH, r1⟩ := ls_rep m rx h1
      obtain ⟨b, us, rfl, hH2, r2⟩ := ls_rep m ry h2
      exact ⟨a, b, vs, us, rfl, rfl, hH, hH2, by rw [r1.length, r2.length]; exact szD_le hl, fun p hp => h.here m p _ hp (r1.append r2)⟩
    · exact h.elim
  · exact h.elim⟩
theorem q_ix : IxR X (rIx X.K) ∧ S2 X.K (rIx X.K) ixD := by
  refine ⟨ix_seq, fun w x y d e Q ex m rx ry h => ?_⟩
  unfold ixD at h
  split at h
  · cases ry
    split at h
    · cases rx
      split at h
      · rename_i hl
        split at h
        · rename_i c hc
          exact .inr (.inr ⟨_, _, c, rfl, rfl, szD_le hl, hc, h.here m _ (.str _)⟩)
        · exact h.elim
      · exact h.elim
    · split at h
      · exact h.elim
      · rename_i hs hf
        split at h
        · rename_i xs hx
          split at h
          · rename_i z hz
            obtain ⟨a, vs, rfl, hq, rl⟩ := sq_rep m rx hx
            obtain ⟨v, hv, rv⟩ := at_map rl hz
            rcases hq with hq | hq
            · exact .inl ⟨a, vs, _, v, rfl, rfl, hq, hv, h.here m v rv⟩
            · exact .inr (.inl ⟨a, vs, _, v, rfl, rfl, hq, hv, h.here m v rv⟩)
          · exact h.elim
        · exact h.elim
  · exact h.elim
theorem cut_rep {vs : List V} {ds : List Da} (r : RepL K w vs ds) (lo hi : Option Int) : RepL K w (cutV vs lo hi) (cutD ds lo hi) := by
  unfold cutV cutD
  rw [r.length]
  exact (r.drop _).take _
def slL (d : Da) (lo hi : Option Int) : Mo (List Da) := fun st => match lsOf st d with
  | some xs => .ok (cutD xs lo hi) st
  | none => .bad
def slA : Da → Option Int → Option Int → Mo Da
  | .tup xs, lo, hi => ret (.tup (cutD xs lo hi))
  | .str s, lo, hi => if s.length ≤ szD then ret (.str (cutS s lo hi)) else nop
  | d, lo, hi => fun st => match lsOf st d with
    | some xs => .ok (.lst (cutD xs lo hi)) st
    | none => .bad
def S3 (K : PySem.W.Frag) (r : V → Option Int → Option Int → Hp → VK → Prop) (f : Da → Option Int → Option Int → Mo Da) : Prop := ∀ (w : Wd) (x : V) (d : Da) (lo hi : Option Int) (Q : VK) (ex : Str → List Da → Wd → Prop), Em K w → Rep K w x d →
  Run K w (f d lo hi w.st) (OkV K Q) ex → r x lo hi w.H Q
def rSlAll (K : PySem.W.Frag) : V → Option Int → Option Int → Hp → VK → Prop := fun x lo hi H Q => (rSlA K x lo hi H Q ∨ rSlS x lo hi H Q) ∨ rSlL K x lo hi H Q
theorem q_slA : SlR X (rSlAll X.K) ∧ S3 X.K (rSlAll X.K) slA := by
  refine ⟨SlR.or (SlR.or sl_tupA sl_str) sl_list, fun w x d lo hi Q ex m rx h => ?_⟩
  unfold slA at h
  split at h
  · rename_i ys
    cases rx with
    | @tup a vs _ h1 r1 =>
      refine .inl (.inl ⟨a, vs, rfl, h1, fun hw => ?_, fun _ p hp => ?_⟩)
      · have k := h.here m (.ref a)
        refine k (.tup h1 ?_)
        have e : cutD ys lo hi = ys := by
          unfold cutD
          rw [← r1.length, hw.1, hw.2]
          simp only [List.drop_zero, Nat.sub_zero]
          rw [r1.length, List.take_length]
        rw [e]
        exact r1
      · exact Run.at (w' := w.new p (.tup (cutV vs lo hi))) h (Ext.new m hp) (m.new hp) rfl rfl _ (Rep.newTup m hp (cut_rep r1 lo hi))
  · cases rx
    split at h
    · rename_i hl
      exact .inl (.inr ⟨_, rfl, szD_le hl, h.here m _ (.str _)⟩)
    · exact h.elim
  · dsimp only at h
    split at h
    · rename_i xs h1
      obtain ⟨a, vs, rfl, hH, r1⟩ := ls_rep m rx h1
      refine .inr ⟨a, vs, rfl, SqL.of hH, fun p hp => ?_⟩
      exact Run.at (w' := w.new p (.lst (cutV vs lo hi))) h (Ext.new m hp) (m.new hp) rfl rfl _ (Rep.newLst m hp (cut_rep r1 lo hi))
    · exact h.elim
theorem q_eq {K : PySem.W.Frag} (hu : X.A.units + 64 < cLine) (hK : X.K = K := by rfl) : QO X (compareOp .Eq) (rEqD K) eqD := by subst hK; exact q_eq' hu
theorem q_ne {K : PySem.W.Frag} (hu : X.A.units + 64 < cLine) (hK : X.K = K := by rfl) : QO X (compareOp .NotEq) (rNeD K) neD := by subst hK; exact q_ne' hu
theorem q_add {K : PySem.W.Frag} (hK : X.K = K := by rfl) : QO X (binaryOp .Add) (rAddA K) addD := by subst hK; exact q_add'
end
end CL
namespace CL
open PySem PySem.Spec L2
inductive Tn where
  | non | bool | int | str | list | tuple | dict
  deriving DecidableEq
def Tn.name : Tn → String
  | .non => "NoneType"
  | .bool => "bool"
  | .int => "int"
  | .str => "str"
  | .list => "list"
  | .tuple => "tuple"
  | .dict => "dict"
def isTn (a t : Tn) : Bool := decide (a = t) || (decide (a = .bool) && decide (t = .int))
def tyN (st : Store) : Da → Option Tn
  | .non => some .non
  | .bl _ => some .bool
  | .int _ => some .int
  | .str _ => some .str
  | .tup _ => some .tuple
  | .lst _ => some .list
  | .fro _ => some .list
  | .han n => match st[n]? with
    | some (.lst _) => some .list
    | some (.dK _) => some .dict
    | _ => none
theorem kit_tn : ∀ a t : Tn, t ≠ .non → t ≠ .dict → kitB a.name t.name = some (isTn a t) := by
  intro a t
  cases t <;> intro h1 h2 <;> first | exact absurd rfl h1 | exact absurd rfl h2 | (cases a <;> decide +kernel)
def isT (t : Tn) (d : Da) : Mo Da := fun st => match tyN st d with
  | some a => .ok (.bl (isTn a t)) st
  | none => .bad
def lenD (d : Da) : Mo Da := fun st => match d with
  | .str s => if s.length ≤ szD then .ok (.int s.length) st else .bad
  | d => match sqOf st d with
    | some xs => .ok (.int xs.length) st
    | none => .bad
def one {A : Type} (f : Da → Mo A) : List Da → Mo A
  | [d] => f d
  | _ => nop
def two {A : Type} (f : Da → Da → Mo A) : List Da → Mo A
  | [d, e] => f d e
  | _ => nop
def listD (d : Da) : Mo (List Da) := fun st => match sqOf st d with
  | some xs => .ok xs st
  | none => .bad
def tupleD (d : Da) : Mo Da := fun st => match d with
  | .fro _ => .bad
  | d => match sqOf st d with
    | some xs => .ok (.tup xs) st
    | none => .bad
def blsOf : List Da → Option (List Bool)
  | [] => some []
  | .bl b :: r => (blsOf r).map (b :: ·)
  | _ => none
def allD (d : Da) : Mo Da := fun st => match lsOf st d with
  | some xs => (match blsOf xs with
    | some bs => .ok (.bl (bs.all id)) st
    | none => .bad)
  | none => .bad
def maxD : Da → Da → Mo Da
  | .int i, .int j => ret (.int (if j > i then j else i))
  | _, _ => nop
def minD : Da → Da → Mo Da
  | .int i, .int j => ret (.int (if j < i then j else i))
  | _, _ => nop
section
variable {X : Cx} {K : PySem.W.Frag} {w : Wd}
theorem ty_rep {v : V} {d : Da} {a : Tn} (m : Em K w) (r : Rep K w v d) (h : tyN w.st d = some a) : TyX K w.H v (.type a.name) := by
  cases r with
  | non => cases h; exact .base .non
  | bl b => cases h; exact .base (.bl b)
  | int i => cases h; exact .base (.int i)
  | str s => cases h; exact .base (.str s)
  | tup h1 r1 =>
    cases h
    rcases h1 with (h1 | ⟨o, h1⟩) | ⟨o, its, n, h1, h2, _⟩
    · exact .base (.tup h1)
    · exact .fTuple h1
    · exact .kTuple h1 h2
  | lst h1 _ r1 => cases h; exact .base (.lst h1)
  | fro h1 r1 =>
    cases h
    rcases h1 with ⟨o, h1⟩ | ⟨o, its, n, h1, h2, _⟩
    · exact .base (.frz h1)
    · exact .kList h1 h2
  | @han a n ha =>
    have h' : (match w.st[n]? with | some (.lst _) => some Tn.list | some (.dK _) => some Tn.dict | _ => none) = some _ := h
    cases q : w.st[n]? with
    | none => rw [q] at h'; cases h'
    | some c =>
      rw [q] at h'
      have ok := m.cell n a c ha q
      cases c with
      | lst xs => cases h'; obtain ⟨vs, hH, _⟩ := ok; exact .base (.lst hH)
      | dK xs => cases h'; obtain ⟨vs, hH, _⟩ := ok; exact .base (.dK hH)
      | ins c fs => cases h'
      | exn c => cases h'
      | dead => cases h'
theorem sc_isT {t : Tn} (h1 : t ≠ .non) (h2 : t ≠ .dict) : ∀ (w : Wd) (x : V) (d : Da) (Q : VK) (ex : Str → List Da → Wd → Prop), Em K w → Rep K w x d → Run K w (isT t d w.st) (OkV K Q) ex → rIsi K [x, .ty t.name] w.H Q := fun w x d Q ex m rx h => by
  unfold isT at h
  split at h
  · rename_i a ha
    exact ⟨x, .ty t.name, .type a.name, .type t.name, isTn a t, rfl, .ty _, ty_rep m rx ha, kit_ty (kit_tn a t h1 h2), h.here m _ (.bl _)⟩
  · exact h.elim
theorem one_rep {A : Type} {vs : List V} {ds : List Da} {f : Da → Mo A} {ok : A → Wd → Prop} {ex : Str → List Da → Wd → Prop} (r : RepL K w vs ds) (h : Run K w (one f ds w.st) ok ex) : ∃ v d, vs = [v] ∧ ds = [d] ∧ Rep K w v d ∧ Run K w (f d w.st) ok ex := by
  unfold one at h
  split at h
  · cases r with
    | cons r1 r2 => cases r2; exact ⟨_, _, rfl, rfl, r1, h⟩
  · exact h.elim
theorem sc_len : SC K (fun xs H Q => ∃ x n, xs = [x] ∧ LenV K x H n ∧ Q (.int n) H) (one lenD) := fun w xs ds Q ex m r h => by
  obtain ⟨v, d, rfl, rfl, rv, h⟩ := one_rep r h
  unfold lenD at h
  split at h
  · cases rv
    split at h
    · rename_i hl
      exact ⟨_, _, rfl, ⟨szD_le hl, rfl⟩, h.here m _ (.int _)⟩
    · exact h.elim
  · split at h
    · rename_i ys hy
      obtain ⟨a, vs, rfl, hq, rl⟩ := sq_rep m rv hy
      rw [← rl.length] at h
      rcases hq with hq | hq
      · exact ⟨_, vs.length, rfl, .inl ⟨vs, hq, rfl⟩, h.here m _ (.int _)⟩
      · exact ⟨_, vs.length, rfl, .inr ⟨vs, hq, rfl⟩, h.here m _ (.int _)⟩
    · exact h.elim
theorem sc_list : SCL K (fun xs H Q => ∃ p ys, xs = [.ref p] ∧ (SqL K H p ys ∨ SqT K H p ys) ∧ ∀ l, H l = none → Q (.ref l) (upd H l (.lst ys))) (one listD) := fun w xs ds Q ex m r h => by
  obtain ⟨v, d, rfl, rfl, rv, h⟩ := one_rep r h
  unfold listD at h
  split at h
  · rename_i ys hy
    obtain ⟨a, vs, rfl, hq, rl⟩ := sq_rep m rv hy
    exact ⟨a, vs, rfl, hq, fun p hp => okL_fresh m h rfl hp rl⟩
  · exact h.elim
theorem sc_tuple : SC K (fun xs H Q => ∃ p ys, xs = [.ref p] ∧ ((SqL K H p ys ∧ ∀ l, H l = none → Q (.ref l) (upd H l (.tup ys))) ∨ (SqT K H p ys ∧ Q (.ref p) H))) (one tupleD) := fun w xs ds Q ex m r h => by
  obtain ⟨v, d, rfl, rfl, rv, h⟩ := one_rep r h
  unfold tupleD at h
  split at h
  · exact h.elim
  · split at h
    · rename_i ys hy
      obtain ⟨a, vs, rfl, hq, rl⟩ := sq_rep m rv hy
      rcases hq with hq | hq
      · exact ⟨a, vs, rfl, .inl ⟨hq, fun p hp => Run.at (w' := w.new p (.tup vs)) h (Ext.new m hp) (m.new hp) rfl rfl _ (Rep.newTup m hp rl)⟩⟩
      · exact ⟨a, vs, rfl, .inr ⟨hq, h.here m _ (.tup hq rl)⟩⟩
    · exact h.elim
theorem bls_rep : ∀ {ds : List Da} {vs : List V} {bs : List Bool}, RepL K w vs ds → blsOf ds = some bs → vs = bs.map V.bl
  | [], _, _, .nil, h => by cases h; rfl
  | .bl b :: r, _, _, .cons r1 r2, h => by
    unfold blsOf at h
    cases q : blsOf r with
    | none => rw [q] at h; cases h
    | some bs =>
      rw [q] at h
      cases h
      cases r1
      rw [bls_rep r2 q]
      rfl
  | .non :: r, _, _, _, h => by unfold blsOf at h; cases h
  | .int _ :: r, _, _, _, h => by unfold blsOf at h; cases h
  | .str _ :: r, _, _, _, h => by unfold blsOf at h; cases h
  | .tup _ :: r, _, _, _, h => by unfold blsOf at h; cases h
  | .lst _ :: r, _, _, _, h => by unfold blsOf at h; cases h
  | .fro _ :: r, _, _, _, h => by unfold blsOf at h; cases h
  | .han _ :: r, _, _, _, h => by unfold blsOf at h; cases h
theorem sc_all : SC K (rAll K) (one allD) := fun w xs ds Q ex m r h => by
  obtain ⟨v, d, rfl, rfl, rv, h⟩ := one_rep r h
  unfold allD at h
  split at h
  · rename_i ys hy
    obtain ⟨a, vs, rfl, hH, rl⟩ := ls_rep m rv hy
    split at h
    · rename_i bs hb
      have e := bls_rep rl hb
      subst e
      exact ⟨a, bs, rfl, SqL.of hH, h.here m _ (.bl _)⟩
    · exact h.elim
  · exact h.elim
end
def isLs (d : Da) : Mo Unit := fun st => match lsOf st d with
  | some _ => .ok () st
  | none => .bad
def appD (d x : Da) : Mo Da := fun st => match d with
  | .han n => (match st[n]? with
    | some (.lst xs) => if xs.length < szD then .ok .non (st.set n (.lst (xs ++ [x]))) else .bad
    | _ => .bad)
  | _ => .bad
def popD (d : Da) : Mo Da := fun st => match d with
  | .han n => (match st[n]? with
    | some (.lst xs) => (match xs[xs.length - 1]? with
      | some x => .ok x (st.set n (.lst xs.dropLast))
      | none => .bad)
    | _ => .bad)
  | _ => .bad
def setD (d i x : Da) : Mo Unit := fun st => match d, i with
  | .han n, .int k => (match st[n]? with
    | some (.lst xs) => (match ixN xs.length k with
      | some j => .ok () (st.set n (.lst (xs.set j x)))
      | none => .bad)
    | _ => .bad)
  | _, _ => .bad
def eApp (a b : Sl → Mo Da) : Sl → Mo Da := fun ro => bnd (a ro) fun d => bnd (isLs d) fun _ => bnd (b ro) fun x => appD d x
def ePop (a : Sl → Mo Da) : Sl → Mo Da := fun ro => bnd (a ro) fun d => bnd (isLs d) fun _ => popD d
section
variable {K : PySem.W.Frag} {E : St → XK} {ta tb te : TE} {a b : Sl → Mo Da} {w : Wd}
theorem isLs_run {d : Da} {v : V} {ok : Unit → Wd → Prop} {ex : Str → List Da → Wd → Prop} (m : Em K w) (rv : Rep K w v d) (h : Run K w (isLs d w.st) ok ex) : tyV K "list" v w.H ∧ ok () w := by
  unfold isLs at h
  split at h
  · rename_i xs hx
    obtain ⟨a, vs, rfl, hH, rl⟩ := ls_rep m rv hx
    exact ⟨.inl ⟨rfl, vs, SqL.of hH⟩, h.here m⟩
  · exact h.elim
theorem app_run {d x : Da} {v u : V} {Q : VK} {ex : Str → List Da → Wd → Prop} (m : Em K w) (rv : Rep K w v d) (ru : Rep K w u x) (h : Run K w (appD d x w.st) (OkV K Q) ex) : rAppend v [u] w.H Q := by
  unfold appD at h
  split at h
  · rename_i n
    split at h
    · rename_i xs hx
      split at h
      · rename_i hl
        cases rv with
        | @han a _ ha =>
          obtain ⟨vs, hH, rl⟩ := m.cell n a _ ha hx
          have x2 : Ext w (w.put n a (.lst (vs ++ [u])) (.lst (xs ++ [x]))) := Ext.put m ha hx (by intro z; cases z)
          refine ⟨a, vs, u, rfl, rfl, hH, by rw [rl.length]; exact szD_lt hl, ?_⟩
          exact Run.at (w' := w.put n a (.lst (vs ++ [u])) (.lst (xs ++ [x]))) h x2 (m.put ha hx (by intro z; cases z) ⟨_, upd_same, (rl.append (.cons ru .nil)).mono m x2⟩) rfl rfl _ .non
      · exact h.elim
    · exact h.elim
  · exact h.elim
theorem s_app (ha : SE K E ta a) (hb : SE K E tb b) : SE K E (tBM K "list" rAppend ta (tCons tb tNil)) (eApp a b) := fun w ro σ Q e h =>
  ha w ro σ _ e (h.bind.mono (fun d w1 x1 p1 m1 k v rv => by
    obtain ⟨ty, k2⟩ := isLs_run m1 rv k.bind
    refine ⟨ty, hb w1 ro σ _ (e.mono x1 m1) (k2.bind.mono (fun x w2 x2 p2 m2 k3 u ru => ?_) fun _ _ _ z => z)⟩
    exact app_run m2 (rv.mono m1 x2) ru k3) fun _ _ _ z => z)
theorem set_run {d i x : Da} {v k u : V} {Q : Hp → Prop} {ex : Str → List Da → Wd → Prop} (m : Em K w) (rv : Rep K w v d) (ri : Rep K w k i) (ru : Rep K w u x) (h : Run K w (setD d i x w.st) (fun _ w' => Q w'.H) ex) : rSetL v k u w.H Q := by
  unfold setD at h
  split at h
  · rename_i n k
    split at h
    · rename_i xs hx
      split at h
      · rename_i j hj
        cases rv with
        | @han a _ ha =>
          cases ri
          obtain ⟨vs, hH, rl⟩ := m.cell n a _ ha hx
          have x2 : Ext w (w.put n a (.lst (vs.set j u)) (.lst (xs.set j x))) := Ext.put m ha hx (by intro z; cases z)
          refine ⟨a, vs, k, j, rfl, rfl, hH, by rw [rl.length]; exact hj, ?_⟩
          exact Run.at (w' := w.put n a (.lst (vs.set j u)) (.lst (xs.set j x))) h x2 (m.put ha hx (by intro z; cases z) ⟨_, upd_same, (rl.set ru j).mono m x2⟩) rfl rfl
      · exact h.elim
    · exact h.elim
  · exact h.elim
end
end CL
namespace CL
open PySem PySem.Spec L2
abbrev Tg := Da → Sl → Option Sl
abbrev Tgs := List Da → Sl → Option Sl
def SameOut (ws : List Nat) (σ σ' : St) : Prop := σ'.length = σ.length ∧ ∀ i : Nat, i ∉ ws → σ'[i]? = σ[i]?
def SG (K : PySem.W.Frag) (g : TG) (t : Tg) (ws : List Nat) : Prop := ∀ (w : Wd) (v : V) (d : Da) (ro ro' : Sl) (σ : St), En K w ro σ → Rep K w v d → t d ro = some ro' →
  ∃ σ', En K w ro' σ' ∧ SameOut ws σ σ' ∧ ∀ Q : St → Hp → Prop, Q σ' w.H → g v σ w.H Q
def SGs (K : PySem.W.Frag) (g : TGs) (t : Tgs) (ws : List Nat) : Prop := ∀ (w : Wd) (vs : List V) (ds : List Da) (ro ro' : Sl) (σ : St), En K w ro σ → RepL K w vs ds → t ds ro = some ro' →
  ∃ σ', En K w ro' σ' ∧ SameOut ws σ σ' ∧ ∀ Q : St → Hp → Prop, Q σ' w.H → g vs σ w.H Q
def gN (i : Nat) : Tg := fun d ro => some (ro.set i (some d))
def gsN : Tgs := fun ds ro => match ds with
  | [] => some ro
  | _ => none
def gsC (t : Tg) (u : Tgs) : Tgs := fun ds ro => match ds with
  | d :: r => (t d ro).bind fun ro1 => u r ro1
  | _ => none
def gT (n : Nat) (t : Tgs) : Tg := fun d ro => match d with
  | .tup xs => if xs.length = n then t xs ro else none
  | _ => none
section
variable {K : PySem.W.Frag}
theorem SameOut.trans {ws us : List Nat} {σ σ1 σ2 : St} (a : SameOut ws σ σ1) (b : SameOut us σ1 σ2) : SameOut (ws ++ us) σ σ2 :=
  ⟨b.1.trans a.1, fun i h => (b.2 i fun z => h (List.mem_append_right _ z)).trans (a.2 i fun z => h (List.mem_append_left _ z))⟩
theorem sg_name {i : Nat} : SG K (gName i) (gN i) [i] := fun w v d ro ro' σ e r h => by
  cases h
  refine ⟨σ.set i (some v), e.set r, ⟨by simp, fun j hj => ?_⟩, fun Q q => q⟩
  rw [List.getElem?_set_ne fun z => hj (by simp [z])]
theorem sgs_nil : SGs K gNil gsN [] := fun w vs ds ro ro' σ e r h => by
  unfold gsN at h
  split at h
  · cases h
    cases r
    exact ⟨σ, e, ⟨rfl, fun _ _ => rfl⟩, fun Q q => ⟨rfl, q⟩⟩
  · cases h
theorem sgs_cons {g : TG} {gs : TGs} {t : Tg} {u : Tgs} {ws us : List Nat} (h1 : SG K g t ws) (h2 : SGs K gs u us) : SGs K (gCons g gs) (gsC t u) (ws ++ us) := fun w vs ds ro ro' σ e r h => by
  unfold gsC at h
  split at h
  · rename_i d rr
    cases r with
    | cons r1 r2 =>
      cases q : t d ro with
      | none => rw [q] at h; cases h
      | some ro1 =>
        rw [q] at h
        obtain ⟨σ1, e1, s1, k1⟩ := h1 w _ d ro ro1 σ e r1 q
        obtain ⟨σ2, e2, s2, k2⟩ := h2 w _ rr ro1 ro' σ1 e1 r2 h
        exact ⟨σ2, e2, s1.trans s2, fun Q q => ⟨_, _, rfl, k1 _ (k2 Q q)⟩⟩
  · cases h
theorem sg_tup {n : Nat} {gs : TGs} {t : Tgs} {ws : List Nat} (h : SGs K gs t ws) : SG K (gTup K n gs) (gT n t) ws := fun w v d ro ro' σ e r hh => by
  unfold gT at hh
  split at hh
  · rename_i xs
    split at hh
    · rename_i hl
      cases r with
      | tup h1 r1 =>
        obtain ⟨σ1, e1, s1, k1⟩ := h w _ xs ro ro' σ e r1 hh
        exact ⟨σ1, e1, s1, fun Q q => ⟨_, _, rfl, h1, by rw [r1.length]; exact hl, k1 Q q⟩⟩
    · cases hh
  · cases hh
end
mutual
def beqD : Da → Da → Bool
  | .non, .non => true
  | .bl a, .bl b => a == b
  | .int a, .int b => a == b
  | .str a, .str b => decide (a = b)
  | .tup a, .tup b => beqL a b
  | .lst a, .lst b => beqL a b
  | .fro a, .fro b => beqL a b
  | .han a, .han b => a == b
  | _, _ => false
def beqL : List Da → List Da → Bool
  | [], [] => true
  | a :: r, b :: s => beqD a b && beqL r s
  | _, _ => false
end
mutual
theorem beqD_eq : ∀ a b : Da, beqD a b = true → a = b
  | .non, b, h => by cases b <;> first | rfl | (unfold beqD at h; cases h)
  | .bl a, b, h => by cases b <;> first | (unfold beqD at h; cases h; done) | (unfold beqD at h; rw [eq_of_beq h])
  | .int a, b, h => by cases b <;> first | (unfold beqD at h; cases h; done) | (unfold beqD at h; rw [eq_of_beq h])
  | .str a, b, h => by cases b <;> first | (unfold beqD at h; cases h; done) | (unfold beqD at h; rw [of_decide_eq_true h])
  | .tup a, b, h => by cases b <;> first | (unfold beqD at h; cases h; done) | (unfold beqD at h; rw [beqL_eq _ _ h])
  | .lst a, b, h => by cases b <;> first | (unfold beqD at h; cases h; done) | (unfold beqD at h; rw [beqL_eq _ _ h])
  | .fro a, b, h => by cases b <;> first | (unfold beqD at h; cases h; done) | (unfold beqD at h; rw [beqL_eq _ _ h])
  | .han a, b, h => by cases b <;> first | (unfold beqD at h; cases h; done) | (unfold beqD at h; rw [eq_of_beq h])
theorem beqL_eq : ∀ a b : List Da, beqL a b = true → a = b
  | [], [], _ => rfl
  | [], _ :: _, h => by unfold beqL at h; cases h
  | _ :: _, [], h => by unfold beqL at h; cases h
  | a :: r, b :: s, h => by
    unfold beqL at h
    obtain ⟨h1, h2⟩ := Bool.and_eq_true_iff.mp h
    rw [beqD_eq a b h1, beqL_eq r s h2]
end
/-- a thing that is walked stands still -/
def chk (o : Option Nat) (xs : List Da) (st : Store) : Bool := match o with
  | none => true
  | some n => match st[n]? with
    | some (.lst ys) => beqL ys xs
    | _ => false
structure Src where
  xs : List Da
  o : Option Nat
def ItOk (K : PySem.W.Frag) (w : Wd) (J : It) (s : Src) : Prop := ∀ w', ExtW w w' → Em K w' → chk s.o s.xs w'.st = true →
  (∀ (i : Nat) (x : Da), s.xs[i]? = some x → J.go i w'.H ∧ ∀ v H', J.yld i w'.H v H' → ∃ w3 : Wd, w3.H = H' ∧ w3.st = w'.st ∧ w3.pv = w'.pv ∧ Ext w' w3 ∧ Em K w3 ∧ Rep K w3 v x) ∧ J.stop s.xs.length w'.H
def SI (K : PySem.W.Frag) (E : St → XK) (wi : TI) (m : Sl → Mo Src) : Prop := ∀ (w : Wd) (ro : Sl) (σ : St) (R : It → Hp → Prop), En K w ro σ →
  Run K w (m ro w.st) (fun s w' => ∀ J, ItOk K w' J s → R J w'.H) (XP K (E σ)) → wi σ w.H R
def srcV (d : Da) : Mo Src := fun st => match d with
  | .lst xs => .ok ⟨xs, none⟩ st
  | .tup xs => .ok ⟨xs, none⟩ st
  | .fro xs => .ok ⟨xs, none⟩ st
  | .han n => (match st[n]? with
    | some (.lst xs) => .ok ⟨xs, some n⟩ st
    | _ => .bad)
  | _ => .bad
def iV (a : Sl → Mo Da) : Sl → Mo Src := fun ro => bnd (a ro) srcV
def rngL (lo : Int) (n : Nat) : List Da := (List.range n).map fun (i : Nat) => Da.int (lo + (i : Int))
def big (i : Int) : Prop := -(2 ^ 62) ≤ i ∧ i < 2 ^ 62
instance (i : Int) : Decidable (big i) := by unfold big; infer_instance
def srcR1 : List Da → Mo Src
  | [.int j] => if big j then ret ⟨rngL 0 j.toNat, none⟩ else nop
  | _ => nop
def srcR2 : List Da → Mo Src
  | [.int i, .int j] => if big i ∧ big j then ret ⟨rngL i (j - i).toNat, none⟩ else nop
  | _ => nop
def iR1 (a : Sl → Mo (List Da)) : Sl → Mo Src := fun ro => bnd (a ro) srcR1
def iR2 (a : Sl → Mo (List Da)) : Sl → Mo Src := fun ro => bnd (a ro) srcR2
def iSeq (K : PySem.W.Frag) (tl : TE) : TI := fun σ H R => tl σ H fun x H1 => ∃ a, x = .ref a ∧ (((∃ xs, SqL K H1 a xs) ∧ R (Itl K a) H1) ∨ ((∃ xs, SqT K H1 a xs) ∧ R (Itt K a) H1))
section
variable {X : Cx} {tg : Expr}
theorem pi_seq {l : Expr} {tl : TE} (hl : PE X l tl) : PI X tg l (iSeq X.K tl) := by
  refine ⟨fun pins s σ H R I h => ?_⟩
  refine thn (hl.run pins s σ H _ I h) fun v s1 ⟨x, H1, I1, r1, q1⟩ => ?_
  obtain ⟨a, e, q1⟩ := q1
  subst e
  cases r1
  rcases q1 with ⟨⟨xs, hq⟩, q⟩ | ⟨⟨xs, hq⟩, q⟩
  · obtain ⟨its, rv, p, hz⟩ := I1.list hq
    refine wpAny_pyIter_list p.isList ?_
    refine ⟨s1.heap.objs.size, [s1.heap.objs.size], _, _, H1, rfl, I1.kept (t' := s1.toks) fun b o e => Heap.get?_push_of_some _ e, turn_list a _, ⟨_, Heap.get?_push_size _ rfl, rfl, rfl⟩, fun b hb => ?_, q⟩
    have e : b = s1.heap.objs.size := by simpa using hb
    subst e
    exact I1.fpOk (Nat.le_refl _) (I1.hok.fresh (Nat.le_refl _))
  · obtain ⟨its, rv, p, hz⟩ := I1.tuple hq
    refine wpAny_pyIter_tuple (show s1.heap.IsTuple a its.toArray from p) ?_
    refine ⟨s1.heap.objs.size, [s1.heap.objs.size], _, _, H1, rfl, I1.kept (t' := s1.toks) fun b o e => Heap.get?_push_of_some _ e, turn_tuple a _, ⟨_, Heap.get?_push_size _ rfl, rfl, rfl⟩, fun b hb => ?_, q⟩
    have e : b = s1.heap.objs.size := by simpa using hb
    subst e
    exact I1.fpOk (Nat.le_refl _) (I1.hok.fresh (Nat.le_refl _))
end
section
variable {K : PySem.W.Frag} {E : St → XK} {ta : TE} {a : Sl → Mo Da} {tA : TA} {al : Sl → Mo (List Da)} {w : Wd}
theorem it_list {p : Addr} {vs : List V} {s : Src} (hs : ∀ w', ExtW w w' → Em K w' → chk s.o s.xs w'.st = true → ∃ vs, SqL K w'.H p vs ∧ RepL K w' vs s.xs) : ItOk K w (Itl K p) s := fun w' x m c => by
  obtain ⟨us, hq, r⟩ := hs w' x m c
  refine ⟨fun i d hd => ?_, ⟨us, hq, by rw [r.length]; exact Nat.le_refl _⟩⟩
  obtain ⟨v, hv, rv⟩ := r.get hd
  refine ⟨⟨us, v, hq, hv⟩, fun u H' hy => ⟨w', hy.1.symm, rfl, rfl, Ext.refl _, m, ?_⟩⟩
  have := hy.2 us hq
  rw [hv] at this
  cases this
  exact rv
theorem it_tup {p : Addr} {vs : List V} {s : Src} (hs : ∀ w', ExtW w w' → Em K w' → chk s.o s.xs w'.st = true → ∃ vs, SqT K w'.H p vs ∧ RepL K w' vs s.xs) : ItOk K w (Itt K p) s := fun w' x m c => by
  obtain ⟨us, hq, r⟩ := hs w' x m c
  refine ⟨fun i d hd => ?_, ⟨us, hq, by rw [r.length]; exact Nat.le_refl _⟩⟩
  obtain ⟨v, hv, rv⟩ := r.get hd
  refine ⟨⟨us, v, hq, hv⟩, fun u H' hy => ⟨w', hy.1.symm, rfl, rfl, Ext.refl _, m, ?_⟩⟩
  have := hy.2 us hq
  rw [hv] at this
  cases this
  exact rv
theorem si_v (ha : SE K E ta a) : SI K E (iSeq K ta) (iV a) := fun w ro σ R e h =>
  ha w ro σ _ e (h.bind.mono (fun d w1 x1 p1 m1 k v rv => by
    unfold srcV at k
    cases rv with
    | @lst p vs ds h1 n1 r1 =>
      exact ⟨_, rfl, .inl ⟨⟨vs, SqL.of h1⟩, k.here m1 _ (it_list (vs := vs) fun w' x m _ => ⟨vs, SqL.of (x.keep _ _ h1 n1).1, r1.monoW m1 x⟩)⟩⟩
    | @tup p vs ds h1 r1 =>
      exact ⟨_, rfl, .inr ⟨⟨vs, h1⟩, k.here m1 _ (it_tup (vs := vs) fun w' x m _ => ⟨vs, sqT_monoW m1 x h1, r1.monoW m1 x⟩)⟩⟩
    | @fro p vs ds h1 r1 =>
      refine ⟨_, rfl, .inl ⟨⟨vs, h1.sq⟩, k.here m1 _ (it_list (vs := vs) fun w' x m _ => ⟨vs, ?_, r1.monoW m1 x⟩)⟩⟩
      rcases h1 with ⟨o, h1⟩ | h1
      · exact .inl (.inr ⟨o, (x.keep _ _ h1 (m1.noFrz h1)).1⟩)
      · exact .inr h1
    | @han p n hp =>
      dsimp only at k
      split at k
      · rename_i xs hx
        obtain ⟨vs, hH, r⟩ := m1.cell n p _ hp hx
        refine ⟨_, rfl, .inl ⟨⟨vs, SqL.of hH⟩, k.here m1 _ (it_list (vs := vs) fun w' x m c => ?_)⟩⟩
        have hp' := x.at hp
        unfold chk at c
        dsimp only at c
        split at c
        · rename_i ys hy
          have e := beqL_eq _ _ c
          subst e
          obtain ⟨us, hH', r'⟩ := m.cell n p _ hp' hy
          exact ⟨us, SqL.of hH', r'⟩
        · cases c
      · exact k.elim
    | non => exact k.elim
    | bl b => exact k.elim
    | int i => exact k.elim
    | str s => exact k.elim) fun _ _ _ z => z)
theorem rng_get {lo : Int} {n i : Nat} {x : Da} (h : (rngL lo n)[i]? = some x) : i < n ∧ x = .int (lo + i) := by
  unfold rngL at h
  rw [List.getElem?_map] at h
  by_cases hi : i < n
  · rw [List.getElem?_range hi] at h
    cases h
    exact ⟨hi, rfl⟩
  · rw [List.getElem?_eq_none (by simpa using hi)] at h
    cases h
theorem it_rng {lo : Int} {n : Nat} : ItOk K w (Itr lo n) ⟨rngL lo n, none⟩ := fun w' x m c => by
  refine ⟨fun i d hd => ?_, ?_⟩
  · obtain ⟨hi, rfl⟩ := rng_get hd
    exact ⟨hi, fun v H' hy => ⟨w', hy.1.symm, rfl, rfl, Ext.refl _, m, by rw [hy.2]; exact .int _⟩⟩
  · show n ≤ (rngL lo n).length
    unfold rngL
    simp
theorem si_r1 (ha : SA K E tA al) : SI K E (iRng1 tA) (iR1 al) := fun w ro σ R e h =>
  ha w ro σ _ e (h.bind.mono (fun ds w1 x1 p1 m1 k vs rv => by
    unfold srcR1 at k
    split at k
    · rename_i j
      split at k
      · rename_i hb
        cases rv with
        | cons r1 r2 =>
          cases r2
          cases r1
          exact ⟨j, rfl, hb.1, hb.2, k.here m1 _ it_rng⟩
      · exact k.elim
    · exact k.elim) fun _ _ _ z => z)
end
def mNil : Sl → Mo Fl := fun ro => ret (.nx ro)
def mSeq (a b : Sl → Mo Fl) : Sl → Mo Fl := fun ro => bnd (a ro) fun f => match f with
  | .nx ro' => b ro'
  | f => ret f
def mSet (i : Nat) (a : Sl → Mo Da) : Sl → Mo Fl := fun ro => bnd (a ro) fun d => ret (.nx (ro.set i (some d)))
def mTgt (t : Tg) (a : Sl → Mo Da) : Sl → Mo Fl := fun ro => bnd (a ro) fun d => match t d ro with
  | some ro' => ret (.nx ro')
  | none => nop
def mPar (i j : Nat) (a : Sl → Mo (List Da)) : Sl → Mo Fl := fun ro => bnd (a ro) fun ds => match ds with
  | [d, e] => ret (.nx ((ro.set i (some d)).set j (some e)))
  | _ => nop
def mRet (a : Sl → Mo Da) : Sl → Mo Fl := fun ro => bnd (a ro) fun d => ret (.rt d)
def mRetN : Sl → Mo Fl := fun ro => ret (.rt .non)
def mExpr (a : Sl → Mo Da) : Sl → Mo Fl := fun ro => bnd (a ro) fun _ => ret (.nx ro)
def mIf (t : Sl → Mo Bool) (a b : Sl → Mo Fl) : Sl → Mo Fl := fun ro => bnd (t ro) fun c => if c = true then a ro else b ro
def mBrk : Sl → Mo Fl := fun ro => ret (.bk ro)
def mCnt : Sl → Mo Fl := fun ro => ret (.ct ro)
def mNever : Sl → Mo Fl := fun _ => nop
def mSetI (v o i : Sl → Mo Da) : Sl → Mo Fl := fun ro => bnd (v ro) fun x => bnd (o ro) fun d => bnd (i ro) fun k => bnd (setD d k x) fun _ => ret (.nx ro)
def mAug (i : Nat) (f : Int → Int → Int) (a : Sl → Mo Da) : Sl → Mo Fl := fun ro => bnd (eVar i ro) fun x => bnd (a ro) fun y => match x, y with
  | .int p, .int q => ret (.nx (ro.set i (some (.int (f p q)))))
  | _, _ => nop
def loopK (go : Sl → Mo Fl) (f : Fl) : Mo Fl := match f with
  | .nx ro => go ro
  | .ct ro => go ro
  | .bk ro => ret (.nx ro)
  | .rt d => ret (.rt d)
def forGo (o : Option Nat) (all : List Da) (t : Tg) (body : Sl → Mo Fl) : List Da → Sl → Mo Fl
  | [], ro => fun st => if chk o all st = true then .ok (.nx ro) st else .bad
  | x :: r, ro => fun st => if chk o all st = true then (match t x ro with
    | some ro1 => bnd (body ro1) (loopK (forGo o all t body r)) st
    | none => .bad) else .bad
def mFor (s : Sl → Mo Src) (t : Tg) (body : Sl → Mo Fl) : Sl → Mo Fl := fun ro => bnd (s ro) fun s => forGo s.o s.xs t body s.xs ro
def whileF (t : Sl → Mo Bool) (body : Sl → Mo Fl) : Nat → Sl → Mo Fl
  | 0, _ => nop
  | n + 1, ro => bnd (t ro) fun c => if c = true then bnd (body ro) (loopK (whileF t body n)) else ret (.nx ro)
section
variable {K : PySem.W.Frag} {E : St → XK} {ta tb te tv to ti : TE} {a b v o i' : Sl → Mo Da} {tt : TT} {p : Sl → Mo Bool} {ts tu : TS} {m n : Sl → Mo Fl} {g : TG} {t : Tg} {ws : List Nat} {tA : TA} {al : Sl → Mo (List Da)}
theorem ss_nil : SS K E tNext mNil := fun w ro σ D e h => h.here e.emb σ e
theorem ss_seq (h1 : SS K E ts m) (h2 : SS K E tu n) : SS K E (tSeq ts tu) (mSeq m n) := fun w ro σ D e h =>
  h1 w ro σ { D with nx := tu D } e (h.bind.mono (fun f w1 x1 p1 m1 k => by
    cases f with
    | nx ro' => exact fun σ' e' => h2 w1 ro' σ' D e' k
    | rt d => exact Run.here (ok := OkF K D) (a := Fl.rt d) m1 k
    | bk ro' => exact Run.here (ok := OkF K D) (a := Fl.bk ro') m1 k
    | ct ro' => exact Run.here (ok := OkF K D) (a := Fl.ct ro') m1 k) fun _ _ _ z => z)
theorem ss_set {i : Nat} (ha : SE K E ta a) : SS K E (tAsg ta (gName i)) (mSet i a) := fun w ro σ D e h =>
  ha w ro σ _ e (h.bind.mono (fun d w1 x1 p1 m1 k v rv => k.here m1 _ ((e.mono x1 m1).set rv)) fun _ _ _ z => z σ)
theorem ss_tgt (hg : SG K g t ws) (ha : SE K E ta a) : SS K E (tAsg ta g) (mTgt t a) := fun w ro σ D e h =>
  ha w ro σ _ e (h.bind.mono (fun d w1 x1 p1 m1 k v rv => by
    cases q : t d ro with
    | none => rw [q] at k; exact k.elim
    | some ro' =>
      rw [q] at k
      obtain ⟨σ', e', _, kk⟩ := hg w1 v d ro ro' σ (e.mono x1 m1) rv q
      exact kk _ (k.here m1 σ' e')) fun _ _ _ z => z σ)
theorem ss_ret (ha : SE K E ta a) : SS K E (tRet ta) (mRet a) := fun w ro σ D e h =>
  ha w ro σ _ e (h.bind.mono (fun d w1 x1 p1 m1 k v rv => k.here m1 v rv) fun _ _ _ z => z σ)
theorem ss_expr (ha : SE K E ta a) : SS K E (tDrop ta) (mExpr a) := fun w ro σ D e h =>
  ha w ro σ _ e (h.bind.mono (fun d w1 x1 p1 m1 k v rv => k.here m1 σ (e.mono x1 m1)) fun _ _ _ z => z σ)
theorem ss_if (ht : ST K E tt p) (h1 : SS K E ts m) (h2 : SS K E tu n) : SS K E (tIfS tt ts tu) (mIf p m n) := fun w ro σ D e h =>
  ht w ro σ _ e (h.bind.mono (fun c w1 x1 p1 m1 k => by
    cases c with
    | true => rw [if_pos rfl] at k ⊢; exact h1 w1 ro σ D (e.mono x1 m1) k
    | false => rw [if_neg Bool.false_ne_true] at k ⊢; exact h2 w1 ro σ D (e.mono x1 m1) k) fun _ _ _ z => z σ)
theorem ss_brk : SS K E tBreak mBrk := fun w ro σ D e h => h.here e.emb σ e
theorem ss_setI (hv : SE K E tv v) (ho : SE K E to o) (hi : SE K E ti i') : SS K E (tAsg tv (gSub to ti rSetL)) (mSetI v o i') := fun w ro σ D e h =>
  hv w ro σ _ e (h.bind.mono (fun x w1 x1 p1 m1 k u ru => ho w1 ro σ _ (e.mono x1 m1) (k.bind.mono (fun d w2 x2 p2 m2 k2 u2 ru2 =>
    hi w2 ro σ _ (e.mono (x1.trans x2) m2) (k2.bind.mono (fun kk w3 x3 p3 m3 k3 u3 ru3 =>
      set_run m3 (ru2.mono m2 x3) ru3 (ru.mono m1 (x2.trans x3)) (k3.bind.mono (fun _ w4 x4 p4 m4 k4 => k4.here m4 σ (e.mono (x1.trans (x2.trans (x3.trans x4))) m4)) fun _ _ _ z => z)) fun _ _ _ z => z σ)) fun _ _ _ z => z σ)) fun _ _ _ z => z σ)
theorem ss_aug {i : Nat} {f : Int → Int → Int} (ha : SE K E ta a) : SS K E (tAug i ta (ipI f)) (mAug i f a) := fun w ro σ D e h => by
  have k := h.bind
  unfold eVar at k
  split at k
  · rename_i d hd
    obtain ⟨v, hv, rv⟩ := e.slot i d hd
    refine ⟨v, hv, ha w ro σ _ e ((k.here e.emb).bind.mono (fun y w1 x1 p1 m1 k2 u ru => ?_) fun _ _ _ z => z σ)⟩
    split at k2
    · cases rv; cases ru
      exact ⟨_, _, rfl, rfl, k2.here m1 _ ((e.mono x1 m1).set (.int _))⟩
    · exact k2.elim
  · exact k.elim
theorem loop_ok {D : Ends} {N : St → Hp → Prop} {go : Sl → Mo Fl} {ex : Str → List Da → Wd → Prop} {w : Wd} {f : Fl} (m : Em K w) (h : Run K w (loopK go f w.st) (OkF K D) ex)
    (hN : ∀ ro σ, En K w ro σ → Run K w (go ro w.st) (OkF K D) ex → N σ w.H) : OkF K { D with nx := N, ct := N, bk := D.nx } f w := by
  cases f with
  | nx ro => exact fun σ e => hN ro σ e h
  | ct ro => exact fun σ e => hN ro σ e h
  | bk ro => exact fun σ e => Run.here (ok := OkF K D) (a := Fl.nx ro) m h σ e
  | rt d => exact Run.here (ok := OkF K D) (a := Fl.rt d) m h
theorem ss_for {wi : TI} {s : Sl → Mo Src} (hs : SI K E wi s) (hg : SG K g t ws) (hb : SS K E ts m) : SS K E (tFor wi g ts) (mFor s t m) := fun w ro σ D e h => by
  refine hs w ro σ _ e (h.bind.mono (fun s w1 x1 p1 m1 k J hJ => ?_) fun _ _ _ z => z σ)
  refine ⟨fun i mm σ' H' => ∃ w2 ro2, w2.H = H' ∧ Ext w1 w2 ∧ w2.pv = w1.pv ∧ En K w2 ro2 σ' ∧ i ≤ s.xs.length ∧ mm = s.xs.length - i ∧ Run K w2 (forGo s.o s.xs t m (s.xs.drop i) ro2 w2.st) (OkF K D) (fun c as w' => ∀ σ', XP K (E σ') c as w'),
    ⟨s.xs.length, w1, ro, rfl, Ext.refl _, rfl, e.mono x1 m1, Nat.zero_le _, by omega, by rw [List.drop_zero]; exact k⟩, ?_⟩
  rintro i mm σ2 H2 ⟨w2, ro2, rfl, x2, p2, e2, hi, rfl, k2⟩
  by_cases hlt : i < s.xs.length
  · have hd : s.xs.drop i = s.xs[i] :: s.xs.drop (i + 1) := List.drop_eq_getElem_cons hlt
    rw [hd] at k2
    unfold forGo at k2
    split at k2
    · rename_i hc
      obtain ⟨hgo, hst⟩ := hJ w2 x2.w e2.emb hc
      obtain ⟨g1, g2⟩ := hgo i _ (List.getElem?_eq_getElem hlt)
      cases q : t s.xs[i] ro2 with
      | none => rw [q] at k2; exact k2.elim
      | some ro3 =>
        rw [q] at k2
        refine .inr ⟨g1, fun σ' H' => ∃ w3 ro3, w3.H = H' ∧ Ext w1 w3 ∧ w3.pv = w1.pv ∧ En K w3 ro3 σ' ∧ Run K w3 (forGo s.o s.xs t m (s.xs.drop (i + 1)) ro3 w3.st) (OkF K D) (fun c as w' => ∀ σ', XP K (E σ') c as w'),
          fun σ' H' ⟨w3, r3, h1, h2, h3, h4, h5⟩ => ⟨s.xs.length - (i + 1), by omega, w3, r3, h1, h2, h3, h4, hlt, rfl, h5⟩, fun v H' hy => ?_⟩
        obtain ⟨w3, rfl, es, ep, x3, m3, rv⟩ := g2 v H' hy
        obtain ⟨σ3, e3, _, kk⟩ := hg w3 v _ ro2 ro3 σ2 (e2.mono x3 m3) rv q
        refine kk _ (hb w3 ro3 σ3 _ e3 ?_)
        have k3 : Run K w3 (bnd (m ro3) (loopK (forGo s.o s.xs t m (s.xs.drop (i + 1)))) w3.st) (OkF K D) (fun c as w' => ∀ σ', XP K (E σ') c as w') := by
          rw [es]
          exact k2.ext x3 ep
        refine k3.bind.mono (fun f w4 x4 p4 m4 k4 => loop_ok m4 k4 fun ro5 σ5 e5 k5 => ?_) fun _ _ _ z => z
        exact ⟨w4, ro5, rfl, x2.trans (x3.trans x4), p4.trans (ep.trans p2), e5, k5⟩
    · exact k2.elim
  · have he : i = s.xs.length := by omega
    subst he
    rw [List.drop_length] at k2
    unfold forGo at k2
    split at k2
    · rename_i hc
      obtain ⟨_, hst⟩ := hJ w2 x2.w e2.emb hc
      exact .inl ⟨hst, k2.here e2.emb σ2 e2⟩
    · exact k2.elim
theorem ss_while {fuel : Nat} (ht : ST K E tt p) (hb : SS K E ts m) : SS K E (tWhile tt ts) (whileF p m fuel) := fun w ro σ D e h => by
  refine ⟨fun mm σ' H' => ∃ w2 ro2, w2.H = H' ∧ Ext w w2 ∧ w2.pv = w.pv ∧ En K w2 ro2 σ' ∧ Run K w2 (whileF p m mm ro2 w2.st) (OkF K D) (fun c as w' => ∀ σ', XP K (E σ') c as w'),
    ⟨fuel, w, ro, rfl, Ext.refl _, rfl, e, h⟩, ?_⟩
  rintro mm σ2 H2 ⟨w2, ro2, rfl, x2, p2, e2, k2⟩
  cases mm with
  | zero => exact k2.elim
  | succ mm =>
    unfold whileF at k2
    refine ht w2 ro2 σ2 _ e2 (k2.bind.mono (fun c w3 x3 p3 m3 k3 => ?_) fun _ _ _ z => z σ2)
    cases c with
    | true =>
      rw [if_pos rfl] at k3 ⊢
      refine ⟨fun σ' H' => ∃ w4 ro4, w4.H = H' ∧ Ext w w4 ∧ w4.pv = w.pv ∧ En K w4 ro4 σ' ∧ Run K w4 (whileF p m mm ro4 w4.st) (OkF K D) (fun c as w' => ∀ σ', XP K (E σ') c as w'),
        fun σ' H' hh => ⟨mm, Nat.lt_succ_self _, hh⟩, ?_⟩
      refine hb w3 ro2 σ2 _ (e2.mono x3 m3) (k3.bind.mono (fun f w4 x4 p4 m4 k4 => loop_ok m4 k4 fun ro5 σ5 e5 k5 => ?_) fun _ _ _ z => z)
      exact ⟨w4, ro5, rfl, x2.trans (x3.trans x4), p4.trans (p3.trans p2), e5, k5⟩
    | false =>
      rw [if_neg Bool.false_ne_true] at k3 ⊢
      exact k3.here m3 σ2 (e2.mono x3 m3)
end
end CL
namespace CL
open PySem PySem.Spec L2
def noX {A : Type} (m : Mo A) : Mo A := fun st => match m st with
  | .ok a st' => .ok a st'
  | _ => .bad
def wipeS (ro : Sl) : List Nat → Sl
  | [] => ro
  | v :: vs => (wipeS ro vs).set v none
def compGo (o : Option Nat) (all : List Da) (t : Tg) (p : Sl → Mo Bool) (e : Sl → Mo Da) (ro : Sl) : List Da → List Da → Mo (List Da)
  | [], acc => fun st => if chk o all st = true then .ok acc st else .bad
  | x :: r, acc => fun st => if chk o all st = true then (match t x ro with
    | some ro1 => bnd (noX (p ro1)) (fun c => if c = true then bnd (noX (e ro1)) (fun y => if acc.length < szD then compGo o all t p e ro r (acc ++ [y]) else nop) else compGo o all t p e ro r acc) st
    | none => .bad) else .bad
def lComp (s : Sl → Mo Src) (t : Tg) (p : Sl → Mo Bool) (e : Sl → Mo Da) (vs : List Nat) : Sl → Mo (List Da) := fun ro => bnd (s ro) fun s => compGo s.o s.xs t p e (wipeS ro vs) s.xs []
theorem wipe_out {σ : St} {i : Nat} : ∀ {vs : List Nat}, i ∉ vs → (wipe σ vs)[i]? = σ[i]?
  | [], _ => rfl
  | v :: vs, h => by
    unfold wipe
    rw [List.getElem?_set_ne fun z => h (by simp [z])]
    exact wipe_out fun z => h (List.mem_cons_of_mem _ z)
theorem wipe_in {σ : St} {i : Nat} : ∀ {vs : List Nat}, i ∈ vs → (wipe σ vs)[i]? = if i < σ.length then some none else none
  | [], h => by cases h
  | v :: vs, h => by
    unfold wipe
    by_cases e : v = i
    · subst e
      rw [List.getElem?_set, if_pos rfl, wipe_length]
    · rw [List.getElem?_set_ne e]
      rcases List.mem_cons.mp h with z | z
      · exact absurd z.symm e
      · exact wipe_in z
theorem wipe_eq {σ τ : St} {vs : List Nat} (hl : τ.length = σ.length) (h : ∀ i : Nat, i ∉ vs → τ[i]? = σ[i]?) : wipe τ vs = wipe σ vs := by
  refine List.ext_getElem? fun i => ?_
  by_cases hi : i ∈ vs
  · rw [wipe_in hi, wipe_in hi, hl]
  · rw [wipe_out hi, wipe_out hi, h i hi]
theorem wipeS_some {ro : Sl} {i : Nat} {d : Da} : ∀ {vs : List Nat}, (wipeS ro vs)[i]? = some (some d) → ro[i]? = some (some d) ∧ i ∉ vs
  | [], h => ⟨h, by simp⟩
  | v :: vs, h => by
    unfold wipeS at h
    by_cases e : v = i
    · subst e
      rw [List.getElem?_set, if_pos rfl] at h
      split at h <;> cases h
    · rw [List.getElem?_set_ne e] at h
      obtain ⟨h1, h2⟩ := wipeS_some h
      exact ⟨h1, fun z => by
        rcases List.mem_cons.mp z with z | z
        · exact e z.symm
        · exact h2 z⟩
theorem wipeS_length (ro : Sl) : ∀ vs : List Nat, (wipeS ro vs).length = ro.length
  | [] => rfl
  | v :: vs => by unfold wipeS; rw [List.length_set, wipeS_length ro vs]
section
variable {K : PySem.W.Frag} {E E' : St → XK}
theorem En.wipe {w : Wd} {ro : Sl} {σ : St} (e : En K w ro σ) (vs : List Nat) : En K w (wipeS ro vs) (wipe σ vs) := by
  refine ⟨e.emb, by rw [wipe_length, wipeS_length]; exact e.len, fun i d h => ?_⟩
  obtain ⟨h1, h2⟩ := wipeS_some h
  obtain ⟨v, h3, h4⟩ := e.slot i d h1
  exact ⟨v, by rw [wipe_out h2]; exact h3, h4⟩
theorem run_noX {A B : Type} {w1 w2 : Wd} {m : Mo A} {f : A → Mo B} {ok : B → Wd → Prop} {ex ex' : Str → List Da → Wd → Prop} (h : Run K w1 (bnd (noX m) f w2.st) ok ex) :
    Run K w2 (m w2.st) (fun a w3 => Run K w1 (f a w3.st) ok ex) ex' := by
  unfold bnd noX at h
  cases q : m w2.st with
  | ok a st => rw [q] at h; exact fun io H x e => h
  | exc c as st => rw [q] at h; exact h.elim
  | bad => rw [q] at h; exact h.elim
theorem sl_comp {wi : TI} {s : Sl → Mo Src} {g : TG} {t : Tg} {ws vs : List Nat} {tt : TT} {p : Sl → Mo Bool} {te : TE} {m : Sl → Mo Da} (hs : SI K E wi s) (hg : SG K g t ws) (hw : ∀ i ∈ ws, i ∈ vs) (ht : ST K E' tt p) (he : SE K E' te m) :
    SL K E (tLc wi g tt te vs) (lComp s t p m vs) := fun w ro σ Q en h => by
  refine hs w ro σ _ en (h.bind.mono (fun s w1 x1 p1 m1 k J hJ D hD => ?_) fun _ _ _ z => z)
  have hDp : D ∉ w1.pv := m1.freshP hD
  refine ⟨fun i mm H' => ∃ w2 us acc, w2.H = H' ∧ Ext w1 w2 ∧ w2.pv = D :: w1.pv ∧ Em K w2 ∧ w2.H D = some (.lst us) ∧ RepL K w2 us acc ∧ i ≤ s.xs.length ∧ mm = s.xs.length - i ∧ Run K w1 (compGo s.o s.xs t p m (wipeS ro vs) (s.xs.drop i) acc w2.st) (OkL K Q) (XP K (E σ)),
    ⟨s.xs.length, w1.hid D [], [], [], rfl, Ext.hid m1 hD, rfl, m1.hid hD, upd_same, .nil, Nat.zero_le _, by omega, by rw [List.drop_zero]; exact k⟩, ?_⟩
  rintro i mm H2 ⟨w2, us, acc, rfl, x2, p2, m2, hHD, ru, hi, rfl, k2⟩
  by_cases hlt : i < s.xs.length
  · have hd : s.xs.drop i = s.xs[i] :: s.xs.drop (i + 1) := List.drop_eq_getElem_cons hlt
    rw [hd] at k2
    unfold compGo at k2
    split at k2
    · rename_i hc
      obtain ⟨hgo, hst⟩ := hJ w2 x2.w m2 hc
      obtain ⟨g1, g2⟩ := hgo i _ (List.getElem?_eq_getElem hlt)
      cases q : t s.xs[i] (wipeS ro vs) with
      | none => rw [q] at k2; exact k2.elim
      | some ro1 =>
        rw [q] at k2
        refine .inr ⟨g1, fun H' => ∃ w3 us acc, w3.H = H' ∧ Ext w1 w3 ∧ w3.pv = D :: w1.pv ∧ Em K w3 ∧ w3.H D = some (.lst us) ∧ RepL K w3 us acc ∧ Run K w1 (compGo s.o s.xs t p m (wipeS ro vs) (s.xs.drop (i + 1)) acc w3.st) (OkL K Q) (XP K (E σ)),
          fun H' ⟨w3, us, acc, h1, h2, h3, h4, h5, h6, h7⟩ => ⟨s.xs.length - (i + 1), by omega, w3, us, acc, h1, h2, h3, h4, h5, h6, hlt, rfl, h7⟩, fun v H' hy => ?_⟩
        obtain ⟨w3, rfl, es, ep, x3, m3, rv⟩ := g2 v H' hy
        have en3 : En K w3 (wipeS ro vs) (wipe σ vs) := (en.mono (x1.trans (x2.trans x3)) m3).wipe vs
        obtain ⟨σ3, e3, so, kk⟩ := hg w3 v _ (wipeS ro vs) ro1 (wipe σ vs) en3 rv q
        refine kk _ ⟨wipe_eq (by rw [so.1, wipe_length]) fun j hj => ?_, ?_⟩
        · rw [so.2 j fun z => hj (hw j z), wipe_out hj]
        · rw [← es] at k2
          refine ht w3 ro1 σ3 _ e3 ((run_noX k2).mono (fun c w4 x4 p4 m4 k4 => ?_) fun _ _ _ z => z)
          have pD : D ∈ w2.pv := by rw [p2]; exact List.mem_cons_self
          cases c with
          | true =>
            rw [if_pos rfl] at k4 ⊢
            refine he w4 ro1 σ3 _ (e3.mono x4 m4) ((run_noX k4).mono (fun y w5 x5 p5 m5 k5 v5 rv5 => ?_) fun _ _ _ z => z)
            have x25 : Ext w2 w5 := x3.trans (x4.trans x5)
            obtain ⟨pD5, hD5⟩ := x25.pvk D pD
            have hD5' : w5.H D = some (.lst us) := hD5.trans hHD
            split at k5
            · rename_i hl
              have ru5 := ru.mono m2 x25
              refine ⟨us, hD5', by rw [ru.length]; exact szD_lt hl, w5.grow D (us ++ [v5]), us ++ [v5], acc ++ [y], rfl, (x2.trans x25).thenGrow m5 pD5 hD hDp, ?_, m5.grow pD5, upd_same, ?_, k5⟩
              · show w5.pv = D :: w1.pv
                rw [p5, p4, ep, p2]
              · exact (ru5.append (.cons rv5 .nil)).monoP m5 (ExtP.grow m5 pD5)
            · exact k5.elim
          | false =>
            rw [if_neg Bool.false_ne_true] at k4 ⊢
            have x24 : Ext w2 w4 := x3.trans x4
            obtain ⟨pD4, hD4⟩ := x24.pvk D pD
            exact ⟨w4, us, acc, rfl, x2.trans x24, by rw [p4, ep, p2], m4, hD4.trans hHD, ru.mono m2 x24, k4⟩
    · exact k2.elim
  · have hE : i = s.xs.length := by omega
    subst hE
    rw [List.drop_length] at k2
    unfold compGo at k2
    split at k2
    · rename_i hc
      obtain ⟨_, hst⟩ := hJ w2 x2.w m2 hc
      refine .inl ⟨hst, ?_⟩
      have z := Run.at (w' := w2.del D w1.pv) k2 (x2.del p2 hD hDp) (m2.del p2 hHD hDp) rfl rfl D us del_same (ru.del p2 hHD)
      rw [show upd (w2.del D w1.pv).H D (.lst us) = w2.H from upd_del hHD] at z
      exact z
    · exact k2.elim
end
def ar {A : Type} (n : Nat) (f : List Da → Mo A) : List Da → Mo A := fun ds => if ds.length = n then f ds else nop
/-- a def's promise by its mirror -/
def SpOf (K : PySem.W.Frag) (n : Nat) (f : List Da → Mo Da) : Sp := fun vs H Q E => ∃ (w : Wd) (ds : List Da), w.H = H ∧ Em K w ∧ RepL K w vs ds ∧ vs.length = n ∧ Run K w (f ds w.st) (OkV K Q) (XP K E)
def startS (n : Nat) (ds : List Da) : Sl := ds.map some ++ List.replicate (n - ds.length) none
def fnE (f : Fl) : Mo Da := match f with
  | .nx _ => ret .non
  | .rt d => ret d
  | _ => nop
/-- the mirror of a def of so many slots by its body's -/
def fnM (n : Nat) (m : Sl → Mo Fl) : List Da → Mo Da := fun ds => bnd (m (startS n ds)) fnE
section
variable {K : PySem.W.Frag} {E : St → XK}
theorem spOf_of {n : Nat} {f : List Da → Mo Da} {w : Wd} {vs : List V} {ds : List Da} {Q : VK} {E : XK} (m : Em K w) (r : RepL K w vs ds) (h : Run K w (ar n f ds w.st) (OkV K Q) (XP K E)) : SpOf K n f vs w.H Q E := by
  unfold ar at h
  split at h
  · rename_i hl
    exact ⟨w, ds, rfl, m, r, r.length.trans hl, h⟩
  · exact h.elim
theorem s_call {n : Nat} {f : List Da → Mo Da} {tA : TA} {al : Sl → Mo (List Da)} {dvs : List V} {dds : List Da} (hd : ∀ w, Em K w → RepL K w dvs dds) (ha : SA K E tA al) : SE K E (tCallSD (SpOf K n f) dvs E tA) (eCall (fun ds => ar n f (ds ++ dds)) al) := fun w ro σ Q e h =>
  ha w ro σ _ e (h.bind.mono (fun ds w1 x1 p1 m1 k vs rv => spOf_of m1 (rv.append (hd w1 m1)) k) fun _ _ _ z => z)
theorem start_slot : ∀ {vs : List V} {ds : List Da} {w : Wd}, RepL K w vs ds → ∀ (n i : Nat) (d : Da), (ds.map some ++ List.replicate n none)[i]? = some (some d) → ∃ v, (vs.map some ++ List.replicate n none)[i]? = some (some v) ∧ Rep K w v d
  | _, _, w, .nil, n, i, d, h => by
    simp only [List.map_nil, List.nil_append] at h
    rw [List.getElem?_replicate] at h
    split at h <;> cases h
  | _, _, w, .cons r t, n, 0, d, h => by
    simp at h
    subst h
    exact ⟨_, rfl, r⟩
  | _, _, w, .cons r t, n, i + 1, d, h => by
    obtain ⟨v, h1, h2⟩ := start_slot t n i d (by simpa using h)
    exact ⟨v, by simpa using h1, h2⟩
theorem en_start {w : Wd} {vs : List V} {ds : List Da} (m : Em K w) (r : RepL K w vs ds) (N : List Str) : En K w (startS N.length ds) (L2.start N vs) := by
  refine ⟨m, ?_, fun i d h => ?_⟩
  · unfold L2.start startS
    simp [r.length]
  · unfold startS at h
    unfold L2.start
    rw [r.length]
    exact start_slot r _ i d h
theorem body_run {w : Wd} {N : List Str} {ts : TS} {m : Sl → Mo Fl} {vs : List V} {ds : List Da} {Q : VK} {E0 : XK} (hs : SS K (fun _ => E0) ts m) (em : Em K w) (r : RepL K w vs ds) (h : Run K w (fnM N.length m ds w.st) (OkV K Q) (XP K E0)) :
    ts { nx := fun _ H' => Q .non H', rt := Q } (L2.start N vs) w.H :=
  hs w _ _ _ (en_start em r N) (h.bind.mono (fun f w1 x1 p1 m1 k => by
    cases f with
    | nx ro => exact fun σ e => Run.here (ok := OkV K Q) (a := Da.non) m1 k _ .non
    | rt d => exact Run.here (ok := OkV K Q) (a := d) m1 k
    | bk ro => exact k.elim
    | ct ro => exact k.elim) fun _ _ _ z _ => z)
/-- a def keeps its mirror -/
theorem ok_of {P : Program} {wd : World} {mg : Str → Option Value} {base : Heap} {x qual : Str} {params : Arguments} {body : List Stmt} {scope : Scope} {dvs : List V} {kws : List (Str × V)} {f : Addr} {fd : FuncData} {N ps : List Str} {k n : Nat} {m : Sl → Mo Fl} {nN : Nat}
    (F : FunD K x qual params body scope dvs kws f fd) (S : FnScope N ps scope) (hn : ps.length = n) (hN : N.length = nN)
    (hb : ∀ (cdv : Value) (A : Around) (outer : List Env) (s : Shared) (H : Hp) (E : XK), Room k (A.deeper (PyProof.Rows.envOfC qual scope s.heap.objs.size f cdv)) →
      ∃ t, PSs (cxOf (L2.CX P wd) P wd K mg base N qual scope f cdv A outer s H E) body t ∧ SS K (fun _ => E) t m) :
    FnOk P wd K mg base (L2.CX P wd) (k + 1) f fd ps (SpOf K n (fnM nN m)) := by
  subst hn hN
  refine F.ok S (fun vs H Q E h => ?_) (fun cdv A outer s H vs Q E hr h => ?_)
  · obtain ⟨w, ds, _, _, _, hl, _⟩ := h
    exact hl
  · obtain ⟨w, ds, rfl, em, r, hl, k⟩ := h
    obtain ⟨t, ht, hs⟩ := hb cdv A outer s w.H E hr
    exact ⟨t, ht, body_run hs em r k⟩
end
end CL
namespace CL
open PySem PySem.Spec L2
structure QE (X : Cx) (E : St → XK) (e : Expr) (te : TE) (m : Sl → Mo Da) : Prop where
  pe : PE X e te
  se : SE X.K E te m
structure QT (X : Cx) (E : St → XK) (e : Expr) (tt : TT) (m : Sl → Mo Bool) : Prop where
  pt : PT X e tt
  st : ST X.K E tt m
structure QW (X : Cx) (E : St → XK) (e : Expr) (tt : TT) (m : Sl → Mo Bool) : Prop where
  pw : PW X e tt
  st : ST X.K E tt m
structure QA (X : Cx) (E : St → XK) (es : List Expr) (ta : TA) (m : Sl → Mo (List Da)) : Prop where
  pa : PA X es ta
  sa : SA X.K E ta m
structure QL (X : Cx) (E : St → XK) (e : Expr) (te : TE) (m : Sl → Mo (List Da)) : Prop where
  pe : PE X e te
  sl : SL X.K E te m
structure QI (X : Cx) (E : St → XK) (tg iter : Expr) (wi : TI) (m : Sl → Mo Src) : Prop where
  pi : PI X tg iter wi
  si : SI X.K E wi m
structure QG (X : Cx) (tg : Expr) (g : TG) (t : Tg) (ws : List Nat) : Prop where
  pg : PG X tg g
  sg : SG X.K g t ws
structure QGs (X : Cx) (tg : List Expr) (g : TGs) (t : Tgs) (ws : List Nat) : Prop where
  pg : PGs X tg g
  sg : SGs X.K g t ws
structure QS (X : Cx) (E : St → XK) (s : Stmt) (ts : TS) (m : Sl → Mo Fl) : Prop where
  ps : PS X s ts
  ss : SS X.K E ts m
structure QB (X : Cx) (E : St → XK) (s : List Stmt) (ts : TS) (m : Sl → Mo Fl) : Prop where
  ps : PSs X s ts
  ss : SS X.K E ts m
structure QP (X : Cx) (E : St → XK) (e : Option Expr) (to : TO) (m : Sl → Mo (Option Int)) : Prop where
  po : PO X e to
  so : ∀ (w : Wd) (ro : Sl) (σ : St) (Q : Option Int → Hp → Prop), En X.K w ro σ → Run X.K w (m ro w.st) (fun o w' => Q o w'.H) (XP X.K (E σ)) → to σ w.H Q
/-- a def that can be called by its name -/
structure Cal (P : Program) (wd : World) (K : PySem.W.Frag) (mg : Str → Option Value) (base : Heap) (k : Nat) (x : Str) (n : Nat) (f : List Da → Mo Da) (dvs : List V) : Prop where
  ex : ∃ (q : Addr) (fd : FuncData) (ps : List Str) (ds : List Value), mg x = some (.ref q) ∧ PySem.W.keepIn K (.ref q) = true ∧ Binds K fd ps ds ∧ Vals dvs ds ∧ FnOk P wd K mg base (L2.CX P wd) k q fd ps (SpOf K n f)
def noP : Sl → Mo (Option Int) := fun _ => ret none
def soP (a : Sl → Mo Da) : Sl → Mo (Option Int) := fun ro => bnd (a ro) fun d => match d with
  | .int i => ret (some i)
  | _ => nop
def eSl (f : Da → Option Int → Option Int → Mo Da) (a : Sl → Mo Da) (lo hi : Sl → Mo (Option Int)) : Sl → Mo Da := fun ro => bnd (a ro) fun d => bnd (lo ro) fun l => bnd (hi ro) fun h => f d l h
def lSl (a : Sl → Mo Da) (lo hi : Sl → Mo (Option Int)) : Sl → Mo (List Da) := fun ro => bnd (a ro) fun d => bnd (lo ro) fun l => bnd (hi ro) fun h => slL d l h
def l2 (f : Da → Da → Mo (List Da)) (a b : Sl → Mo Da) : Sl → Mo (List Da) := fun ro => bnd (a ro) fun x => bnd (b ro) fun y => f x y
def lCall (f : List Da → Mo (List Da)) (a : Sl → Mo (List Da)) : Sl → Mo (List Da) := fun ro => bnd (a ro) f
section
variable {X : Cx} {E : St → XK} {a b c e : Expr} {es rest : List Expr} {ta tb tc te : TE} {tt tu : TT} {tA : TA} {ma mb mc : Sl → Mo Da} {mp mq : Sl → Mo Bool} {al : Sl → Mo (List Da)} {pos p2 : Pos} {r r' : R2} {f g : Da → Da → Mo Da}
theorem q_var (i : Nat) {x : Str} (hN : X.N[i]? = some x := by rfl) (hv : Vis X.env.scope x := by first | exact Or.inl rfl | exact Or.inr (Or.inl rfl) | exact Or.inr (Or.inr rfl)) (hd : (x == ("__debug__" : Str)) = false := by decide)
    (hcd : (x == ("__classdict__" : Str)) = false := by decide) : QE X E (.Name x pos) (tVar i) (eVar i) := ⟨pe_var hN hv hd hcd, s_var⟩
theorem q_int {i : Int} {j} : QE X E (.Constant (.int i) j pos) (tC (.int i)) (eC (.int i)) := ⟨pe_int, s_c fun _ _ => .int i⟩
theorem q_bl {i : Bool} {j} : QE X E (.Constant (.bool i) j pos) (tC (.bl i)) (eC (.bl i)) := ⟨pe_bl, s_c fun _ _ => .bl i⟩
theorem q_str {i : Str} {j} : QE X E (.Constant (.str i) j pos) (tC (.str i)) (eC (.str i)) := ⟨pe_str, s_c fun _ _ => .str i⟩
theorem q_non {j} : QE X E (.Constant .none j pos) (tC .non) (eC .non) := ⟨pe_non, s_c fun _ _ => .non⟩
/-- a constant of the module -/
theorem q_gint {x : Str} {i : Int} (hm : ∃ t, X.mg x = some (.int i t)) (hg : Gl X x := by rfl) (hd : (x == ("__debug__" : Str)) = false := by decide) : QE X E (.Name x pos) (tC (.int i)) (eC (.int i)) :=
  ⟨by obtain ⟨t, h⟩ := hm; exact pe_glob hg h ⟨t, rfl⟩ hd, s_c fun _ _ => .int i⟩
theorem q_op {op : Operator} (ho : QO X (binaryOp op) r f) (ha : QE X E a ta ma) (hb : QE X E b tb mb) : QE X E (.BinOp a op b pos) (tOp r ta tb) (e2 f ma mb) := ⟨pe_op ho.op ha.pe hb.pe, s_op ho.s2 ha.se hb.se⟩
theorem q_cmp {op : CmpOp} (ho : QO X (compareOp op) r f) (ha : QE X E a ta ma) (hb : QE X E b tb mb) (hm : behindInMarks op b = false := by first | rfl | exact nomark _) : QE X E (.Compare a [op] [b] pos) (tOp r ta tb) (e2 f ma mb) := ⟨pe_cmpR ho.op ha.pe hb.pe hm, s_op ho.s2 ha.se hb.se⟩
theorem q_chain {op op' : CmpOp} (ho : QO X (compareOp op) r f) (ho' : QO X (compareOp op') r' g) (ha : QE X E a ta ma) (hb : QE X E b tb mb) (hc : QE X E c tc mc) (hm : lastMarks [op, op'] [b, c] = false := by with_unfolding_all rfl) : QE X E (.Compare a [op, op'] [b, c] pos) (tChain r r' ta tb tc) (eChain f g ma mb mc) :=
  ⟨pe_chain ho.op ho'.op ha.pe hb.pe hc.pe hm, s_chain ho.s2 ho'.s2 ha.se hb.se hc.se⟩
theorem q_one {op} (h : QE X E a ta ma) : QE X E (.BoolOp op [a] pos) ta ma := ⟨pe_one h.pe, h.se⟩
theorem q_and (ha : QE X E a ta ma) (hb : QE X E (.BoolOp .And (b :: rest) pos) tb mb) : QE X E (.BoolOp .And (a :: b :: rest) pos) (tAndV ta tb) (vAnd ma mb) := ⟨pe_and ha.pe hb.pe, s_vAnd ha.se hb.se⟩
theorem q_not (ha : QE X E a ta ma) : QE X E (.UnaryOp .Not a pos) (tNotV ta) (vNot ma) := ⟨pe_not ha.pe, s_vNot ha.se⟩
theorem q_ifx (ht : QT X E c tt mp) (ha : QE X E a ta ma) (hb : QE X E b tb mb) : QE X E (.IfExp c a b pos) (tIf tt ta tb) (eIf mp ma mb) := ⟨pe_ifExp ht.pt ha.pe hb.pe, s_if ht.st ha.se hb.se⟩
theorem qt_val (h : QE X E e te ma) (he : ∀ whole, isTrue e X.env whole = (do let v ← whole; standAt e.pos; holding [v] (truthy v)) := by intro _; rfl) : QT X E e (tB te) (tst ma) := ⟨pt_val h.pe he, s_tB h.se⟩
theorem qt_cmp {op : CmpOp} (ho : QO X (compareOp op) r f) (ha : QE X E a ta ma) (hb : QE X E b tb mb) (hm : behindInMarks op b = false := by first | rfl | exact nomark _) : QT X E (.Compare a [op] [b] pos) (tTest (tOp r ta tb)) (tst (e2 f ma mb)) := ⟨pt_cmpR ho.op ha.pe hb.pe hm, s_tst (s_op ho.s2 ha.se hb.se)⟩
theorem qw_and1 (h : QT X E a tt mp) : QW X E (.BoolOp .And [a] pos) tt mp := ⟨pw_and1 h.pt, h.st⟩
theorem qw_or1 (h : QT X E a tt mp) : QW X E (.BoolOp .Or [a] pos) tt mp := ⟨pw_or1 h.pt, h.st⟩
theorem qw_and (h : QT X E a tt mp) (hb : QW X E (.BoolOp .And (b :: rest) pos) tu mq) : QW X E (.BoolOp .And (a :: b :: rest) pos) (tAnd tt tu) (tAnd_ mp mq) := ⟨pw_and h.pt hb.pw, s_and h.st hb.st⟩
theorem qw_or (h : QT X E a tt mp) (hb : QW X E (.BoolOp .Or (b :: rest) pos) tu mq) : QW X E (.BoolOp .Or (a :: b :: rest) pos) (tOr tt tu) (tOr_ mp mq) := ⟨pw_or h.pt hb.pw, s_or h.st hb.st⟩
theorem qt_w (h : QW X E a tt mp) : QT X E a tt mp := ⟨h.pw.pt, h.st⟩
theorem qt_not (h : QT X E a tt mp) : QT X E (.UnaryOp .Not a pos) (tNot tt) (tNot_ mp) := ⟨pt_not h.pt, s_not h.st⟩
theorem qa_nil : QA X E [] tNil aNil := ⟨pa_nil, s_nil⟩
theorem qa_cons (h : QE X E e te ma) (hr : QA X E es tA al) (hs : starEach (e :: es) X.env = (false, eval e X.env) :: starEach es X.env := by rfl) : QA X E (e :: es) (tCons te tA) (aCons ma al) := ⟨pa_cons h.pe hr.pa hs, s_cons h.se hr.sa⟩
theorem q_tup {k} (h : QA X E es tA al) : QE X E (.Tuple es k pos) (tTup tA) (eTup al) := ⟨pe_tup h.pa, s_tup h.sa⟩
theorem ql_disp (h : QA X E es tA al) : QL X E (.List es pos) (tLst tA) (lDisp al) := ⟨pe_lst h.pa, s_lst h.sa⟩
theorem q_L (h : QL X E e te al) : QE X E e te (eL al) := ⟨h.pe, s_L h.sl⟩
theorem q_H (h : QL X E e te al) : QE X E e te (eH al) := ⟨h.pe, s_H h.sl⟩
theorem q_F (h : QE X E e te ma) : QE X E e te (eF ma) := ⟨h.pe, s_F h.se⟩
theorem ql_op {op : Operator} {f : Da → Da → Mo (List Da)} (ho : QOL X (binaryOp op) r f) (ha : QE X E a ta ma) (hb : QE X E b tb mb) : QL X E (.BinOp a op b pos) (tOp r ta tb) (l2 f ma mb) := ⟨pe_op ho.op ha.pe hb.pe, fun w ro σ Q e h =>
  ha.se w ro σ _ e (h.bind.mono (fun d w1 x1 p1 m1 k v rv => hb.se w1 ro σ _ (e.mono x1 m1) (k.bind.mono (fun d2 w2 x2 p2 m2 k2 v2 rv2 =>
    ho.s2 w2 v v2 d d2 Q _ m2 (rv.mono m1 x2) rv2 k2) fun _ _ _ z => z)) fun _ _ _ z => z)⟩
theorem q_sub1 {K : PySem.W.Frag} (ha : QE X E a ta ma) (hb : QE X E b tb mb) (hs : PlainIx b := by exact fun _ _ => rfl) (hK : X.K = K := by rfl) : QE X E (.Subscript a b pos) (tOp (rIx K) ta tb) (e2 ixD ma mb) := by
  subst hK
  exact ⟨pe_ix q_ix.1 ha.pe hb.pe hs, s_op q_ix.2 ha.se hb.se⟩
theorem qp_none : QP X E none tNoPart noP := ⟨po_none, fun w ro σ Q e h => h.here e.emb⟩
theorem qp_some (h : QE X E e te ma) : QP X E (some e) (tPart te) (soP ma) := ⟨po_some h.pe, fun w ro σ Q en hh => h.se w ro σ _ en (hh.bind.mono (fun d w1 x1 p1 m1 k v rv => by
  split at k
  · cases rv; exact ⟨_, rfl, k.here m1⟩
  · exact k.elim) fun _ _ _ z => z)⟩
theorem q_slice {K : PySem.W.Frag} {lo hi : Option Expr} {tl th : TO} {ml mh : Sl → Mo (Option Int)} (ha : QE X E a ta ma) (hl : QP X E lo tl ml) (hh : QP X E hi th mh) (hK : X.K = K := by rfl) : QE X E (.Subscript a (.Slice lo hi none p2) pos) (tSl (rSlAll K) ta tl th) (eSl slA ma ml mh) := by
  subst hK
  exact ⟨pe_slice q_slA.1 ha.pe hl.po hh.po, fun w ro σ Q e h => ha.se w ro σ _ e (h.bind.mono (fun d w1 x1 p1 m1 k v rv => hl.so w1 ro σ _ (e.mono x1 m1) (k.bind.mono (fun l w2 x2 p2 m2 k2 =>
    hh.so w2 ro σ _ (e.mono (x1.trans x2) m2) (k2.bind.mono (fun u w3 x3 p3 m3 k3 => q_slA.2 w3 v d l u Q _ m3 (rv.mono m1 (x2.trans x3)) k3) fun _ _ _ z => z)) fun _ _ _ z => z)) fun _ _ _ z => z)⟩
theorem q_cb {x : Str} {id : String} {rr : List V → Hp → VK → Prop} {fm : List Da → Mo Da} {p : Pos} (hc : CallR X (.builtin id) rr) (hs : SC X.K rr fm) (hm : X.mg x = none) (ha : QA X E (e :: es) tA al) (hv : bootBuiltins x = some (.builtin id) := by decide +kernel) (hg : Gl X x := by rfl) (hn : x ≠ "__name__" := by decide) (hdb : (x == ("__debug__" : Str)) = false := by decide)
    (he : starEach (e :: es) X.env = (false, eval e X.env) :: starEach es X.env := by rfl) (hpl : (backTo pos (starEach es X.env)).any (·.1) = false := by rfl) : QE X E (.Call (.Name x p) (e :: es) [] pos) (tCB rr tA) (eCall fm al) :=
  ⟨pe_callB hc hg hm hv ha.pa hn hdb he hpl, s_cb hs ha.sa⟩
theorem q_ct {x : Str} {T : String} {rr : List V → Hp → VK → Prop} {fm : List Da → Mo Da} {p : Pos} (hc : CallR X (.type T) rr) (hs : SC X.K rr fm) (hm : X.mg x = none) (ha : QA X E (e :: es) tA al) (hv : bootBuiltins x = some (.type T) := by decide +kernel) (hg : Gl X x := by rfl) (hn : x ≠ "__name__" := by decide) (hdb : (x == ("__debug__" : Str)) = false := by decide)
    (he : starEach (e :: es) X.env = (false, eval e X.env) :: starEach es X.env := by rfl) (hpl : (backTo pos (starEach es X.env)).any (·.1) = false := by rfl) : QE X E (.Call (.Name x p) (e :: es) [] pos) (tCB rr tA) (eCall fm al) :=
  ⟨pe_callTy hc hg hm hv ha.pa hn hdb he hpl, s_cb hs ha.sa⟩
theorem ql_ct {x : Str} {T : String} {rr : List V → Hp → VK → Prop} {fm : List Da → Mo (List Da)} {p : Pos} (hc : CallR X (.type T) rr) (hs : SCL X.K rr fm) (hm : X.mg x = none) (ha : QA X E (e :: es) tA al) (hv : bootBuiltins x = some (.type T) := by decide +kernel) (hg : Gl X x := by rfl) (hn : x ≠ "__name__" := by decide) (hdb : (x == ("__debug__" : Str)) = false := by decide)
    (he : starEach (e :: es) X.env = (false, eval e X.env) :: starEach es X.env := by rfl) (hpl : (backTo pos (starEach es X.env)).any (·.1) = false := by rfl) : QL X E (.Call (.Name x p) (e :: es) [] pos) (tCB rr tA) (lCall fm al) :=
  ⟨pe_callTy hc hg hm hv ha.pa hn hdb he hpl, fun w ro σ Q e h => ha.sa w ro σ _ e (h.bind.mono (fun ds w1 x1 p1 m1 k vs rvs => hs w1 vs ds Q _ m1 rvs k) fun _ _ _ z => z)⟩
theorem q_isi {K : PySem.W.Frag} {p p3 : Pos} {T : Str} (t : Tn) (hm : X.mg "isinstance" = none) (hT : X.mg T = none) (ha : QE X E a ta ma) (hv : bootBuiltins T = some (.type t.name) := by decide +kernel) (h1 : t ≠ .non := by decide) (h2 : t ≠ .dict := by decide) (hg : Gl X "isinstance" := by rfl) (hgT : Gl X T := by rfl) (hn : T ≠ "__name__" := by decide) (hd : (T == ("__debug__" : Str)) = false := by decide)
    (hs : starEach (a :: [.Name T p3]) X.env = (false, eval a X.env) :: starEach [.Name T p3] X.env := by rfl) (hs2 : starEach (.Name T p3 :: []) X.env = (false, eval (.Name T p3) X.env) :: starEach [] X.env := by rfl) (hpl : (backTo pos (starEach [.Name T p3] X.env)).any (·.1) = false := by rfl) (hK : X.K = K := by rfl) :
    QE X E (.Call (.Name "isinstance" p) [a, .Name T p3] [] pos) (tCB (rIsi K) (tCons ta (tCons (tC (.ty t.name)) tNil))) (e1 (isT t) ma) := by
  subst hK
  exact ⟨pe_callB call_isi hg hm (by decide +kernel) (pa_cons ha.pe (pa_cons (pe_bltn hgT hT hv rfl hn hd) pa_nil hs2) hs) (by decide) (by decide) hs hpl, fun w ro σ Q e h =>
    ha.se w ro σ _ e (h.bind.mono (fun d w1 x1 p1 m1 k v rv => sc_isT h1 h2 w1 v d Q _ m1 rv k) fun _ _ _ z => z)⟩
theorem q_app {K : PySem.W.Frag} {apos : Pos} (ha : QE X E a ta ma) (hb : QE X E b tb mb) (hbase : attributeBase a "append" X.env (eval a X.env) = eval a X.env := by rfl)
    (hfew : ((backTo pos (starEach (b :: []) X.env)).all (fun x => !x.1) && (backToKw pos (keywordEach [] X.env)).all (fun x => x.1.isSome) && decide ((b :: []).length + ([] : List Keyword).length + (if ([] : List Keyword).isEmpty then 0 else 1) < 30)) = true := by rfl) (hline : (apos.endLine == pos.line) = true := by rfl) (hs : starEach (b :: []) X.env = (false, eval b X.env) :: starEach [] X.env := by rfl) (hpl : (backTo pos (starEach [] X.env)).any (·.1) = false := by rfl) (hK : X.K = K := by rfl) :
    QE X E (.Call (.Attribute a "append" apos) [b] [] pos) (tBM K "list" rAppend ta (tCons tb tNil)) (eApp ma mb) := by
  subst hK
  exact ⟨pe_bm PySem.F.plainAttrs_list PySem.F.slot_list_append PySem.F.type_list_append mt_append ha.pe (pa_cons hb.pe pa_nil hs) hbase hfew hline hs hpl, s_app ha.se hb.se⟩
theorem q_call {P : Program} {wd : World} {K : PySem.W.Frag} {mg : Str → Option Value} {base : Heap} {k n : Nat} {x : Str} {dvs : List V} {dds : List Da} {fm : List Da → Mo Da} {p : Pos} (F : Cal P wd K mg base k x n fm dvs) (hr : Room k X.A) (hx : ∀ σ, PassesAt (L2.CX X.prog X.w) X σ (E σ))
    (ha : QA X E (e :: es) tA al) (hP : X.prog = P := by rfl) (hw : X.w = wd := by rfl) (hK : X.K = K := by rfl) (hmg : X.mg = mg := by rfl) (hbase : X.base = base := by rfl) (hdd : ∀ w, Em K w → RepL K w dvs dds := by intro w m; first | exact .nil | exact .cons (.int _) .nil) (hg : Gl X x := by rfl) (hdb : (x == ("__debug__" : Str)) = false := by decide) (he : starEach (e :: es) X.env = (false, eval e X.env) :: starEach es X.env := by rfl) (hpl : (backTo pos (starEach es X.env)).any (·.1) = false := by rfl) :
    QE X E (.Call (.Name x p) (e :: es) [] pos) (tCallSD (SpOf K n fm) dvs E tA) (eCall (fun ds => ar n fm (ds ++ dds)) al) := by
  subst hP hw hK hmg hbase
  obtain ⟨q, fd, ps, ds, hm, hk, hb, hd, F⟩ := F.ex
  exact ⟨pe_callSD F hr hg hm hk hb hd hx ha.pa hdb he hpl, s_call hdd ha.sa⟩
theorem qg_name (i : Nat) {x : Str} (hN : X.N.Nodup) (hi : X.N[i]? = some x := by rfl) (hx : Loc X.env.scope x := by first | exact Or.inl rfl | exact Or.inr rfl) (hf : X.fn x = true ∨ X.env.scope.names.lookup x = some .local := by first | exact .inl rfl | exact .inr rfl | assumption) : QG X (.Name x pos) (gName i) (gN i) [i] := ⟨pg_name hN hi hx hf, sg_name⟩
theorem qgs_nil : QGs X [] gNil gsN [] := ⟨pgs_nil, sgs_nil⟩
theorem qgs_cons {g : TG} {gs : TGs} {t : Tg} {u : Tgs} {ws us : List Nat} (h1 : QG X e g t ws) (h2 : QGs X es gs u us) (hs : (assignEach (e :: es) X.env).map (·.2) = assign e X.env :: (assignEach es X.env).map (·.2) := by rfl) : QGs X (e :: es) (gCons g gs) (gsC t u) (ws ++ us) := ⟨pgs_cons h1.pg h2.pg hs, sgs_cons h1.sg h2.sg⟩
theorem qg_tup {K : PySem.W.Frag} {gs : TGs} {t : Tgs} {ws : List Nat} {k : Nat} (n : Nat) (hc : X.calm = true) (h : QGs X es gs t ws) (hn : (assignEach es X.env).length = n := by rfl) (hst : (assignEach es X.env).findIdx? (·.1) = none := by rfl) (hK : X.K = K := by rfl) : QG X (.Tuple es k pos) (gTup K n gs) (gT n t) ws := by
  subst hK
  exact ⟨pg_tup hc h.pg hn hst, sg_tup h.sg⟩
variable {tg iter : Expr}
theorem qi_v {K : PySem.W.Frag} (h : QE X E iter te ma) (hK : X.K = K := by rfl) : QI X E tg iter (iSeq K te) (iV ma) := by
  subst hK
  exact ⟨pi_seq h.pe, si_v h.se⟩
theorem qi_r1 {p : Pos} (hm : X.mg "range" = none) (h : QA X E [a] tA al) (hg : Gl X "range" := by rfl) (hs : starEach [a] X.env = [(false, eval a X.env)] := by rfl) : QI X E tg (.Call (.Name "range" p) [a] [] pos) (iRng1 tA) (iR1 al) := ⟨pi_range1 hg hm h.pa hs, si_r1 h.sa⟩
end
section
variable {X : Cx} {E : St → XK} {a b c e tg iter : Expr} {es rest : List Expr} {ta tb tc te : TE} {tt : TT} {tA : TA} {ma mb mc : Sl → Mo Da} {mp : Sl → Mo Bool} {al : Sl → Mo (List Da)} {pos p2 : Pos} {s : Stmt} {ss s1 s2 : List Stmt} {ts tu : TS} {m n : Sl → Mo Fl} {g : TG} {t : Tg} {ws : List Nat} {wi : TI} {ms : Sl → Mo Src}
structure QTs (X : Cx) (E : St → XK) (es : List Expr) (tt : TT) (m : Sl → Mo Bool) : Prop where
  pt : PTs X es tt
  st : ST X.K E tt m
def tYes_ : Sl → Mo Bool := fun _ => ret true
theorem qts_nil : QTs X E [] tYes tYes_ := ⟨pts_nil, fun w ro σ Q e h => h.here e.emb⟩
theorem ql_comp {elt : Expr} {ifs : List Expr} {scope : Scope} {own : List (Str × Nat)} {vs : List Nat} (hc : X.calm = true) (hN : X.N.Nodup) (hi : QI X E tg iter wi ms) (ok : BlkOk X.N X.env.scope scope own)
    (hg : ∀ (s : Shared) (H : Hp) (C : Addr) (cl : List (Str × Addr)) (fp : List Addr), QG (X.blk s H scope (PySem.compEnvC scope cl C X.env) fp) tg g t ws)
    (ht : ∀ (s : Shared) (H : Hp) (C : Addr) (cl : List (Str × Addr)) (fp : List Addr), QTs (X.blk s H scope (PySem.compEnvC scope cl C X.env) fp) (fun _ => E0) ifs tt mp)
    (he : ∀ (s : Shared) (H : Hp) (C : Addr) (cl : List (Str × Addr)) (fp : List Addr), QE (X.blk s H scope (PySem.compEnvC scope cl C X.env) fp) (fun _ => E0) elt te ma)
    (hv : own.map (·.2) = vs := by rfl) (hw : ∀ i ∈ ws, i ∈ vs := by decide) (hs : ∀ x, foldedSetIterable iter X.env x = pure x := by intro _; rfl) : QL X E (.ListComp elt [⟨tg, iter, ifs, 0⟩] scope pos) (tLc wi g tt te vs) (lComp ms t mp ma vs) :=
  ⟨by subst hv; exact pe_lc hc hN hi.pi ok (fun s H C cl fp => (hg s H C cl fp).pg) (fun s H C cl fp => (ht s H C cl fp).pt) (fun s H C cl fp => (he s H C cl fp).pe) hs,
    sl_comp hi.si (hg X.s_0 (fun _ => none) 0 [] []).sg hw (ht X.s_0 (fun _ => none) 0 [] []).st (he X.s_0 (fun _ => none) 0 [] []).se⟩
theorem qb_nil : QB X E [] tNext mNil := ⟨pss_nil, ss_nil⟩
theorem qb_cons (h1 : QS X E s ts m) (h2 : QB X E ss tu n) : QB X E (s :: ss) (tSeq ts tu) (mSeq m n) := ⟨pss_cons h1.ps h2.ps, ss_seq h1.ss h2.ss⟩
theorem qb_one (h1 : QS X E s ts m) : QB X E [s] ts m := ⟨pss_one h1.ps, h1.ss⟩
theorem qs_set (i : Nat) {x : Str} {pos' : Pos} (hN : X.N.Nodup) (ha : QE X E e te ma) (hi : X.N[i]? = some x := by rfl) (hx : Loc X.env.scope x := by first | exact Or.inl rfl | exact Or.inr rfl) (hs : swapsWith e (some (.Name x pos')) pos.line X.env = pure false := by rfl) (hf : X.fn x = true ∨ X.env.scope.names.lookup x = some .local := by first | exact .inl rfl | exact .inr rfl | assumption) :
    QS X E (.Assign [.Name x pos'] e pos) (tAsg te (gName i)) (mSet i ma) := ⟨ps_set hN hi hx ha.pe hs hf, ss_set ha.se⟩
theorem qs_tgt (hg : QG X tg g t ws) (ha : QE X E e te ma) (hs : swapsWithSole [tg] e pos.line X.env = pure false := by rfl) (hw : swappedStores [tg] e X.env = pure none := by rfl)
    (h1 : (assignEach [tg] X.env).map (·.2) = [assign tg X.env] := by rfl) : QS X E (.Assign [tg] e pos) (tAsg te g) (mTgt t ma) := ⟨ps_asg ha.pe hg.pg hs hw h1, ss_tgt hg.sg ha.se⟩
theorem qs_setI {o i v : Expr} {to ti tv : TE} {mo mi mv : Sl → Mo Da} {pos' : Pos} (hv : QE X E v tv mv) (ho : QE X E o to mo) (hi : QE X E i ti mi) (ha : ∀ v, assign (.Subscript o i pos') X.env v = (do
      let ov ← holding [v] (eval o X.env)
      let iv ← holding [v, ov] (eval i X.env)
      standAt pos'
      holding [v, ov, iv] (setItem ov iv v)
      release [v, ov, iv] []) := by intro _; rfl) (hs : swapsWithSole [.Subscript o i pos'] v pos.line X.env = pure false := by rfl) (hw : swappedStores [.Subscript o i pos'] v X.env = pure none := by rfl)
    (h1 : (assignEach [.Subscript o i pos'] X.env).map (·.2) = [assign (.Subscript o i pos') X.env] := by rfl) : QS X E (.Assign [.Subscript o i pos'] v pos) (tAsg tv (gSub to ti rSetL)) (mSetI mv mo mi) :=
  ⟨ps_asg hv.pe (pg_sub ho.pe hi.pe set_list ha) hs hw h1, ss_setI hv.se ho.se hi.se⟩
theorem qs_ret (h : QE X E e te ma) : QS X E (.Return (some e) pos) (tRet te) (mRet ma) := ⟨ps_ret h.pe, ss_ret h.se⟩
theorem qs_expr (h : QE X E e te ma) (hs : swapsWith e none pos.line X.env = pure false := by rfl) : QS X E (.Expr e pos) (tDrop te) (mExpr ma) := ⟨ps_expr h.pe hs, ss_expr h.se⟩
theorem qs_if (ht : QT X E c tt mp) (h1 : QB X E s1 ts m) (h2 : QB X E s2 tu n) : QS X E (.If c s1 s2 pos) (tIfS tt ts tu) (mIf mp m n) := ⟨ps_if ht.pt h1.ps h2.ps, ss_if ht.st h1.ss h2.ss⟩
theorem qs_brk : QS X E (.Break pos) tBreak mBrk := ⟨ps_break, ss_brk⟩
theorem qs_aug (i : Nat) {x : Str} {op : Operator} {f : Int → Int → Int} {pos' : Pos} (hN : X.N.Nodup) (ho : PIp X op (ipI f)) (ha : QE X E e te ma) (hi : X.N[i]? = some x := by rfl) (hx : Loc X.env.scope x := by first | exact Or.inl rfl | exact Or.inr rfl) (hf : X.fn x = true ∨ X.env.scope.names.lookup x = some .local := by first | exact .inl rfl | exact .inr rfl | assumption) :
    QS X E (.AugAssign (.Name x pos') op e pos) (tAug i te (ipI f)) (mAug i f ma) := ⟨ps_aug hN hi hx ha.pe ho hf, ss_aug ha.se⟩
theorem qs_for (hp : PassesOwn (model X.prog X.w) X.A X.env X.xe) (hc : X.calm = true) (hi : QI X E tg iter wi ms) (hg : QG X tg g t ws) (hb : QB X E ss ts m) (hs : ∀ x, foldedSetIterable iter X.env x = pure x := by intro _; rfl) : QS X E (.For tg iter ss [] pos) (tFor wi g ts) (mFor ms t m) :=
  ⟨ps_for hp hc hi.pi hg.pg hb.ps hs, ss_for hi.si hg.sg hb.ss⟩
theorem qs_while (fuel : Nat) (hp : PassesOwn (model X.prog X.w) X.A X.env X.xe) (ht : QT X E c tt mp) (hb : QB X E ss ts m) : QS X E (.While c ss [] pos) (tWhile tt ts) (whileF mp m fuel) := ⟨ps_while hp ht.pt hb.ps, ss_while ht.st hb.ss⟩
/-- y = [..]: a comprehension stored at once -/
theorem qs_setLc (i : Nat) {y : Str} {py spos : Pos} {elt : Expr} {ifs : List Expr} {scope : Scope} {own : List (Str × Nat)} {vs : List Nat} (hc : X.calm = true) (hN : X.N.Nodup) (hi : QI X E tg iter wi ms) (ok : BlkOk X.N X.env.scope scope own)
    (hg : ∀ (s : Shared) (H : Hp) (C : Addr) (cl : List (Str × Addr)) (fp : List Addr), QG (X.blk s H scope (PySem.compEnvC scope cl C X.env) fp) tg g t ws)
    (ht : ∀ (s : Shared) (H : Hp) (C : Addr) (cl : List (Str × Addr)) (fp : List Addr), QTs (X.blk s H scope (PySem.compEnvC scope cl C X.env) fp) (fun _ => E0) ifs tt mp)
    (he : ∀ (s : Shared) (H : Hp) (C : Addr) (cl : List (Str × Addr)) (fp : List Addr), QE (X.blk s H scope (PySem.compEnvC scope cl C X.env) fp) (fun _ => E0) elt te ma)
    (mk : (Sl → Mo (List Da)) → Sl → Mo Da) (hmut : ∀ {te : TE} {al : Sl → Mo (List Da)}, SL X.K E te al → SE X.K E te (mk al))
    (hsw : swapsWith (.ListComp elt [⟨tg, iter, ifs, 0⟩] scope pos) (some (.Name y py)) spos.line X.env = pure true)
    (hy : X.N[i]? = some y := by rfl) (hyl : X.env.scope.names.lookup y = some .local := by rfl) (hv : own.map (·.2) = vs := by rfl) (hw : ∀ i ∈ ws, i ∈ vs := by decide) (hs : ∀ x, foldedSetIterable iter X.env x = pure x := by intro _; rfl) :
    QS X E (.Assign [.Name y py] (.ListComp elt [⟨tg, iter, ifs, 0⟩] scope pos) spos) (tAsg (tLc wi g tt te vs) (gName i)) (mSet i (mk (lComp ms t mp ma vs))) :=
  ⟨by subst hv; exact ps_setLc hc hN hy hyl hsw hi.pi ok (fun s H C cl fp => (hg s H C cl fp).pg) (fun s H C cl fp => (ht s H C cl fp).pt) (fun s H C cl fp => (he s H C cl fp).pe) hs,
    ss_set (hmut (sl_comp hi.si (hg X.s_0 (fun _ => none) 0 [] []).sg hw (ht X.s_0 (fun _ => none) 0 [] []).st (he X.s_0 (fun _ => none) 0 [] []).se))⟩
end
end CL
namespace CL
open PySem PySem.Spec L2
def compGo2 (o : Option Nat) (all : List Da) (t : Tg) (p : Sl → Mo Bool) (s1 : Sl → Mo Src) (t1 : Tg) (p1 : Sl → Mo Bool) (e : Sl → Mo Da) (vs1 : List Nat) (ro : Sl) : List Da → List Da → Mo (List Da)
  | [], acc => fun st => if chk o all st = true then .ok acc st else .bad
  | x :: r, acc => fun st => if chk o all st = true then (match t x ro with
    | some ro1 => bnd (noX (p ro1)) (fun c => if c = true then bnd (noX (s1 ro1)) (fun s => bnd (compGo s.o s.xs t1 p1 e (wipeS ro1 vs1) s.xs acc) (fun acc2 => compGo2 o all t p s1 t1 p1 e vs1 ro r acc2)) else compGo2 o all t p s1 t1 p1 e vs1 ro r acc) st
    | none => .bad) else .bad
def lComp2 (s : Sl → Mo Src) (t : Tg) (p : Sl → Mo Bool) (s1 : Sl → Mo Src) (t1 : Tg) (p1 : Sl → Mo Bool) (e : Sl → Mo Da) (vs vs1 : List Nat) : Sl → Mo (List Da) := fun ro => bnd (s ro) fun s => compGo2 s.o s.xs t p s1 t1 p1 e vs1 (wipeS ro vs) s.xs []
section
end
section
end
section
end
section
end
def popAtD (d k : Da) : Mo Da := fun st => match d, k with
  | .han n, .int i => (match st[n]? with
    | some (.lst xs) => (match ixN xs.length i with
      | some j => (match xs[j]? with
        | some x => if big i then .ok x (st.set n (.lst (xs.eraseIdx j))) else .bad
        | none => .bad)
      | none => .bad)
    | _ => .bad)
  | _, _ => .bad
def ePopAt (a b : Sl → Mo Da) : Sl → Mo Da := fun ro => bnd (a ro) fun d => bnd (isLs d) fun _ => bnd (b ro) fun x => popAtD d x
def setSlD (d : Da) (l h : Option Int) (x : Da) : Mo Unit := fun st => match d, l, h, x with
  | .han n, some a, some c, .lst ys => (match st[n]? with
    | some (.lst xs) => if 0 ≤ a ∧ a ≤ c ∧ c ≤ xs.length ∧ xs.length + ys.length ≤ szD then .ok () (st.set n (.lst (xs.take a.toNat ++ ys ++ xs.drop c.toNat))) else .bad
    | _ => .bad)
  | _, _, _, _ => .bad
def mSetSl (v o : Sl → Mo Da) (lo hi : Sl → Mo (Option Int)) : Sl → Mo Fl := fun ro => bnd (v ro) fun x => bnd (o ro) fun d => bnd (lo ro) fun l => bnd (hi ro) fun h => bnd (setSlD d l h x) fun _ => ret (.nx ro)
section
end
section
end
theorem room1 {k : Nat} {A : Around} (r : Room k A) : A.units + 65 < cLine := by have := r.un; omega
def indexD (d x : Da) : Mo Da := fun st => match pyD st d, pyD st x with
  | some (.list qs), some p => if (SeqAt.shaped (.list qs) && SeqAt.shaped p) = true then (match qs.findIdx? (fun z => PyData.eqv z p) with
    | some j => .ok (.int (j : Nat)) st
    | none => .bad) else .bad
  | _, _ => .bad
def eIndex (a b : Sl → Mo Da) : Sl → Mo Da := fun ro => bnd (a ro) fun d => bnd (isLs d) fun _ => bnd (b ro) fun x => indexD d x
section
variable {K : PySem.W.Frag} {E : St → XK} {ta tb : TE} {a b : Sl → Mo Da}
theorem s_index (ha : SE K E ta a) (hb : SE K E tb b) : SE K E (tBM K "list" (rIndexD K) ta (tCons tb tNil)) (eIndex a b) := fun w ro σ Q e h =>
  ha w ro σ _ e (h.bind.mono (fun d w1 x1 p1 m1 k v rv => by
    obtain ⟨ty, k2⟩ := isLs_run m1 rv k.bind
    refine ⟨ty, hb w1 ro σ _ (e.mono x1 m1) (k2.bind.mono (fun x w2 x2 p2 m2 k3 u ru => ?_) fun _ _ _ z => z)⟩
    have rv2 := rv.mono m1 x2
    unfold indexD at k3
    split at k3
    · rename_i qs p hq hp
      split at k3
      · rename_i hs
        obtain ⟨s1, s2⟩ := Bool.and_eq_true_iff.mp hs
        split at k3
        · rename_i j hj
          have d1 := dp_py m2 rv2 hq
          have d2 := dp_py m2 ru hp
          have hv : ∃ q, v = .ref q := by
            cases d1
            exact ⟨_, rfl⟩
          obtain ⟨q, rfl⟩ := hv
          obtain ⟨hjl, hj1, hj2⟩ := List.findIdx?_eq_some_iff_getElem.mp hj
          refine ⟨q, u, p, qs, j, qs[j], rfl, rfl, d1, d2, s1, s2, List.getElem?_eq_getElem hjl, hj1, fun m z' hm hz => ?_, k3.here m2 _ (.int _)⟩
          obtain ⟨hml, rfl⟩ := List.getElem?_eq_some_iff.mp hz
          have := hj2 m hm
          simpa using this
        · exact k3.elim
      · exact k3.elim
    · exact k3.elim) fun _ _ _ z => z)
end
section
variable {X : Cx} {E : St → XK} {pos : Pos}
theorem q_index {a b : Expr} {ta tb : TE} {ma mb : Sl → Mo Da} {K : PySem.W.Frag} {apos : Pos} (hu : X.A.units + 65 < cLine) (ha : QE X E a ta ma) (hb : QE X E b tb mb) (hbase : attributeBase a "index" X.env (eval a X.env) = eval a X.env := by rfl)
    (hfew : ((backTo pos (starEach (b :: []) X.env)).all (fun x => !x.1) && (backToKw pos (keywordEach [] X.env)).all (fun x => x.1.isSome) && decide ((b :: []).length + ([] : List Keyword).length + (if ([] : List Keyword).isEmpty then 0 else 1) < 30)) = true := by rfl) (hline : (apos.endLine == pos.line) = true := by rfl) (hs : starEach (b :: []) X.env = (false, eval b X.env) :: starEach [] X.env := by rfl) (hpl : (backTo pos (starEach [] X.env)).any (·.1) = false := by rfl) (hK : X.K = K := by rfl) :
    QE X E (.Call (.Attribute a "index" apos) [b] [] pos) (tBM K "list" (rIndexD K) ta (tCons tb tNil)) (eIndex ma mb) := by
  subst hK
  exact ⟨pe_bm PySem.F.plainAttrs_list PySem.F.slot_list_index PySem.F.type_list_index (mt_indexD hu) ha.pe (pa_cons hb.pe pa_nil hs) hbase hfew hline hs hpl, s_index ha.se hb.se⟩
end
end CL
namespace CL
open PySem PySem.Spec L2
def fldD (cs : List Str) (f : Str) (d : Da) : Mo Da := fun st => match d with
  | .han n => (match st[n]? with
    | some (.ins c fs) => if c ∈ cs then (match fs.lookup f with
      | some x => .ok x st
      | none => .bad) else .bad
    | _ => .bad)
  | _ => .bad
def eFld (cs : List Str) (f : Str) (a : Sl → Mo Da) : Sl → Mo Da := fun ro => bnd (a ro) (fldD cs f)
def setFD (cs : List Str) (f : Str) (d x : Da) : Mo Unit := fun st => match d with
  | .han n => (match st[n]? with
    | some (.ins c fs) => if c ∈ cs ∧ fs.length < 1000 then .ok () (st.set n (.ins c (putD f x fs))) else .bad
    | _ => .bad)
  | _ => .bad
def mFld (cs : List Str) (f : Str) (v o : Sl → Mo Da) : Sl → Mo Fl := fun ro => bnd (v ro) fun x => bnd (o ro) fun d => bnd (setFD cs f d x) fun _ => ret (.nx ro)
def mFldAug (c : Str) (f : Str) (g : Int → Int → Int) (o v : Sl → Mo Da) : Sl → Mo Fl := fun ro => bnd (o ro) fun d => bnd (fldD [c] f d) fun x => bnd (v ro) fun y => match x, y with
  | .int p, .int q => bnd (setFD [c] f d (.int (g p q))) fun _ => ret (.nx ro)
  | _, _ => nop
/-- what is known of classes -/
def ClsF (K : PySem.W.Frag) (cs : List Str) (f : Str) : Prop := ∀ c ∈ cs, Cls K (He.ga K c) ∧ NoAttr K (He.ga K c) f
theorem clsF_nil {K : PySem.W.Frag} {f : Str} : ClsF K [] f := fun c h => absurd h (by simp)
theorem clsF_cons {K : PySem.W.Frag} {f c : Str} {cs : List Str} (h1 : Cls K (He.ga K c)) (h2 : NoAttr K (He.ga K c) f) (h : ClsF K cs f) : ClsF K (c :: cs) f := fun d hd => by
  rcases List.mem_cons.mp hd with rfl | hd
  · exact ⟨h1, h2⟩
  · exact h d hd
def inCls (s : Stmt) (j : Nat) : Stmt := match s with
  | .ClassDef _ _ _ body _ _ _ _ _ _ _ => body.getD j (.Pass ⟨0, 0, 0, 0⟩)
  | _ => .Pass ⟨0, 0, 0, 0⟩
section
variable {K : PySem.W.Frag} {E : St → XK} {ta tv : TE} {a v : Sl → Mo Da} {cs : List Str} {f : Str}
theorem fld_run {w : Wd} {d : Da} {x : V} {ok : Da → Wd → Prop} {ex : Str → List Da → Wd → Prop} (hC : ClsF K cs f) (m : Em K w) (r : Rep K w x d) (h : Run K w (fldD cs f d w.st) ok ex) :
    ∃ (p C dx : Addr) (fs : List (Str × V)) (u : V) (y : Da), x = .ref p ∧ w.H p = some (.ins C dx fs) ∧ (∃ c ∈ cs, C = He.ga K c) ∧ Cls K C ∧ NoAttr K C f ∧ fs.lookup f = some u ∧ Rep K w u y ∧ ok y w := by
  unfold fldD at h
  split at h
  · rename_i n
    split at h
    · rename_i c fs hx
      split at h
      · rename_i hc
        split at h
        · rename_i y hy
          cases r with
          | @han p _ hp =>
            obtain ⟨dx, vfs, hH, rf⟩ := m.cell n p _ hp hx
            obtain ⟨u, hu, ru⟩ := rf.lookup hy
            exact ⟨p, _, dx, vfs, u, y, rfl, hH, ⟨c, hc, rfl⟩, (hC c hc).1, (hC c hc).2, hu, ru, h.here m⟩
        · exact h.elim
      · exact h.elim
    · exact h.elim
  · exact h.elim
theorem s_fld (hC : ClsF K cs f) (ha : SE K E ta a) : SE K E (tFld K ta f) (eFld cs f a) := fun w ro σ Q e h =>
  ha w ro σ _ e (h.bind.mono (fun d w1 x1 p1 m1 k v rv => by
    obtain ⟨p, C, dx, fs, u, y, rfl, hH, _, c, n, l, ru, q⟩ := fld_run hC m1 rv k
    exact ⟨p, C, dx, fs, u, rfl, hH, c, n, l, q u ru⟩) fun _ _ _ z => z)
theorem setF_run {w : Wd} {d y : Da} {x u : V} {ok : Unit → Wd → Prop} {ex : Str → List Da → Wd → Prop} (hC : ClsF K cs f) (m : Em K w) (r : Rep K w x d) (ru : Rep K w u y) (h : Run K w (setFD cs f d y w.st) ok ex) :
    ∃ (p C dx : Addr) (fs : List (Str × V)) (w' : Wd), x = .ref p ∧ w.H p = some (.ins C dx fs) ∧ (∃ c ∈ cs, C = He.ga K c) ∧ Cls K C ∧ NoAttr K C f ∧ fs.length < 1000 ∧ w'.H = upd w.H p (.ins C dx (putF f u fs)) ∧ Ext w w' ∧ w'.pv = w.pv ∧ Em K w' ∧ ok () w' := by
  unfold setFD at h
  split at h
  · rename_i n
    split at h
    · rename_i c fs hx
      split at h
      · rename_i hc
        cases r with
        | @han p _ hp =>
          obtain ⟨dx, vfs, hH, rf⟩ := m.cell n p _ hp hx
          have x2 : Ext w (w.put n p (.ins (He.ga K c) dx (putF f u vfs)) (.ins c (putD f y fs))) := Ext.put m hp hx (by intro z; cases z)
          have m2 : Em K (w.put n p (.ins (He.ga K c) dx (putF f u vfs)) (.ins c (putD f y fs))) := m.put hp hx (by intro z; cases z) ⟨dx, _, upd_same, (rf.put ru).mono m x2⟩
          exact ⟨p, _, dx, vfs, _, rfl, hH, ⟨c, hc.1, rfl⟩, (hC c hc.1).1, (hC c hc.1).2, by rw [rf.length]; exact hc.2, rfl, x2, rfl, m2, Run.at h x2 m2 rfl rfl⟩
      · exact h.elim
    · exact h.elim
  · exact h.elim
theorem ss_fld (hC : ClsF K cs f) (hv : SE K E tv v) (ha : SE K E ta a) : SS K E (sFld K ta tv f) (mFld cs f v a) := fun w ro σ D e h =>
  hv w ro σ _ e (h.bind.mono (fun y w1 x1 p1 m1 k u ru => ha w1 ro σ _ (e.mono x1 m1) (k.bind.mono (fun d w2 x2 p2 m2 k2 x rx => by
    obtain ⟨p, C, dx, fs, w3, rfl, hH, _, c, n, l, hH3, x3, p3, m3, k3⟩ := setF_run hC m2 rx (ru.mono m1 x2) k2.bind
    refine ⟨p, C, dx, fs, rfl, hH, c, n, l, ?_⟩
    rw [← hH3]
    exact k3.here m3 σ (e.mono (x1.trans (x2.trans x3)) m3)) fun _ _ _ z => z σ)) fun _ _ _ z => z σ)
theorem ss_fldaug {c0 : Str} {g : Int → Int → Int} {rd : V → V → Hp → VK → Prop} (hrd : ∀ i j H Q, Q (.int (g i j)) H → rd (.int i) (.int j) H Q) (hC : ClsF K [c0] f) (ha : SE K E ta a) (hv : SE K E tv v) : SS K E (sFldAug K ta tv rd f) (mFldAug c0 f g a v) := fun w ro σ D e h =>
  ha w ro σ _ e (h.bind.mono (fun d w1 x1 p1 m1 k x rx => by
    obtain ⟨p, C, dx, fs, u, y, rfl, hH, ⟨c1, hc1, eC1⟩, c, n, l, ru, k2⟩ := fld_run hC m1 rx k.bind
    refine ⟨p, C, dx, fs, u, rfl, hH, c, n, l, hv w1 ro σ _ (e.mono x1 m1) (k2.bind.mono (fun z w2 x2 p2 m2 k3 t rt => ?_) fun _ _ _ z => z σ)⟩
    split at k3
    · rename_i i j
      have ru2 := ru.mono m1 x2
      cases ru2
      cases rt
      refine hrd _ _ _ _ ?_
      obtain ⟨p', C', dx', fs', w3, ep, hH', ⟨c2, hc2, eC2⟩, c', n', l', hH3, x3, p3, m3, k4⟩ := setF_run hC m2 (rx.mono m1 x2) (.int _) k3.bind
      cases ep
      rw [List.mem_singleton] at hc1 hc2
      subst hc1 hc2 eC1 eC2
      refine ⟨dx', fs', hH', l', ?_⟩
      rw [← hH3]
      exact k4.here m3 σ (e.mono (x1.trans (x2.trans x3)) m3)
    · exact k3.elim) fun _ _ _ z => z σ)
end
def isIns (c m : Str) (d : Da) : Mo Unit := fun st => match d with
  | .han n => (match st[n]? with
    | some (.ins c' fs) => if c' = c ∧ fs.lookup m = none then .ok () st else .bad
    | _ => .bad)
  | _ => .bad
def eMeth (c m : Str) (f : List Da → Mo Da) (a : Sl → Mo Da) (al : Sl → Mo (List Da)) : Sl → Mo Da := fun ro => bnd (a ro) fun d => bnd (isIns c m d) fun _ => bnd (al ro) fun ds => f (d :: ds)
def newI (c : Str) : Mo Unit := fun st => .ok () (st ++ [.ins c []])
def isNon : Da → Mo Unit
  | .non => ret ()
  | _ => nop
def makeD (c : Str) (f : List Da → Mo Da) (ds : List Da) : Mo Da := fun st => bnd (newI c) (fun _ => bnd (f (.han st.length :: ds)) fun r => bnd (isNon r) fun _ => ret (.han st.length)) st
def eMake (c : Str) (f : List Da → Mo Da) (al : Sl → Mo (List Da)) : Sl → Mo Da := fun ro => bnd (al ro) (makeD c f)
section
variable {K : PySem.W.Frag} {E : XK} {ta : TE} {a : Sl → Mo Da} {tA : TA} {al : Sl → Mo (List Da)} {c m : Str} {n : Nat} {f : List Da → Mo Da} {dvs : List V} {dds : List Da}
theorem s_meth (hd : ∀ w, Em K w → RepL K w dvs dds) (ha : SE K (fun _ => E) ta a) (hA : SA K (fun _ => E) tA al) : SE K (fun _ => E) (tMeth (He.ga K c) m (SpOf K n f) dvs E ta tA) (eMeth c m (fun ds => ar n f (ds ++ dds)) a al) := fun w ro σ Q e h =>
  ha w ro σ _ e (h.bind.mono (fun d w1 x1 p1 m1 k x rx => by
    have k2 := k.bind
    unfold isIns at k2
    split at k2
    · rename_i i
      split at k2
      · rename_i c' fs hx
        split at k2
        · rename_i hc
          obtain ⟨rfl, hl⟩ := hc
          cases rx with
          | @han p _ hp =>
            obtain ⟨dx, vfs, hH, rf⟩ := m1.cell i p _ hp hx
            refine ⟨p, dx, vfs, rfl, hH, rf.lookup_none hl, hA w1 ro σ _ (e.mono x1 m1) ((k2.here m1).bind.mono (fun ds w2 x2 p2 m2 k3 vs rv => ?_) fun _ _ _ z => z)⟩
            exact spOf_of m2 (.cons (.han (x2.at hp)) (rv.append (hd w2 m2))) k3
        · exact k2.elim
      · exact k2.elim
    · exact k2.elim) fun _ _ _ z => z)
theorem make_run {w : Wd} {vs : List V} {ds : List Da} {Q : VK} (m1 : Em K w) (rv : RepL K w vs ds) (h : Run K w (makeD c (fun ds => ar n f ds) ds w.st) (OkV K Q) (XP K E)) (x dx : Addr) (h1 : w.H x = none) (h2 : w.H dx = none) (h3 : dx ≠ x) :
    SpOf K n f (.ref x :: vs) (upd (upd w.H dx (.own x)) x (.ins (He.ga K c) dx [])) (fun v H2 => v = .non ∧ Q (.ref x) H2) E := by
  have m2 : Em K (w.new dx (.own x)) := m1.new h2
  have x2 : Ext w (w.new dx (.own x)) := Ext.new m1 h2
  have h1' : (w.new dx (.own x)).H x = none := by
    show upd w.H dx (.own x) x = none
    rw [upd_ne (Ne.symm h3)]
    exact h1
  have x3 : Ext (w.new dx (.own x)) ((w.new dx (.own x)).push x (.ins (He.ga K c) dx []) (.ins c [])) := Ext.push m2 h1'
  have m3 : Em K ((w.new dx (.own x)).push x (.ins (He.ga K c) dx []) (.ins c [])) := m2.push h1' ⟨dx, [], upd_same, .nil⟩
  have hat : ((w.new dx (.own x)).push x (.ins (He.ga K c) dx []) (.ins c [])).io[w.st.length]? = some x := push_at m2
  have h' : Run K ((w.new dx (.own x)).push x (.ins (He.ga K c) dx []) (.ins c [])) (bnd (ar n f (.han w.st.length :: ds)) (fun r => bnd (isNon r) fun _ => ret (.han w.st.length)) (w.st ++ [.ins c []])) (OkV K Q) (XP K E) := Run.ext h (x2.trans x3) rfl
  refine spOf_of (w := (w.new dx (.own x)).push x (.ins (He.ga K c) dx []) (.ins c [])) (ds := .han w.st.length :: ds) m3 (.cons (.han hat) (rv.mono m1 (x2.trans x3))) (Run.bind h' |>.mono (fun r w4 x4 p4 m4 k v rv4 => ?_) fun _ _ _ z => z)
  have k2 := k.bind
  cases r with
  | non =>
    cases rv4
    exact ⟨rfl, Run.here m4 (Run.here m4 k2) _ (.han (x4.at hat))⟩
  | bl b => exact k2.elim
  | int i => exact k2.elim
  | str s => exact k2.elim
  | tup xs => exact k2.elim
  | lst xs => exact k2.elim
  | fro xs => exact k2.elim
  | han i => exact k2.elim
theorem s_make (hd : ∀ w, Em K w → RepL K w dvs dds) (hA : SA K (fun _ => E) tA al) : SE K (fun _ => E) (tMake (He.ga K c) (SpOf K n f) dvs E tA) (eMake c (fun ds => ar n f ds) (fun ro => bnd (al ro) fun ds => ret (ds ++ dds))) := fun w ro σ Q e h => by
  unfold eMake at h
  rw [bnd_assoc] at h
  exact hA w ro σ _ e (h.bind.mono (fun ds w1 x1 p1 m1 k vs rv x dx h1 h2 h3 => make_run m1 (rv.append (hd w1 m1)) k x dx h1 h2 h3) fun _ _ _ z => z)
end
/-- a method, a class, that can be called -/
structure CalM (P : Program) (wd : World) (K : PySem.W.Frag) (mg : Str → Option Value) (base : Heap) (k : Nat) (c m : Str) (n : Nat) (f : List Da → Mo Da) (dvs : List V) : Prop where
  ex : ∃ (q : Addr) (fd : FuncData) (ps : List Str) (ds : List Value), Cls K (He.ga K c) ∧ Meth K (He.ga K c) m q ∧ Binds K fd ps ds ∧ Vals dvs ds ∧ FnOk P wd K mg base (L2.CX P wd) k q fd ps (SpOf K n f)
structure CalC (P : Program) (wd : World) (K : PySem.W.Frag) (mg : Str → Option Value) (base : Heap) (k : Nat) (c : Str) (n : Nat) (f : List Da → Mo Da) (dvs : List V) : Prop where
  ex : ∃ (q : Addr) (fd : FuncData) (ps : List Str) (ds : List Value), mg c = some (.ref (He.ga K c)) ∧ Mk K (He.ga K c) q ∧ Binds K fd ps ds ∧ Vals dvs ds ∧ FnOk P wd K mg base (L2.CX P wd) k q fd ps (SpOf K n f)
theorem passes_of' {X : Cx} {E : XK} (hx : ∀ σ, PassesAt (L2.CX X.prog X.w) X σ E) : Passes (L2.CX X.prog X.w) X E := fun pins σ H s e s' I c => hx σ pins H s e s' I c
/-- two lists, one behind another, then a new instance -/
def eMakeK (c : Str) (f : List Da → Mo Da) (n1 m : Nat) (gD : List Da → List Da → List Da) (al kl : Sl → Mo (List Da)) : Sl → Mo Da := fun ro => bnd (al ro) fun ds => bnd (kl ro) fun es st => if ds.length = n1 ∧ es.length = m then bnd (newI c) (fun _ => bnd (f (gD (.han st.length :: ds) es)) fun r => bnd (isNon r) fun _ => ret (.han st.length)) st else .bad
section
variable {X : Cx} {E : XK} {o v e : Expr} {es : List Expr} {to tv te : TE} {mo mv me : Sl → Mo Da} {tA tK : TA} {al kl : Sl → Mo (List Da)} {cs : List Str} {f m c : Str} {pos pos' apos : Pos} {E' : St → XK}
theorem q_fld {K : PySem.W.Frag} (hC : ClsF K cs f) (he : QE X E' o to mo) (hb : attributeBase o f X.env (eval o X.env) = eval o X.env := by rfl) (hK : X.K = K := by rfl) : QE X E' (.Attribute o f pos) (tFld K to f) (eFld cs f mo) := by
  subst hK
  exact ⟨pe_fld he.pe hb, s_fld hC he.se⟩
theorem qs_fld {K : PySem.W.Frag} (hC : ClsF K cs f) (hv : QE X E' v tv mv) (ho : QE X E' o to mo) (hs : swapsWith v (some (.Attribute o f pos')) pos.line X.env = pure false := by rfl) (hK : X.K = K := by rfl) : QS X E' (.Assign [.Attribute o f pos'] v pos) (sFld K to tv f) (mFld cs f mv mo) := by
  subst hK
  exact ⟨ps_fld ho.pe hv.pe hs, ss_fld hC hv.se ho.se⟩
theorem qs_fldadd {K : PySem.W.Frag} (hC : ClsF K [c] f) (ho : QE X E' o to mo) (hv : QE X E' v tv mv) (hK : X.K = K := by rfl) : QS X E' (.AugAssign (.Attribute o f pos') .Add v pos) (sFldAug K to tv L2.rAdd f) (mFldAug c f (fun i j => i + j) mo mv) := by
  subst hK
  exact ⟨ps_fldaug ho.pe hv.pe in_add, ss_fldaug (fun i j H Q h => ⟨i, j, rfl, rfl, h⟩) hC ho.se hv.se⟩
theorem q_meth0 {P : Program} {wd : World} {K : PySem.W.Frag} {mg : Str → Option Value} {base : Heap} {k n : Nat} {dvs : List V} {dds : List Da} {fm : List Da → Mo Da} {pl : Sem Bool} (F : CalM P wd K mg base k c m n fm dvs) (hr : Room k X.A) (hx : ∀ σ, PassesAt (L2.CX X.prog X.w) X σ E)
    (ho : QE X (fun _ => E) o to mo) (hP : X.prog = P := by rfl) (hw : X.w = wd := by rfl) (hK : X.K = K := by rfl) (hmg : X.mg = mg := by rfl) (hbase : X.base = base := by rfl) (hdd : ∀ w, Em K w → RepL K w dvs dds := by intro w m; first | exact .nil | exact .cons (.int _) .nil)
    (ht : eval (.Call (.Attribute o m apos) [] [] pos) X.env = (do
      let ov ← eval o X.env
      standAt apos.atName
      let (f, first) ← holding [ov] (getMethod ov m pl)
      callWith pos f first (backTo pos (starEach [] X.env)) (backToKw pos (keywordEach [] X.env))) := by rfl) :
    QE X (fun _ => E) (.Call (.Attribute o m apos) [] [] pos) (tMeth (He.ga K c) m (SpOf K n fm) dvs E to tNil) (eMeth c m (fun ds => ar n fm (ds ++ dds)) mo aNil) := by
  subst hP hw hK hmg hbase
  obtain ⟨q, fd, ps, ds, hc, hm, hb, hd, F⟩ := F.ex
  exact ⟨pe_meth0 ho.pe hc hm F hr hb hd (passes_of' hx) ht, s_meth hdd ho.se s_nil⟩
theorem q_make {P : Program} {wd : World} {K : PySem.W.Frag} {mg : Str → Option Value} {base : Heap} {k n : Nat} {dvs : List V} {dds : List Da} {fm : List Da → Mo Da} {p : Pos} (F : CalC P wd K mg base k c n fm dvs) (hr : Room (k + 1) X.A) (hx : ∀ σ, PassesAt (L2.CX X.prog X.w) X σ E)
    (ha : QA X (fun _ => E) (e :: es) tA al) (hP : X.prog = P := by rfl) (hw : X.w = wd := by rfl) (hK : X.K = K := by rfl) (hmg : X.mg = mg := by rfl) (hbase : X.base = base := by rfl) (hdd : ∀ w, Em K w → RepL K w dvs dds := by intro w m; first | exact .nil | exact .cons (.int _) .nil) (hg : Gl X c := by rfl) (hdb : (c == ("__debug__" : Str)) = false := by decide)
    (he : starEach (e :: es) X.env = (false, eval e X.env) :: starEach es X.env := by rfl) (hpl : (backTo pos (starEach es X.env)).any (·.1) = false := by rfl) :
    QE X (fun _ => E) (.Call (.Name c p) (e :: es) [] pos) (tMake (He.ga K c) (SpOf K n fm) dvs E tA) (eMake c (fun ds => ar n fm ds) (fun ro => bnd (al ro) fun ds => ret (ds ++ dds))) := by
  subst hP hw hK hmg hbase
  obtain ⟨q, fd, ps, ds, hm, M, hb, hd, F⟩ := F.ex
  exact ⟨pe_make M F hr hg hm hb hd (passes_of' hx) ha.pa hdb he hpl, s_make hdd ha.sa⟩
end
end CL
namespace CL
open PySem PySem.Spec L2
def rngC (lo c : Int) (n : Nat) : List Da := (List.range n).map fun (i : Nat) => Da.int (lo + (i : Int) * c)
def rgN (i j c : Int) : Nat := (Builtin.Range.rangeSize i j c : Int).toNat
def rgOk (i j c : Int) : Prop := c ≠ 0 ∧ c.natAbs < 1073741824 ∧ Builtin.Range.small i j c = true ∧ Builtin.Range.rangeSize i j c = rgN i j c
instance (i j c : Int) : Decidable (rgOk i j c) := by unfold rgOk; infer_instance
def srcR3 : List Da → Mo Src
  | [.int i, .int j, .int c] => if rgOk i j c then ret ⟨rngC i c (rgN i j c), none⟩ else nop
  | _ => nop
def iR3 (a : Sl → Mo (List Da)) : Sl → Mo Src := fun ro => bnd (a ro) srcR3
section
end
section
end
end CL
namespace CL
open PySem PySem.Spec L2
def inU (neg : Bool) (d e : Da) : Mo Da := fun st => match pyD st d, pyD st e with
  | some p, some (.list qs) => if (SeqAt.shaped p && SeqAt.shaped (.list qs)) = true then .ok (.bl (if neg then !qs.any (fun z => PyData.eqv z p) else qs.any fun z => PyData.eqv z p)) st else .bad
  | some p, some (.tuple qs) => if (SeqAt.shaped p && SeqAt.shaped (.tuple qs)) = true then .ok (.bl (if neg then !qs.any (fun z => PyData.eqv z p) else qs.any fun z => PyData.eqv z p)) st else .bad
  | _, _ => .bad
def rInT (K : PySem.W.Frag) (neg : Bool) : R2 := fun x y H Q => ∃ d ds, Dp K H x d ∧ Dp K H y (.tuple ds) ∧ SeqAt.shaped d = true ∧ SeqAt.shaped (.tuple ds) = true ∧ Q (.bl (if neg then !ds.any (fun z => PyData.eqv z d) else ds.any fun z => PyData.eqv z d)) H
section
variable {X : Cx}
theorem op_notInT (hu : X.A.units + 65 < cLine) : OpR X (compareOp .NotIn) (rInT X.K true) := by
  intro pins s σ H x y v u Q I rx ry h
  obtain ⟨d, ds, hd, he, sd, se, q⟩ := h
  obtain ⟨as, r1⟩ := Dp.reads I d x v hd rx
  obtain ⟨bs, r2⟩ := Dp.reads I (.tuple ds) y u he ry
  exact SeqAt.notIn_tuple_reads r2 r1 (SeqAt.canLay_of_shaped se) (SeqAt.canLay_of_shaped sd) (PyProof.Rows.room_in_shaped sd hu) ⟨.bl _, H, I, rfl, q⟩
theorem s_inU {K : PySem.W.Frag} {neg : Bool} {r : R2} (hl : ∀ x y H Q d ds, Dp K H x d → Dp K H y (.list ds) → SeqAt.shaped d = true → SeqAt.shaped (.list ds) = true → Q (.bl (if neg then !ds.any (fun z => PyData.eqv z d) else ds.any fun z => PyData.eqv z d)) H → r x y H Q) : S2 K (rOr r (rInT K neg)) (inU neg) := fun w x y d e Q ex m rx ry h => by
  unfold inU at h
  split at h
  · rename_i p qs h1 h2
    split at h
    · rename_i hs
      obtain ⟨s1, s2⟩ := Bool.and_eq_true_iff.mp hs
      exact .inl (hl x y w.H Q p qs (dp_py m rx h1) (dp_py m ry h2) s1 s2 (h.here m _ (.bl _)))
    · exact h.elim
  · rename_i p qs h1 h2
    split at h
    · rename_i hs
      obtain ⟨s1, s2⟩ := Bool.and_eq_true_iff.mp hs
      exact .inr ⟨p, qs, dp_py m rx h1, dp_py m ry h2, s1, s2, h.here m _ (.bl _)⟩
    · exact h.elim
  · exact h.elim
theorem q_notInU {K : PySem.W.Frag} (hu : X.A.units + 65 < cLine) (hK : X.K = K := by rfl) : QO X (compareOp .NotIn) (rOr (rNotInD K) (rInT K true)) (inU true) := by
  subst hK
  exact ⟨OpR.or (op_notInD hu) (op_notInT hu), s_inU fun x y H Q d e h1 h2 h3 h4 h => ⟨d, e, h1, h2, h3, h4, h⟩⟩
end
def isTT (ts : List Tn) (d : Da) : Mo Da := fun st => match tyN st d with
  | some a => .ok (.bl (ts.any (isTn a))) st
  | none => .bad
def eCallK (f : List Da → Mo Da) (n1 m : Nat) (gD : List Da → List Da → List Da) (al kl : Sl → Mo (List Da)) : Sl → Mo Da := fun ro => bnd (al ro) fun ds => bnd (kl ro) fun es => if ds.length = n1 ∧ es.length = m then f (gD ds es) else nop
section
end
section
end
def eMethK (c m : Str) (f : List Da → Mo Da) (n1 k : Nat) (gD : List Da → List Da → List Da) (a : Sl → Mo Da) (al kl : Sl → Mo (List Da)) : Sl → Mo Da := fun ro => bnd (a ro) fun d => bnd (isIns c m d) fun _ => bnd (al ro) fun ds => bnd (kl ro) fun es => if ds.length = n1 ∧ es.length = k then f (gD (d :: ds) es) else nop
section
end
section
end
section
variable {X : Cx} {E : St → XK} {e e2 : Expr} {tA : TA} {al : Sl → Mo (List Da)} {pos : Pos}
theorem q_len {K : PySem.W.Frag} {p : Pos} (hm : X.mg "len" = none) (ha : QA X E [e] tA al) (hg : Gl X "len" := by rfl) (he : starEach (e :: []) X.env = (false, eval e X.env) :: starEach [] X.env := by rfl) (hpl : (backTo pos (starEach [] X.env)).any (·.1) = false := by rfl) (hK : X.K = K := by rfl) : QE X E (.Call (.Name "len" p) [e] [] pos) (tCB (fun xs H Q => ∃ x n, xs = [x] ∧ LenV K x H n ∧ Q (.int n) H) tA) (eCall (one lenD) al) := by
  subst hK
  exact q_cb call_len sc_len hm ha (hg := hg) (he := he) (hpl := hpl)
theorem q_all {K : PySem.W.Frag} {p : Pos} (hc : X.calm = true) (hm : X.mg "all" = none) (ha : QA X E [e] tA al) (hg : Gl X "all" := by rfl) (he : starEach (e :: []) X.env = (false, eval e X.env) :: starEach [] X.env := by rfl) (hpl : (backTo pos (starEach [] X.env)).any (·.1) = false := by rfl) (hK : X.K = K := by rfl) : QE X E (.Call (.Name "all" p) [e] [] pos) (tCB (rAll K) tA) (eCall (one allD) al) := by
  subst hK
  exact q_cb (cr_all hc) sc_all hm ha (hg := hg) (he := he) (hpl := hpl)
theorem q_tupleOf {K : PySem.W.Frag} {p : Pos} (hm : X.mg "tuple" = none) (ha : QA X E [e] tA al) (hg : Gl X "tuple" := by rfl) (he : starEach (e :: []) X.env = (false, eval e X.env) :: starEach [] X.env := by rfl) (hpl : (backTo pos (starEach [] X.env)).any (·.1) = false := by rfl) (hK : X.K = K := by rfl) : QE X E (.Call (.Name "tuple" p) [e] [] pos) (tCB (fun xs H Q => ∃ p ys, xs = [.ref p] ∧ ((SqL K H p ys ∧ ∀ l, H l = none → Q (.ref l) (upd H l (.tup ys))) ∨ (SqT K H p ys ∧ Q (.ref p) H))) tA) (eCall (one tupleD) al) := by
  subst hK
  exact q_ct call_tuple_of sc_tuple hm ha (hg := hg) (he := he) (hpl := hpl)
theorem ql_listOf {K : PySem.W.Frag} {p : Pos} (hm : X.mg "list" = none) (ha : QA X E [e] tA al) (hg : Gl X "list" := by rfl) (he : starEach (e :: []) X.env = (false, eval e X.env) :: starEach [] X.env := by rfl) (hpl : (backTo pos (starEach [] X.env)).any (·.1) = false := by rfl) (hK : X.K = K := by rfl) : QL X E (.Call (.Name "list" p) [e] [] pos) (tCB (fun xs H Q => ∃ p ys, xs = [.ref p] ∧ (SqL K H p ys ∨ SqT K H p ys) ∧ ∀ l, H l = none → Q (.ref l) (upd H l (.lst ys))) tA) (lCall (one listD) al) := by
  subst hK
  exact ql_ct call_list_of sc_list hm ha (hg := hg) (he := he) (hpl := hpl)
end
end CL
namespace CL
open PySem PySem.Spec PyProof.Rows L2
section
variable {X : Cx} {pins : List (Addr × Obj)} {σ : L2.St} {H : Hp} {s sI : Shared}
theorem xo_ok {P : Program} {w : World} {h : Heap} {a : Addr} {cls : Value} {d : Option Addr} {oe : Obj} {vs : Array Value} (e : h.get? a = some oe) (z : Zc cls d oe) (dt : oe.data = .fields vs) : ObjOk P w H h a (XO cls d a) :=
  ⟨⟨oe, e, z, vs, dt⟩, ⟨oe, e⟩, fun _ _ ⟨o, q, r⟩ k => ⟨o, k o q, r⟩⟩
theorem track {a : Addr} {o : HO} {oe : Obj} {vs : Array Value} (J : Inv X pins σ H s) (na : H a = none) (n0 : X.s_0.heap.get? a = none) (nL : a ≠ X.env.locals) (he : s.heap.get? a = some oe) (hd : oe.data = .fields vs) (np : ∀ p ∈ X.pn ++ pins, p.1 ≠ a)
    (new : ObjOk X.prog X.w (upd H a o) s.heap a o) : Inv X pins σ (upd H a o) s := by
  have ne0 : ∀ b u, X.s_0.heap.get? b = some u → b ≠ a := fun b u e z => by rw [z, n0] at e; cases e
  refine ⟨J.ok, J.os, J.bare, ⟨J.base.keep, J.base.slot, fun b u e n hx => ?_, J.base.there, fun b xs e => ?_, fun b u xs e => ?_, fun b ps e => ?_⟩, J.loc, J.cell, ?_, fun x c e => ?_, fun p hp => ?_, fun b u e => ?_, J.len⟩
  · rw [upd_ne (ne0 b u e)]; exact J.base.free b u e n hx
  · have q := J.base.tups b xs e; rw [upd_ne (ne_of_none q na)]; exact q
  · have q := J.base.frzs b u xs e; rw [upd_ne (ne_of_none q na)]; exact q
  · obtain ⟨m, q⟩ := J.base.tbls b ps e; exact ⟨m, by rw [upd_ne (ne_of_none q na)]; exact q⟩
  · rw [upd_ne (Ne.symm nL)]; exact J.free
  · obtain ⟨v, oc, hc, hcd⟩ := J.cell x c e
    have : c ≠ a := fun z => by
      rw [z, he] at hc
      cases hc
      rw [hd] at hcd
      cases hcd
    rw [upd_ne this]; exact J.freeC x c e
  · obtain ⟨e, n, ne, nf, dd⟩ := J.pin p hp
    exact ⟨e, by rw [upd_ne (np p hp)]; exact n, ne, nf, dd⟩
  · by_cases hb : b = a
    · subst hb
      rw [upd_same] at e
      cases e
      exact new
    · rw [upd_ne hb] at e
      exact (J.hok b u e).stay (fun _ _ _ q => q) (fun c q => by rw [upd_ne (ne_of_none q na)]; exact q) fun c xs q => by rw [upd_ne (ne_of_none q na)]; exact q
theorem suite0 (I : Inv X pins σ H s) (a : Addr) : Inv (X.suite a (X.pn ++ pins)) [] σ H s :=
  ⟨I.ok.suite _ _, I.os, I.bare, I.base, I.loc, I.cell, I.free, I.freeC, fun p hp => I.pin p (by rw [List.append_nil] at hp; exact hp), I.hok, I.len⟩
theorem unsuite0 {a : Addr} {pn' : List (Addr × Obj)} (I : Inv (X.suite a (X.pn ++ pins)) pn' σ H s) (ok : X.Ok) : Inv X pins σ H s :=
  ⟨ok, I.os, I.bare, I.base, I.loc, I.cell, I.free, I.freeC, fun p hp => I.pin p (List.mem_append_left _ hp), I.hok, I.len⟩
end
/-- what the clause 'except x as n' wishes; the error is kept -/
def wKeep (K : PySem.W.Frag) (c : Value) (i : Nat) (ts : Addr → Value → Option Addr → TS) (Wout : WX) (D : Ends) : WX := fun cls d σ H =>
  ∃ b, PySem.W.exmOne K cls c = some b ∧ (b = true → ∀ a, H a = none → ts a cls d { nx := fun σ' H' => D.nx (σ'.set i none) H', rt := D.rt, bk := fun σ' H' => D.bk (σ'.set i none) H', ct := fun σ' H' => D.ct (σ'.set i none) H' } (σ.set i (some (.ref a))) (upd H a (XO cls d a))) ∧
    (b = false → Wout cls d σ H)
section
variable {X : Cx} {x n : Str} {c : Value} {i : Nat} {body suite : List Stmt} {b₀ : Stmt} {np pos pos' : Pos} {tb : WX → TS} {ts : Addr → Value → Option Addr → TS} {Wout : WX}
theorem ps_try_keep (hs : X.stack = X.env :: X.outer) (hf : X.env.frame = some X.env.locals) (hex : X.ex = []) (hN : X.N.Nodup) (hi : X.N[i]? = some n) (hln : X.env.kindOf n = some .local) (hc : Names X x c) (tk : Takes X Wout)
    (hb : ∀ (W : WX) (pn : List (Addr × Obj)) (xe : Value → Shared → Prop), Takes (X.tr pn xe) W → PassesOwn (model X.prog X.w) X.A X.env xe → PSs (X.tr pn xe) body (tb W))
    (hsu : ∀ (a : Addr) (cls : Value) (d : Option Addr) (pn : List (Addr × Obj)), PSs (X.suite a pn) (b₀ :: suite) (ts a cls d)) :
    PS X (.Try body [.ExceptHandler (some (.Name x np)) (some n) (b₀ :: suite) pos'] [] [] pos) (fun D σ H => tb (wKeep X.K c i ts Wout D) D σ H) := by
  refine ⟨fun pins s σ H D I h => ?_⟩
  have ok := I.ok
  have hfr : X.A.frames = some (X.env :: X.outer) := by rw [ok.frames, hs]
  have hloc : Loc X.env.scope n := .inl hln
  refine wpAny_Try_except ?_
  refine wpAny_mono ((hb (wKeep X.K c i ts Wout D) (X.pn ++ pins) (fun e s₁ => wpAny (model X.prog X.w) X.A (noteFrame e X.env) (fun _ s₂ => wpAny (model X.prog X.w) X.A (setFlight e none) (fun _ s₃ =>
    wpAny (model X.prog X.w) X.A (handleBy e X.env [.ExceptHandler (some (.Name x np)) (some n) (b₀ :: suite) pos']) (SP X pins D) X.xe s₃) X.xe s₂) X.xe s₁) (fun u s' xx => ?_) PassesOwn.looking).run [] s σ H D (I.toTry _) h) (fun f s1 hsp => ?_) (fun e s1 he => he)
  · -- the catch
    obtain ⟨a, B, sI, pins', σ', H', cls, d, rfl, J', nb, up, sky, na, os, ag, b, hb1, hyes, hno⟩ := xx
    have J : Inv X pins σ' H' sI := J'.ofTry ok
    have sky' : Sky B (X.env :: X.outer) a (Zc cls d) X.env.locals s'.heap := by rw [← hs]; exact sky
    show wpAny (model X.prog X.w) X.A (noteFrame (.ref a) X.env) _ _ _
    refine Sky.land Zc.steady hfr hf sky' fun h3 fl3 up3 => ?_
    have J3 : Inv X pins σ' H' { s' with heap := h3 } := J.landed nb fl3.1 (up.trans up3) os ag
    obtain ⟨oe3, vs3, he3, hz3, hd3⟩ := fl3.there
    have notFr : ∀ {h : Heap} {o : Obj} {vs : Array Value}, h.FunFrames B (X.env :: X.outer) → h.get? a = some o → o.data = .fields vs → a ∉ frs (X.env :: X.outer) := fun {h o vs} ff e dd hm => by
      obtain ⟨_, o', e', hnf⟩ := ff.mem hm
      rw [e] at e'; cases e'
      exact hnf _ dd
    have nfr := notFr fl3.2.2.1 he3 hd3
    have nL : a ≠ X.env.locals := fun z => nfr (List.mem_filterMap.mpr ⟨X.env, List.mem_cons_self, by rw [hf, z]⟩)
    have nF : a ∉ X.fs := fun hm => by
      obtain ⟨e, he, q⟩ := List.mem_filterMap.mp hm
      exact nfr (List.mem_filterMap.mpr ⟨e, List.mem_cons_of_mem _ he, q⟩)
    have nI : sI.heap.get? a = none := by
      cases q : sI.heap.get? a with
      | none => rfl
      | some o =>
        have z := nb a o q (by rw [hs]; exact nfr)
        rw [fl3.2.1] at z
        cases z
    have n0 : X.s_0.heap.get? a = none := by
      cases q : X.s_0.heap.get? a with
      | none => rfl
      | some o =>
        obtain ⟨o', z⟩ := J.base.there a o q (by rw [hex]; exact fun z => nomatch z)
        rw [nI] at z
        cases z
    have npin : ∀ p ∈ X.pn ++ pins, p.1 ≠ a := fun p hp z => by
      obtain ⟨e, _⟩ := J.pin p hp
      rw [z, nI] at e
      cases e
    have S3 := J3.suite he3 hd3 na nL nF
    refine wpAny_handleBy_cons (codeAny_handlers_test ?_) (by intro q; cases q)
    have LT : PySem.W.Looks (model X.prog X.w) h3 (typeOf (.ref a)) cls := fun A Q E s k q => wpAny_typeOf_ref (k _ _ he3) (by rw [hz3.1]; exact q)
    have LM := PySem.W.exm_one (M := model X.prog X.w) (J3.kIn) LT hb1
    have test : ∀ {Q : Value → Shared → Prop} {E : Value → Shared → Prop}, Q c { s' with heap := h3 } → wpAny (model X.prog X.w) (X.A.mark (some (.ref a))) (eval (.Name x np) X.env) Q E { s' with heap := h3 } := fun {Q E} q => by
      obtain ⟨hg, hdbg, hm | ⟨hm, hv, hnn⟩⟩ := hc
      · exact ld_glob (X := X.suite a ((a, oe3) :: (X.pn ++ pins))) S3 hg hm q hdbg
      · exact ld_blt (X := X.suite a ((a, oe3) :: (X.pn ++ pins))) S3 hg hm hv q hnn hdbg
    refine test (LM.here ?_)
    cases b with
    | true =>
      refine codeAny_handlers_suite_as ?_
      refine HandSPX.lands_againZ fl3 fun h4 fl4 up4 => ?_
      have J4 : Inv X pins σ' H' { s' with heap := h4 } := J.landed nb fl4.1 ((up.trans up3).trans up4) os ag
      obtain ⟨oe4, vs4, he4, hz4, hd4⟩ := fl4.there
      have S4 : Inv (X.suite a (X.pn ++ pins)) [] σ' (upd H' a (XO cls d a)) { s' with heap := h4 } := suite0 (track J4 na n0 nL he4 hd4 npin (xo_ok he4 hz4 hd4)) a
      refine store_ok (X := X.suite a (X.pn ++ pins)) (v := .ref a) S4 hN hi hloc rfl (fun s5 S5 => ?_) (.inr hln)
      refine wpAny_mono ((hsu a cls d (X.pn ++ pins)).run [] s5 _ _ _ S5 (hyes rfl a na)) (fun f s6 hsp => ?_) (fun _ _ z => False.elim z)
      have end_ : ∀ {σ6 : L2.St} {H6 : Hp} {Q : Shared → Prop}, Inv (X.suite a (X.pn ++ pins)) [] σ6 H6 s6 → (∀ s7, Inv X pins (σ6.set i none) H6 s7 → Q s7) →
          wpAny (model X.prog X.w) X.A (do bindName X.env n .none; unbindBehindTheSuite X.env n pos') (fun _ s7 => Q s7) X.xe s6 := fun {σ6 H6 Q} S6 hq => gone_ok (unsuite0 S6 ok) hN hi hln hq
      cases f with
      | next =>
        obtain ⟨σ6, H6, S6, q6⟩ := hsp
        exact end_ S6 fun s7 J7 => ⟨_, _, J7, q6⟩
      | brk =>
        obtain ⟨σ6, H6, S6, q6⟩ := hsp
        exact end_ S6 fun s7 J7 => ⟨_, _, J7, q6⟩
      | cont =>
        obtain ⟨σ6, H6, S6, q6⟩ := hsp
        exact end_ S6 fun s7 J7 => ⟨_, _, J7, q6⟩
      | ret u =>
        obtain ⟨v6, σ6, H6, S6, r6, q6⟩ := hsp
        exact end_ S6 fun s7 J7 => ⟨_, _, _, J7, r6, q6⟩
    | false =>
      show wpAny _ X.A (handleBy (.ref a) X.env []) _ _ _
      refine wpAny_handleBy_nil ?_
      obtain ⟨k1, k2, k3, oe, vs, T, oT, ts', he, hz, hd, h1, hr⟩ := id fl3
      unfold PySem.passOn
      refine wpAny_bind (wpAny_field he hd h1 ?_)
      rw [if_neg (show ¬ ((Value.ref T == Value.none) = true) from by simp)]
      have fin : wpAny (model X.prog X.w) X.A (setFlight (.ref a) X.env.frame) (fun _ s4 => wpAny (model X.prog X.w) X.A (throw (.ref a) : Sem Flow) (SP X pins D) X.xe s4) X.xe { s' with heap := h3 } := by
        rw [hf]
        refine HandSPX.setFlight_upZ fl3 fun h4 hh4 up4 => wpAny_throw (tk _ _ ?_)
        exact ⟨a, B, sI, pins, σ', H', cls, d, rfl, J, nb, (up.trans up3).trans up4, .inr (.inr (by rw [hs]; exact hh4)), na, os, ag, hno rfl⟩
      first
        | exact wpAny_bind (wpAny_pure (wpAny_bind fin))
        | exact wpAny_bind fin
  · cases f with
    | next =>
      obtain ⟨σ', H', J', q⟩ := hsp
      exact wpAny_execs_nil ⟨σ', H', J'.ofTry ok, q⟩
    | brk =>
      obtain ⟨σ', H', J', q⟩ := hsp
      exact ⟨σ', H', J'.ofTry ok, q⟩
    | cont =>
      obtain ⟨σ', H', J', q⟩ := hsp
      exact ⟨σ', H', J'.ofTry ok, q⟩
    | ret u =>
      obtain ⟨v, σ', H', J', r, q⟩ := hsp
      exact ⟨v, σ', H', J'.ofTry ok, r, q⟩
end
end CL
namespace CL
open PySem PySem.Spec PyProof.Rows L2
def mRaise (c : Str) : Sl → Mo Fl := fun _ st => .exc c [] st
section
variable {X : Cx} {E : L2.St → XK}
theorem qs_raise {K : PySem.W.Frag} {x m : Str} {j : Nat} {p p2 pos pos2 : Pos} (hc : X.calm = true) (tk : Takes X (fun cls d σ H => E σ cls d H)) (hq : (He.Fa.exc x).ok K = true) (gC : X.mg x = some (.ref (He.ga K x))) (hg : Gl X x := by rfl) (hdb : (x == ("__debug__" : Str)) = false := by decide) (hK : X.K = K := by rfl) :
    QS X E (.Raise (some (.Call (.Name x p) [.Constant (.str m) j p2] [] pos)) none pos2) (fun _ σ H => E σ (.ref (He.ga K x)) none H) (mRaise x) := by
  subst hK
  obtain ⟨q1, q2, q3, q4⟩ := He.exc_ok hq
  exact ⟨ps_raise hc tk (pmk_own PySem.F.excBase_ValueError q1 gC q2 (raises_own q3 q4) hg hdb), fun w ro σ D e h => h w.io w.H (Ext.refl w) e.emb σ none rfl⟩
end
def SSx (K : PySem.W.Frag) (E : L2.St → XK) (ts : TS) (m : Sl → Mo Fl) : Prop := ∀ (w : Wd) (ro : Sl) (σ : L2.St) (D : Ends), En K w ro σ →
  Run K w (m ro w.st) (OkF K D) (XP K (E σ)) → ts D σ w.H
structure QX (X : Cx) (E : L2.St → XK) (s : Stmt) (ts : TS) (m : Sl → Mo Fl) : Prop where
  ps : PS X s ts
  ss : SSx X.K E ts m
section
variable {X : Cx} {E : L2.St → XK} {e c : Expr} {te : TE} {ma : Sl → Mo Da} {pos : Pos} {tt : TT} {mp : Sl → Mo Bool} {s1 s2 : Stmt} {ts tu : TS} {m n : Sl → Mo Fl}
theorem qx_set (i : Nat) {x : Str} {pos' : Pos} (hN : X.N.Nodup) (ha : QE X E e te ma) (hi : X.N[i]? = some x := by rfl) (hx : Loc X.env.scope x := by first | exact Or.inl rfl | exact Or.inr rfl) (hs : swapsWith e (some (.Name x pos')) pos.line X.env = pure false := by rfl) (hf : X.fn x = true ∨ X.env.scope.names.lookup x = some .local := by first | exact .inl rfl | exact .inr rfl | assumption) :
    QX X E (.Assign [.Name x pos'] e pos) (tAsg te (gName i)) (mSet i ma) := ⟨ps_set hN hi hx ha.pe hs hf, fun w ro σ D e h =>
  ha.se w ro σ _ e (h.bind.mono (fun d w1 x1 p1 m1 k v rv => k.here m1 _ ((e.mono x1 m1).set rv)) fun _ _ _ z => z)⟩
end
def mTry (cs : List Str) (i j : Nat) (b : Sl → Mo Fl) : Sl → Mo Fl := fun ro st => match b ro st with
  | .exc c as st' => if c ∈ cs ∧ i < ro.length ∧ as = [] then .ok (.nx ((ro.set i none).set j (some (.han st'.length)))) (st' ++ [.exn c]) else .bad
  | r => r
theorem En.unset {K : PySem.W.Frag} {w : Wd} {ro : Sl} {σ : L2.St} (e : En K w ro σ) (i : Nat) : En K w (ro.set i none) (σ.set i none) := by
  refine ⟨e.emb, by simp [e.len], fun j x h => ?_⟩
  by_cases hj : j = i
  · subst hj
    rw [List.getElem?_set] at h
    simp only [if_true] at h
    split at h <;> cases h
  · rw [List.getElem?_set_ne (Ne.symm hj)] at h
    obtain ⟨u, h1, h2⟩ := e.slot j x h
    exact ⟨u, by rw [List.getElem?_set_ne (Ne.symm hj)]; exact h1, h2⟩
section
variable {X : Cx} {E : L2.St → XK} {s : Stmt} {tb : WX → TS} {mb : Sl → Mo Fl} {pos pos' np mp p2 p3 : Pos}
theorem qs_try {K : PySem.W.Frag} {cs : List Str} {x n m : Str} (i j : Nat) (hs : X.stack = X.env :: X.outer) (hf : X.env.frame = some X.env.locals) (hex : X.ex = []) (hN : X.N.Nodup) (hcs : ∀ c ∈ cs, PySem.W.exmOne K (.ref (He.ga K c)) (.ref (He.ga K x)) = some true) (hm : X.mg x = some (.ref (He.ga K x)))
    (hb : ∀ (W : WX) (pn : List (Addr × Obj)) (xe : Value → Shared → Prop), Takes (X.tr pn xe) W → QX (X.tr pn xe) (WE W) s (tb W) mb)
    (hi : X.N[i]? = some n := by rfl) (hj : X.N[j]? = some m := by rfl) (hij : i ≠ j := by decide) (hln : X.env.kindOf n = some .local := by rfl) (hlm : Loc X.env.scope m := by first | exact Or.inl rfl | exact Or.inr rfl) (hg : Gl X x := by rfl) (hdb : (x == ("__debug__" : Str)) = false := by decide)
    (hv : Vis X.env.scope n := by first | exact Or.inl rfl | exact Or.inr (Or.inl rfl) | exact Or.inr (Or.inr rfl)) (hd : (n == ("__debug__" : Str)) = false := by decide) (hcd : (n == ("__classdict__" : Str)) = false := by decide)
    (hsw : ∀ a : Addr, ∀ pn, swapsWith (.Name n p2) (some (.Name m mp)) p3.line (X.suite a pn).env = pure false := by intro _ _; rfl) (hfn : X.fn m = true ∨ X.env.scope.names.lookup m = some .local := by first | exact .inl rfl | exact .inr rfl | assumption) (hK : X.K = K := by rfl) :
    QS X E (.Try [s] [.ExceptHandler (some (.Name x np)) (some n) [.Assign [.Name m mp] (.Name n p2) p3] pos'] [] [] pos) (fun D σ H => tb (wKeep K (.ref (He.ga K x)) i (fun _ _ _ => tAsg (tVar i) (gName j)) (fun _ _ _ _ => False) D) D σ H) (mTry cs i j mb) := by
  subst hK
  refine ⟨ps_try_keep (tb := tb) hs hf hex hN hi hln ⟨hg, hdb, .inl hm⟩ (fun _ _ ⟨_, _, _, _, _, _, _, _, _, _, _, _, _, _, _, _, w⟩ => w.elim) (fun W pn xe t po => pss_one (hb W pn xe t).ps) (fun a cls d pn => pss_one (ps_set (X := X.suite a pn) hN hj hlm (pe_var hi hv hd hcd) (hsw a pn) hfn)), ?_⟩
  intro w ro σ D e h
  have key := (hb (wKeep X.K (.ref (He.ga X.K x)) i (fun _ _ _ => tAsg (tVar i) (gName j)) (fun _ _ _ _ => False) D) [] (fun _ _ => True) (fun _ _ _ => trivial)).ss
  refine key w ro σ D e ?_
  unfold mTry at h
  cases q : mb ro w.st with
  | bad => rw [q] at h; exact h
  | ok f st' => rw [q] at h; exact h
  | exc c as st' =>
    rw [q] at h
    dsimp only at h
    by_cases hc : c ∈ cs ∧ i < ro.length ∧ as = []
    · rw [if_pos hc] at h
      obtain ⟨hc1, hc2, rfl⟩ := hc
      intro io H x1 m1 dd hd
      have hdd : dd = none := hd
      subst hdd
      refine ⟨true, hcs c hc1, fun _ a ha => ?_, fun z => nomatch z⟩
      have m2 : Em X.K ((⟨io, st', H, w.pv⟩ : Wd).push a (XO (.ref (He.ga X.K c)) none a) (.exn c)) := m1.push ha upd_same
      have x2 : Ext (⟨io, st', H, w.pv⟩ : Wd) ((⟨io, st', H, w.pv⟩ : Wd).push a (XO (.ref (He.ga X.K c)) none a) (.exn c)) := Ext.push m1 ha
      have e2 := ((e.mono x1 m1).mono x2 m2).set (i := i) (v := .ref a) (d := .han st'.length) (.han (push_at m1))
      refine (ss_set (E := E) s_var) _ _ _ _ e2 ?_
      have hget : (ro.set i (some (Da.han st'.length)))[i]? = some (some (.han st'.length)) := List.getElem?_set_self hc2
      have hrun : mSet j (eVar i) (ro.set i (some (.han st'.length))) (st' ++ [.exn c]) = .ok (.nx ((ro.set i (some (.han st'.length))).set j (some (.han st'.length)))) (st' ++ [.exn c]) := by
        unfold mSet bnd eVar
        rw [hget]
        rfl
      show Run X.K _ (mSet j (eVar i) (ro.set i (some (.han st'.length))) (st' ++ [.exn c])) _ _
      rw [hrun]
      intro io' H' x3 m3 σ' e3
      have e4 := e3.unset i
      have el : ((ro.set i (some (Da.han st'.length))).set j (some (.han st'.length))).set i none = (ro.set i none).set j (some (.han st'.length)) := by
        rw [List.set_comm _ _ (Ne.symm hij), List.set_set]
      rw [el] at e4
      exact h io' H' ((x1.trans x2).trans x3) m3 _ e4
    · rw [if_neg hc] at h
      exact h.elim
end
end CL
namespace CL
open PySem PySem.Spec PyProof.Rows L2
/-- what is asked of a class of errors of one's own -/
def exB (c : Str) (K : PySem.W.Frag) : Bool := (PySem.W.clsIn K (He.ga K c)).isSome && (decide (PySem.W.findIn K (.ref (He.ga K c)) "__getattribute__" = some (some (.builtin "BaseException.__getattribute__"))) && ((PySem.W.findIn K (.ref (He.ga K c)) "__getattr__").isSome && (decide (PySem.W.subIn K (.ref (He.ga K c)) (.type "BaseException") = some true) && (decide (PySem.W.findIn K (.ref (He.ga K c)) "__class__" = some (some (.builtin "object.__class__"))) && (decide (PySem.W.specialIn K (.builtin "object.__class__") "__get__" = some (some (.builtin "getset_descriptor.__get__"))) && (decide (PySem.W.takesIn K (.builtin "object.__class__") = some true) && decide (PySem.W.mroIn K (He.ga K c) (.type "object") = some true)))))))
/-- the answers: for each class of errors, whether it is one of C -/
def kitB (c : Str) (u : Value) (b : Bool) (K : PySem.W.Frag) : Bool := decide (PySem.W.kitOne K (.ref (He.ga K c)) u = some b)
theorem kit_exn {K : PySem.W.Frag} {c : Str} {a : Addr} {oe : Obj} (h : exB c K = true) : PySem.W.KitX K (.ref a) (.ref (He.ga K c)) (fun h => PySem.W.InstAt h a oe (He.ga K c) none) := by
  unfold exB at h
  simp only [Bool.and_eq_true, decide_eq_true_eq] at h
  obtain ⟨h1, h2, h3, h4, h5, h6, h7, h8⟩ := h
  obtain ⟨gt, hg⟩ := Option.isSome_iff_exists.mp h3
  exact PySem.W.kitx_exc h1 h2 hg h4 h5 h6 h7 h8
def rIsX (K : PySem.W.Frag) : List V → Hp → VK → Prop := fun xs H Q => ∃ (a : Addr) (cv : V) (u : Value) (c : Str) (b : Bool), xs = [.ref a, cv] ∧ ClsV cv u ∧ H a = some (XO (.ref (He.ga K c)) none a) ∧ exB c K = true ∧ PySem.W.kitOne K (.ref (He.ga K c)) u = some b ∧ Q (.bl b) H
theorem call_isX {X : Cx} : CallR X (.builtin "isinstance") (rIsX X.K) := by
  intro pins s σ H xs us Q I r h
  obtain ⟨a, cv, u, c, b, rfl, k, ha, hx, e, q⟩ := h
  obtain ⟨u1, u2, rfl, r1, r2⟩ := vals2 r
  have e2 := k.eq r2
  subst e2
  cases (show u1 = Value.ref a from r1)
  obtain ⟨⟨oe, h1, ⟨h2, h3⟩, vs, h4⟩, _⟩ := (show ObjOk X.prog X.w H s.heap a (XO _ none a) from I.hok a _ ha)
  refine PySem.W.kia_one (kit_exn (oe := oe) hx) I.kIn ⟨h1, h2, ?_, ?_⟩ e (fun z => nomatch z) fun tk => ⟨.bl b, H, I.tok tk, rfl, q⟩
  · unfold PySem.W.notCls; rw [h4]
  · rw [h3]; trivial
/-- the word: tab tells the answer for each class of errors -/
def isX (tab : List (Str × Bool)) (d : Da) : Mo Da := fun st => match d with
  | .han n => (match st[n]? with
    | some (.exn c) => (match tab.lookup c with
      | some b => .ok (.bl b) st
      | none => .bad)
    | _ => .bad)
  | _ => .bad
theorem lookup_mem {α : Type} {tab : List (Str × α)} {c : Str} {b : α} (h : tab.lookup c = some b) : (c, b) ∈ tab := by
  induction tab with
  | nil => cases h
  | cons x r ih =>
    obtain ⟨k, v⟩ := x
    rw [List.lookup_cons] at h
    by_cases z : (c == k) = true
    · rw [z] at h
      cases h
      have : c = k := by simpa using z
      rw [this]
      exact List.mem_cons_self
    · have z' : (c == k) = false := by simpa using z
      rw [z'] at h
      exact List.mem_cons_of_mem _ (ih h)
theorem sx_isX {K : PySem.W.Frag} {tab : List (Str × Bool)} {u : Value} {cv : V} (k : ClsV cv u) (ht : ∀ p ∈ tab, exB p.1 K = true ∧ kitB p.1 u p.2 K = true) : ∀ (w : Wd) (x : V) (d : Da) (Q : VK) (ex : Str → List Da → Wd → Prop), Em K w → Rep K w x d → Run K w (isX tab d w.st) (OkV K Q) ex → rIsX K [x, cv] w.H Q := fun w x d Q ex m rx h => by
  unfold isX at h
  cases d with
  | han n =>
    cases rx with
    | han ha =>
      dsimp only at h
      cases q : w.st[n]? with
      | none => rw [q] at h; exact h.elim
      | some cc =>
        rw [q] at h
        cases cc with
        | exn c =>
          dsimp only at h
          cases q2 : tab.lookup c with
          | none => rw [q2] at h; exact h.elim
          | some b =>
            rw [q2] at h
            obtain ⟨h1, h2⟩ := ht _ (lookup_mem q2)
            exact ⟨_, cv, u, c, b, rfl, k, m.cell n _ _ ha q, h1, of_decide_eq_true h2, h.here m _ (.bl b)⟩
        | lst xs => exact h.elim
        | ins c fs => exact h.elim
        | dK kvs => exact h.elim
        | dead => exact h.elim
  | non => exact h.elim
  | bl b => exact h.elim
  | int i => exact h.elim
  | str s => exact h.elim
  | tup xs => exact h.elim
  | lst xs => exact h.elim
  | fro xs => exact h.elim
section
variable {X : Cx} {E : L2.St → XK} {a : Expr} {ta : TE} {ma : Sl → Mo Da} {pos : Pos}
/-- a class of one's own -/
theorem q_isX {K : PySem.W.Frag} {p p3 : Pos} {C : Str} {tab : List (Str × Bool)} (hm : X.mg "isinstance" = none) (hC : X.mg C = some (.ref (He.ga K C))) (ht : ∀ p ∈ tab, exB p.1 K = true ∧ kitB p.1 (.ref (He.ga K C)) p.2 K = true) (ha : QE X E a ta ma) (hg : Gl X "isinstance" := by rfl) (hgC : Gl X C := by rfl) (hd : (C == ("__debug__" : Str)) = false := by decide)
    (hs : starEach (a :: [.Name C p3]) X.env = (false, eval a X.env) :: starEach [.Name C p3] X.env := by rfl) (hs2 : starEach (.Name C p3 :: []) X.env = (false, eval (.Name C p3) X.env) :: starEach [] X.env := by rfl) (hpl : (backTo pos (starEach [.Name C p3] X.env)).any (·.1) = false := by rfl) (hK : X.K = K := by rfl) :
    QE X E (.Call (.Name "isinstance" p) [a, .Name C p3] [] pos) (tCB (rIsX K) (tCons ta (tCons (tC (.ref (He.ga K C))) tNil))) (e1 (isX tab) ma) := by
  subst hK
  exact ⟨pe_callB call_isX hg hm (by decide +kernel) (pa_cons ha.pe (pa_cons (pe_glob hgC hC rfl hd) pa_nil hs2) hs) (by decide) (by decide) hs hpl, fun w ro σ Q e h =>
    ha.se w ro σ _ e (h.bind.mono (fun d w1 x1 p1 m1 k v rv => sx_isX (.own _) ht w1 v d Q _ m1 rv k) fun _ _ _ z => z)⟩
/-- a built-in class -/
theorem q_isXb {K : PySem.W.Frag} {p p3 : Pos} {C : Str} {T : String} {tab : List (Str × Bool)} (hm : X.mg "isinstance" = none) (hC : X.mg C = none) (ht : ∀ p ∈ tab, exB p.1 K = true ∧ kitB p.1 (.type T) p.2 K = true) (ha : QE X E a ta ma) (hv : bootBuiltins C = some (.type T) := by decide +kernel) (hg : Gl X "isinstance" := by rfl) (hgC : Gl X C := by rfl) (hn : C ≠ "__name__" := by decide) (hd : (C == ("__debug__" : Str)) = false := by decide)
    (hs : starEach (a :: [.Name C p3]) X.env = (false, eval a X.env) :: starEach [.Name C p3] X.env := by rfl) (hs2 : starEach (.Name C p3 :: []) X.env = (false, eval (.Name C p3) X.env) :: starEach [] X.env := by rfl) (hpl : (backTo pos (starEach [.Name C p3] X.env)).any (·.1) = false := by rfl) (hK : X.K = K := by rfl) :
    QE X E (.Call (.Name "isinstance" p) [a, .Name C p3] [] pos) (tCB (rIsX K) (tCons ta (tCons (tC (.ty T)) tNil))) (e1 (isX tab) ma) := by
  subst hK
  exact ⟨pe_callB call_isX hg hm (by decide +kernel) (pa_cons ha.pe (pa_cons (pe_bltn hgC hC hv rfl hn hd) pa_nil hs2) hs) (by decide) (by decide) hs hpl, fun w ro σ Q e h =>
    ha.se w ro σ _ e (h.bind.mono (fun d w1 x1 p1 m1 k v rv => sx_isX (.ty _) ht w1 v d Q _ m1 rv k) fun _ _ _ z => z)⟩
end
end CL
namespace CL
open PySem PySem.Spec PyProof.Rows L2
def rCountD (K : PySem.W.Frag) : V → List V → Hp → VK → Prop := fun x xs H Q => ∃ (a : Addr) (y : V) (d : PyData) (ds : List PyData), x = V.ref a ∧ xs = [y] ∧ Dp K H (V.ref a) (.list ds) ∧ Dp K H y d ∧
  SeqAt.shaped (.list ds) = true ∧ SeqAt.shaped d = true ∧ Q (.int ((ds.countP fun z => PyData.eqv z d : Nat) : Int)) H
theorem mt_countD {X : Cx} (hu : X.A.units + 65 < cLine) : MtR X "list.count" (rCountD X.K) := by
  intro pins s σ H x xs v us Q I rx rxs h
  obtain ⟨a, y, d, ds, rfl, rfl, hl, hy, sl, sd, q⟩ := h
  cases rx
  cases rxs with
  | cons ry rt =>
    rename_i uy ut
    cases rt
    obtain ⟨bs, r1⟩ := Dp.reads I d y uy hy ry
    have hxs : PyData.canLayAll0 ds = true := SeqAt.canLay_of_shaped sl
    have hroom : X.A.units + 1 + min (PyData.depthAll ds) d.depth < cLine := room_in_shaped sd hu
    cases hl with
    | lst hs ha =>
      obtain ⟨its, rv, ⟨⟨cls, dd, data, sls⟩, n, ho, hc, hdn, hdt⟩, hlen⟩ := I.list hs
      simp only at hc hdt
      subst hc hdt
      obtain ⟨as, h4⟩ := Dp.readsAll I ds _ its ha rv
      have hmap : its.map (SeqAt.readOf s.heap) = ds := SeqAt.readsAll_map ds its as hxs h4
      refine call_meets PySem.F.slot_list_count ⟨_, ho, rfl⟩ PySem.F.entry_list_count (PySem.F.args_list_count_2 _ _)
        (SeqAt.list_countAt a its.toArray n dd sls uy (fun u => PyData.eqv (SeqAt.readOf s.heap u) d)) ⟨ho, SeqAt.items_eqAt (vs := its.toArray) (show ReadsAll s.heap its.toArray.toList ds as from h4) r1 hxs (SeqAt.canLay_of_shaped sd) hroom, ?_⟩
      have e : (its.countP fun u => PyData.eqv (SeqAt.readOf s.heap u) d) = ds.countP fun z => PyData.eqv z d := by
        rw [← hmap, List.countP_map]
        rfl
      have q' : Q (.int ((its.countP fun u => PyData.eqv (SeqAt.readOf s.heap u) d : Nat) : Int)) H := by rw [e]; exact q
      exact ⟨.int ((its.countP fun u => PyData.eqv (SeqAt.readOf s.heap u) d : Nat) : Int), H, I.tok _, ⟨_, rfl⟩, q'⟩
def countD (d x : Da) : Mo Da := fun st => match pyD st d, pyD st x with
  | some (.list qs), some p => if (SeqAt.shaped (.list qs) && SeqAt.shaped p) = true then .ok (.int ((qs.countP fun z => PyData.eqv z p : Nat) : Int)) st else .bad
  | _, _ => .bad
def eCount (a b : Sl → Mo Da) : Sl → Mo Da := fun ro => bnd (a ro) fun d => bnd (isLs d) fun _ => bnd (b ro) fun x => countD d x
section
variable {K : PySem.W.Frag} {E : L2.St → XK} {ta tb : TE} {a b : Sl → Mo Da}
theorem s_count (ha : SE K E ta a) (hb : SE K E tb b) : SE K E (tBM K "list" (rCountD K) ta (tCons tb tNil)) (eCount a b) := fun w ro σ Q e h =>
  ha w ro σ _ e (h.bind.mono (fun d w1 x1 p1 m1 k v rv => by
    obtain ⟨ty, k2⟩ := isLs_run m1 rv k.bind
    refine ⟨ty, hb w1 ro σ _ (e.mono x1 m1) (k2.bind.mono (fun x w2 x2 p2 m2 k3 u ru => ?_) fun _ _ _ z => z)⟩
    have rv2 := rv.mono m1 x2
    unfold countD at k3
    split at k3
    · rename_i qs p hq hp
      split at k3
      · rename_i hs
        obtain ⟨s1, s2⟩ := Bool.and_eq_true_iff.mp hs
        have d1 := dp_py m2 rv2 hq
        have d2 := dp_py m2 ru hp
        have hv : ∃ q, v = .ref q := by
          cases d1
          exact ⟨_, rfl⟩
        obtain ⟨q, rfl⟩ := hv
        exact ⟨q, u, p, qs, rfl, rfl, d1, d2, s1, s2, k3.here m2 _ (.int _)⟩
      · exact k3.elim
    · exact k3.elim) fun _ _ _ z => z)
end
section
variable {X : Cx} {E : L2.St → XK} {pos : Pos}
theorem q_count {a b : Expr} {ta tb : TE} {ma mb : Sl → Mo Da} {K : PySem.W.Frag} {apos : Pos} (hu : X.A.units + 65 < cLine) (ha : QE X E a ta ma) (hb : QE X E b tb mb) (hbase : attributeBase a "count" X.env (eval a X.env) = eval a X.env := by rfl)
    (hfew : ((backTo pos (starEach (b :: []) X.env)).all (fun x => !x.1) && (backToKw pos (keywordEach [] X.env)).all (fun x => x.1.isSome) && decide ((b :: []).length + ([] : List Keyword).length + (if ([] : List Keyword).isEmpty then 0 else 1) < 30)) = true := by rfl) (hline : (apos.endLine == pos.line) = true := by rfl) (hs : starEach (b :: []) X.env = (false, eval b X.env) :: starEach [] X.env := by rfl) (hpl : (backTo pos (starEach [] X.env)).any (·.1) = false := by rfl) (hK : X.K = K := by rfl) :
    QE X E (.Call (.Attribute a "count" apos) [b] [] pos) (tBM K "list" (rCountD K) ta (tCons tb tNil)) (eCount ma mb) := by
  subst hK
  exact ⟨pe_bm PySem.F.plainAttrs_list PySem.F.slot_list_count PySem.F.type_list_count (mt_countD hu) ha.pe (pa_cons hb.pe pa_nil hs) hbase hfew hline hs hpl, s_count ha.se hb.se⟩
end
def kAll (u : PySem.W.Frag → Value) (tab : List (Str × Bool)) (K : PySem.W.Frag) : Bool := tab.all fun p => exB p.1 K && kitB p.1 (u K) p.2 K
theorem kAll_ok {u : PySem.W.Frag → Value} {tab : List (Str × Bool)} {K : PySem.W.Frag} (h : kAll u tab K = true) : ∀ p ∈ tab, exB p.1 K = true ∧ kitB p.1 (u K) p.2 K = true := fun p hp =>
  Bool.and_eq_true_iff.mp (List.all_eq_true.mp h p hp)
def mAll (x : Str) (cs : List Str) (K : PySem.W.Frag) : Bool := cs.all fun c => decide (PySem.W.exmOne K (.ref (He.ga K c)) (.ref (He.ga K x)) = some true)
theorem mAll_ok {x : Str} {cs : List Str} {K : PySem.W.Frag} (h : mAll x cs K = true) : ∀ c ∈ cs, PySem.W.exmOne K (.ref (He.ga K c)) (.ref (He.ga K x)) = some true := fun c hc =>
  of_decide_eq_true (List.all_eq_true.mp h c hc)
end CL
namespace CL
open PySem PySem.Spec PyProof.Rows L2
abbrev ZR (h : Heap) (z ti to_ : Addr) (g : Value) (b : Bool) : Prop :=
  h.get? z = some { cls := .type "zip", dict := none, data := .fields #[g, .bool b, .bool false, .ref ti, .ref to_], slots := #[] }
def ZS (h : Heap) (z ti to_ : Addr) : Prop := ∃ (g : Value) (b : Bool), ZR h z ti to_ g b ∧ (g = .none ∨ ∃ q : Addr, g = rawInt q)
section
end
end CL
namespace CL
open PySem PySem.Spec PyProof.Rows L2
def EzSt (e z ti to_ j1 j2 a b : Addr) (i : Nat) (h : Heap) : Prop :=
  (∃ old, IsEnum h e z ((i : Nat) : Int) old) ∧ ZS h z ti to_ ∧ IsPair h ti (.ref j1) (.ref j2) ∧ (∃ x y, IsPair h to_ x y) ∧ h.IsListIter j1 a i ∧ h.IsListIter j2 b i
theorem EzSt.at {e z ti to_ j1 j2 a b : Addr} {i : Nat} {h h' : Heap} (st : EzSt e z ti to_ j1 j2 a b i h) (k : ∀ c ∈ [e, z, ti, to_, j1, j2], ∀ o, h.get? c = some o → h'.get? c = some o) : EzSt e z ti to_ j1 j2 a b i h' := by
  obtain ⟨⟨old, he⟩, ⟨g, f, hz, hg⟩, ht, ⟨x, y, ho⟩, h1, h2⟩ := st
  exact ⟨⟨old, k e (by simp) _ he⟩, ⟨g, f, k z (by simp) _ hz, hg⟩, k ti (by simp) _ ht, ⟨x, y, k to_ (by simp) _ ho⟩, h1.at fun o q => k j1 (by simp) o q, h2.at fun o q => k j2 (by simp) o q⟩
end CL
namespace CL
open PySem PySem.Spec PyProof.Rows L2
def enumL (k : Nat) : List Da → List Da
  | [] => []
  | x :: r => .tup [.int k, x] :: enumL (k + 1) r
def zipL : List Da → List Da → List Da
  | x :: r, y :: s => .tup [x, y] :: zipL r s
  | _, _ => []
def srcE : List Da → Mo Src
  | [.lst xs] => ret ⟨enumL 0 xs, none⟩
  | _ => nop
def srcZ : List Da → Mo Src
  | [.lst xs, .lst ys] => ret ⟨zipL xs ys, none⟩
  | _ => nop
def srcEZ : List Da → Mo Src
  | [.lst xs, .lst ys] => ret ⟨enumL 0 (zipL xs ys), none⟩
  | _ => nop
def iE (a : Sl → Mo (List Da)) : Sl → Mo Src := fun ro => bnd (a ro) srcE
def iZ (a : Sl → Mo (List Da)) : Sl → Mo Src := fun ro => bnd (a ro) srcZ
def iEZ (a : Sl → Mo (List Da)) : Sl → Mo Src := fun ro => bnd (a ro) srcEZ
section
end
section
end
def mPar3 (i j k : Nat) (a : Sl → Mo (List Da)) : Sl → Mo Fl := fun ro => bnd (a ro) fun ds => match ds with
  | [d, e, f] => ret (.nx (((ro.set i (some d)).set j (some e)).set k (some f)))
  | _ => nop
section
end
end CL
namespace CL
open PySem PySem.Spec PyProof.Rows L2
section
end
def mFlds2 (cs1 : List Str) (f1 : Str) (o1 : Sl → Mo Da) (cs2 : List Str) (f2 : Str) (o2 : Sl → Mo Da) (al : Sl → Mo (List Da)) : Sl → Mo Fl := fun ro => bnd (eTup al ro) fun t => match t with
  | .tup [x, y] => bnd (o1 ro) fun p => bnd (setFD cs1 f1 p x) fun _ => bnd (o2 ro) fun q => bnd (setFD cs2 f2 q y) fun _ => ret (.nx ro)
  | _ => nop
section
end
def getL (d k : Da) : Mo Da := fun st => match d, k with
  | .han n, .int j => (match st[n]? with
    | some (.lst xs) => (match atI xs j with
      | some x => .ok x st
      | none => .bad)
    | _ => .bad)
  | _, _ => .bad
def mAugI (o i : Sl → Mo Da) (f : Int → Int → Int) (v : Sl → Mo Da) : Sl → Mo Fl := fun ro => bnd (o ro) fun d => bnd (i ro) fun k => bnd (getL d k) fun x => bnd (v ro) fun y => match x, y with
  | .int p, .int q => bnd (setD d k (.int (f p q))) fun _ => ret (.nx ro)
  | _, _ => nop
section
end
end CL
namespace CL
open PySem PySem.Spec PyProof.Rows L2
def dGet (kvs : List (Key × Da)) (k : Key) : Option Da := match kvs with
  | [] => none
  | (j, d) :: r => if j = k then some d else dGet r k
def dPut (kvs : List (Key × Da)) (k : Key) (d : Da) : List (Key × Da) := match kvs with
  | [] => [(k, d)]
  | (j, x) :: r => if j = k then (j, d) :: r else (j, x) :: dPut r k d
section
variable {K : PySem.W.Frag} {w : Wd}
theorem RepK.get : ∀ {vs : List (Key × V)} {ds : List (Key × Da)} {k : Key} {d : Da}, RepK K w vs ds → dGet ds k = some d → ∃ v, valV vs k = some v ∧ Rep K w v d
  | _, _, k, d, .nil, e => by cases e
  | _, _, k, d, .cons (f := j) h t, e => by
    unfold dGet at e
    by_cases q : j = k
    · rw [if_pos q] at e
      cases e
      exact ⟨_, valV_pos q, h⟩
    · rw [if_neg q] at e
      rw [valV_neg (by exact q)]
      exact t.get e
theorem RepK.keys : ∀ {vs : List (Key × V)} {ds : List (Key × Da)}, RepK K w vs ds → vs.map (·.1) = ds.map (·.1)
  | _, _, .nil => rfl
  | _, _, .cons h t => by simp [t.keys]
theorem RepK.length {vs : List (Key × V)} {ds : List (Key × Da)} (r : RepK K w vs ds) : vs.length = ds.length := by
  have := congrArg List.length r.keys
  simpa using this
theorem map_out {α : Type} : ∀ (vs : List (Key × α)) (k : Key) (v : α), k ∉ vs.map (·.1) → vs.map (fun kv => if kv.1 = k then (kv.1, v) else kv) = vs
  | [], _, _, _ => rfl
  | (j, x) :: r, k, v, h => by
    have h1 : j ≠ k := fun z => h (by simp [z])
    have h2 : k ∉ r.map (·.1) := fun z => h (by rw [List.map_cons]; exact List.mem_cons_of_mem _ z)
    simp [h1, map_out r k v h2]
theorem RepK.put {x : V} {d : Da} {k : Key} (hx : Rep K w x d) : ∀ {vs : List (Key × V)} {ds : List (Key × Da)}, RepK K w vs ds → (ds.map (·.1)).Nodup → RepK K w (putK vs k x) (dPut ds k d)
  | _, _, .nil, _ => by
    unfold putK dPut
    exact .cons hx .nil
  | _, _, .cons (f := j) (vs := vs) (ds := ds) (v := v) h t, nd => by
    have nd2 : (ds.map (·.1)).Nodup := by simp at nd; simpa using nd.2
    unfold dPut
    by_cases q : j = k
    · rw [if_pos q]
      unfold putK
      rw [if_pos (by simp [q])]
      have out : k ∉ vs.map (·.1) := by
        rw [t.keys, ← q]
        simp at nd
        simpa using nd.1
      rw [List.map_cons, map_out vs k x out, if_pos q]
      exact .cons hx t
    · rw [if_neg q]
      have ih := RepK.put (k := k) hx t nd2
      unfold putK at ih ⊢
      have ea : ((j, v) :: vs).any (fun kv => decide (kv.1 = k)) = vs.any (fun kv => decide (kv.1 = k)) := by simp [q]
      rw [ea]
      split
      · rename_i ha
        rw [if_pos ha] at ih
        rw [List.map_cons, if_neg q]
        exact .cons h ih
      · rename_i ha
        rw [if_neg ha] at ih
        exact .cons h ih
end
def eDict : Sl → Mo Da := fun _ st => .ok (.han st.length) (st ++ [.dK []])
def setK (d k x : Da) : Mo Unit := fun st => match d, k with
  | .han n, .int i => (match st[n]? with
    | some (.dK kvs) => if kvs.length < szD ∧ (kvs.map (·.1)).Nodup then .ok () (st.set n (.dK (dPut kvs (.inl i) x))) else .bad
    | _ => .bad)
  | _, _ => .bad
def mPutK (v o i : Sl → Mo Da) : Sl → Mo Fl := fun ro => bnd (v ro) fun x => bnd (o ro) fun d => bnd (i ro) fun k => bnd (setK d k x) fun _ => ret (.nx ro)
section
end
section
end
def fzFs : List (Str × Da) → Store → Option (List (Str × Da) × Store)
  | [], st => some ([], st)
  | (f, d) :: r, st => match d with
    | .han n => (match st[n]? with
      | some (.lst ds) => (match fzFs r (st.set n .dead) with
        | some (r', st') => some ((f, .lst ds) :: r', st')
        | none => none)
      | _ => (match fzFs r st with
        | some (r', st') => some ((f, d) :: r', st')
        | none => none))
    | _ => (match fzFs r st with
      | some (r', st') => some ((f, d) :: r', st')
      | none => none)
def fzO (d : Da) : Mo Da := fun st => match d with
  | .han n => (match st[n]? with
    | some (.ins c fs) => (match fzFs fs st with
      | some (fs', st') => (match st'[n]? with
        | some (.ins c' fs2) => if beqF fs2 fs = true ∧ c' = c then .ok d (st'.set n (.ins c fs')) else .bad
        | _ => .bad)
      | none => .bad)
    | _ => .bad)
  | _ => .bad
where beqF : List (Str × Da) → List (Str × Da) → Bool
  | [], [] => true
  | (f, x) :: r, (g, y) :: s => decide (f = g) && (beqD x y && beqF r s)
  | _, _ => false
def eFF (a : Sl → Mo Da) : Sl → Mo Da := fun ro => bnd (a ro) fzO
end CL
namespace CL
open PySem PySem.Spec L2
section
end
end CL
namespace CL
open PySem PySem.Spec PyProof.Rows L2
/-- a law's walk by facts of the head; the law may call defs that raise -/
theorem walkE {l : PySem.W.OpenLaw} {n k : Nat} {qq : Program} {loose : List Str} {XP : (Str → Option Value) → Heap → Prop} {YP : World → Heap → Prop} {d : DefRec} {x : Str}
    (hn : l.most = some n) (hn2 : n ≤ sizeLine) (hdf : d.params.defaults = []) (hr : Room k callerA)
    (F : ∀ (w : World) (mg : Str → Option Value) (fa : Addr) (h : Heap), YP w h → h.Ns mainGlobals mg → mg d.name = some (.ref fa) →
      ∃ (K : PySem.W.Frag) (fd : FuncData) (sp : Sp), K.In h ∧ (∀ (s : Shared) (u : Value), BindsTo s fd ⟨[u], []⟩ [(x, u)]) ∧
        (∀ (H : Hp) (a : Addr) (ns : List Int), ns.length ≤ n → Only H → SqL K H a (ns.map V.int) → sp [.ref a] H (fun v _ => v = .bl true) fun _ _ _ => False) ∧
        ∀ base : Heap, K.In base → base.Ns mainGlobals mg → FnOk l.prog w K mg base (L2.CX l.prog w) k fa fd [x] sp) :
    PySem.W.WalkO qq loose XP YP l.row.toRowW d [] (fun f vs => PySem.call f vs) := by
  refine Att.attach_call hn hdf fun w s0 s1 mg mb fa o pm cd doc a vs ns G Y ho hd hcd hmg hobj hints hlen hg => ?_
  obtain ⟨K, fd, sp, KX, hb, hsp, hF⟩ := F w mg fa _ Y G.T.g hmg
  refine law_call KX G.T.g G.T.b G.T.builtins G.T.nolimit hg hobj hints (Nat.le_trans hlen hn2) hr hF hb (fun H hO hS => hsp H a ns hlen hO hS) fun H e s' z => ?_
  obtain ⟨_, _, _, _, _, _, _, _, _, _, _, _, z⟩ := z
  exact z
theorem repL_ints {K : PySem.W.Frag} {w : Wd} : ∀ ns : List Int, RepL K w (ns.map V.int) (ns.map Da.int)
  | [] => .nil
  | n :: r => .cons (.int n) (repL_ints r)
theorem law_start {K : PySem.W.Frag} {H : Hp} {a : Addr} {ns : List Int} {f : List Da → Mo Da} (hO : Only H) (hS : SqL K H a (ns.map V.int)) (h : ∃ st', f [.fro (ns.map Da.int)] [] = .ok (.bl true) st') :
    SpOf K 1 f [.ref a] H (fun v _ => v = .bl true) (fun _ _ _ => False) := by
  obtain ⟨st', h⟩ := h
  refine ⟨⟨[], [], H, []⟩, [.fro (ns.map Da.int)], rfl, ⟨rfl, List.nodup_nil, fun a h => absurd h (by simp), fun n a c h => absurd h (by simp), fun a h => absurd h (by simp)⟩, .cons (.fro ?_ (repL_ints ns)) .nil, rfl, ?_⟩
  · rcases hS with (hS | hS) | hS
    · rcases hO a with z | ⟨o, xs, z⟩
      · rw [z] at hS; cases hS
      · rw [z] at hS; cases hS
    · exact .inl hS
    · exact .inr hS
  · show Run K _ (f [.fro (ns.map Da.int)] []) _ _
    rw [h]
    intro io H' x m v r
    exact rep_bl r
end CL
noncomputable section
namespace CL
open PySem PySem.Spec L2
def frcL {α : Type} : List Nat → (List Nat → α) → α
  | [], k => k []
  | a :: r, k => HandSHeadRun.frNat a fun a => frcL r fun r => k (a :: r)
theorem frcL_eq {α : Type} : ∀ (l : List Nat) (k : List Nat → α), frcL l k = k l
  | [], _ => rfl
  | a :: r, k => by
    unfold frcL
    rw [HandSHeadRun.frNat_eq, frcL_eq r]
def frcO {α : Type} (o : Obj) (k : Obj → α) : α := match o with
  | ⟨c, d, t, s⟩ => k ⟨c, d, t, s⟩
theorem frcO_eq {α : Type} (o : Obj) (k : Obj → α) : frcO o k = k o := by cases o; rfl
def frcK {α : Type} : PySem.W.Frag → (PySem.W.Frag → α) → α
  | [], k => k []
  | (a, o) :: r, k => HandSHeadRun.frNat a fun a => frcO o fun o => frcK r fun r => k ((a, o) :: r)
theorem frcK_eq {α : Type} : ∀ (l : PySem.W.Frag) (k : PySem.W.Frag → α), frcK l k = k l
  | [], _ => rfl
  | (a, o) :: r, k => by
    unfold frcK
    rw [HandSHeadRun.frNat_eq, frcO_eq, frcK_eq r]
/-- what an object names that we need -/
def refsS (o : Obj) : List Addr := match o.data with
  | .seq its _ => its.toList.flatMap He.refV
  | .dict es _ => es.toList.flatMap fun e => He.refV e.val
  | .func fd => He.refV fd.code ++ (He.refV fd.defaults ++ He.refV fd.kwdefaults)
  | .cls cd => [cd.ns]
  | _ => []
def nextS (g : Addr → Option Obj) (as : List Addr) : List Addr := as.flatMap fun a => match g a with
  | some o => refsS o
  | none => []
/-- level by level -/
def lvS (g : Addr → Option Obj) : Nat → List Addr → List Addr
  | 0, as => as
  | n + 1, as => as ++ lvS g n (nextS g as)
def lvF {α : Type} (g : Addr → Option Obj) : Nat → List Addr → (List Addr → α) → α
  | 0, as, k => k as
  | n + 1, as, k => frcL (nextS g as) fun bs => lvF g n bs fun cs => k (as ++ cs)
theorem lvF_eq {α : Type} (g : Addr → Option Obj) : ∀ (n : Nat) (as : List Addr) (k : List Addr → α), lvF g n as k = k (lvS g n as)
  | 0, _, _ => rfl
  | n + 1, as, k => by
    unfold lvF
    rw [frcL_eq, lvF_eq g n] <;> rfl
def KS (g : Addr → Option Obj) (n : Nat) : PySem.W.Frag := He.frT g (lvS g n [mainGlobals])
def obsS (n : Nat) (fa : List He.Fa) (fn : List He.DefD) (ex : PySem.W.Frag → Bool) (g : Addr → Option Obj) : He.AlX := (He.obsT fa fn [] (KS g n), ex (KS g n))
theorem saysS_of {n : Nat} {fa : List He.Fa} {fn : List He.DefD} {ex : PySem.W.Frag → Bool} {w : World} {h : Heap} (e : obsS n fa fn ex h.get? = He.valX fn [] w) : He.SaysX fa fn [] [] ex w h (KS h.get? n) :=
  ⟨congrArg (fun z : He.AlX => z.1) e, congrArg (fun z : He.AlX => z.2) e, fun p hp => absurd hp (by simp), fun p hp => absurd hp (by simp), fun p hp => absurd hp (by simp)⟩
def hookS (n : Nat) (fa : List He.Fa) (fn : List He.DefD) (ex : PySem.W.Frag → Bool) : PySem.W.Hook where
  α := He.AlX
  obs := fun s => obsS n fa fn ex s.heap.get?
  val := fun w => He.valX fn [] w
  says := fun w h => ∃ K : PySem.W.Frag, K.In h ∧ He.SaysX fa fn [] [] ex w h K
  of := fun _ _ e => ⟨_, He.frT_in, saysS_of e⟩
  keeps := fun _ _ _ ⟨K, hK, c⟩ k => ⟨K, PySem.W.Frag.In.keeps hK k, ⟨c.t, c.more, c.hd, c.out, fun p hp => k _ _ (c.empty p hp)⟩⟩
def obF (n : Nat) (fa : List He.Fa) (fn : List He.DefD) (ex : PySem.W.Frag → Bool) (s : PySem.W.SharedT) : He.AlX :=
  lvF (HandSHeadRun.getT s) n [mainGlobals] fun as => frcK (He.frT (HandSHeadRun.getT s) as) fun K => (He.obsT fa fn [] K, ex K)
theorem obF_eq (n : Nat) (fa : List He.Fa) (fn : List He.DefD) (ex : PySem.W.Frag → Bool) (s : PySem.W.SharedT) : obF n fa fn ex s = (hookS n fa fn ex).obs s.abs := by
  show _ = obsS n fa fn ex s.abs.heap.get?
  have e : HandSHeadRun.getT s = s.abs.heap.get? := funext (HandSHeadRun.getT_eq s)
  rw [← e]
  unfold obF
  rw [lvF_eq, frcK_eq] <;> rfl
open HandSHeadRun PySem.W in
theorem run_of {r : OpenRow} {q : Program} {H : Hook} {ob : SharedT → H.α} {M : Nat} {loose : List PySem.Str} {w : World}
    (h1 : ∀ os : OsState, (endF (stepQ (denQ tabQ) r.prog w) M r.prog w os).map (fun s => looksF r.prog (boot_heap w.params) s.abs) = some true)
    (h2 : ∀ os : OsState, (endF (stepQ (denQ tabQ) r.prog w) M r.prog w os).map (fun s => seenQ q loose (importedModules r.prog.main.body) (fun s => xlAt q [] s && recOk r.toRowW.records s) s.abs) = some (openGood q loose))
    (h3 : ∀ os : OsState, (endF (stepQ (denQ tabQ) r.prog w) M r.prog w os).map (fun s => ob s) = some (H.val w)) : RunEq r q H ob M loose w := by
  intro os
  obtain ⟨s, hs, e1⟩ := Option.map_eq_some_iff.mp (h1 os)
  have e2 := h2 os
  have e3 := h3 os
  rw [hs] at e2 e3 ⊢
  have e2 := Option.some.inj e2
  have e3 := Option.some.inj e3
  exact congrArg some (Prod.ext e1 (Prod.ext e2 e3))
end CL
namespace CL
open PySem PySem.Spec L2
def top (i : Nat) : Stmt := PySem.Challenge.pw_coldlanes_k08_whole_bytes.main.body.getD i (.Pass ⟨0, 0, 0, 0⟩)
abbrev S_Reader_take : Stmt := inCls (top 20) 1
abbrev NN_Reader_take : List Str := ["self", "found", "measure", "one"]
theorem sc_Reader_take : FnScope NN_Reader_take ["self"] (defScope S_Reader_take) := ⟨rfl, rfl, rfl, by decide +kernel, rfl, by decide +kernel, by decide +kernel⟩
abbrev S__law_bytes : Stmt := top 29
abbrev NN__law_bytes : List Str := ["number", "found"]
theorem sc__law_bytes : FnScope NN__law_bytes ["number"] (defScope S__law_bytes) := ⟨rfl, rfl, rfl, by decide +kernel, rfl, by decide +kernel, by decide +kernel⟩
abbrev S__law_draw : Stmt := top 24
abbrev NN__law_draw : List Str := ["town", "many", "row", "at", "cell", "mixed"]
theorem sc__law_draw : FnScope NN__law_draw ["town", "many"] (defScope S__law_draw) := ⟨rfl, rfl, rfl, by decide +kernel, rfl, by decide +kernel, by decide +kernel⟩
abbrev S__law_packed : Stmt := top 30
abbrev NN__law_packed : List Str := ["ranges_of", "chains", "begin", "end", "chain", "found", "at", "kind", "which", "clean"]
theorem sc__law_packed : FnScope NN__law_packed ["ranges_of"] (defScope S__law_packed) := ⟨rfl, rfl, rfl, by decide +kernel, rfl, by decide +kernel, by decide +kernel⟩
abbrev S__law_pick : Stmt := top 25
abbrev NN__law_pick : List Str := ["town", "some"]
theorem sc__law_pick : FnScope NN__law_pick ["town", "some"] (defScope S__law_pick) := ⟨rfl, rfl, rfl, by decide +kernel, rfl, by decide +kernel, by decide +kernel⟩
abbrev S__law_chain : Stmt := top 27
abbrev NN__law_chain : List Str := ["town", "found", "k"]
theorem sc__law_chain : FnScope NN__law_chain ["town"] (defScope S__law_chain) := ⟨rfl, rfl, rfl, by decide +kernel, rfl, by decide +kernel, by decide +kernel⟩
abbrev S__law_refusal : Stmt := top 26
abbrev NN__law_refusal : List Str := ["caught", "kinds"]
theorem sc__law_refusal : FnScope NN__law_refusal ["caught"] (defScope S__law_refusal) := ⟨rfl, rfl, rfl, by decide +kernel, rfl, by decide +kernel, by decide +kernel⟩
abbrev S__law_table : Stmt := top 28
abbrev NN__law_table : List Str := ["town", "chains", "found", "at", "k", "begin"]
theorem sc__law_table : FnScope NN__law_table ["town"] (defScope S__law_table) := ⟨rfl, rfl, rfl, by decide +kernel, rfl, by decide +kernel, by decide +kernel⟩
abbrev S__law_town : Stmt := top 23
abbrev NN__law_town : List Str := ["script"]
theorem sc__law_town : FnScope NN__law_town ["script"] (defScope S__law_town) := ⟨rfl, rfl, rfl, by decide +kernel, rfl, by decide +kernel, by decide +kernel⟩
abbrev S_chains_of : Stmt := top 18
abbrev NN_chains_of : List Str := ["table", "found", "begin", "end", "chain"]
theorem sc_chains_of : FnScope NN_chains_of ["table"] (defScope S_chains_of) := ⟨rfl, rfl, rfl, by decide +kernel, rfl, by decide +kernel, by decide +kernel⟩
abbrev S_is_whole : Stmt := top 10
abbrev NN_is_whole : List Str := ["thing", "low", "high"]
theorem sc_is_whole : FnScope NN_is_whole ["thing", "low", "high"] (defScope S_is_whole) := ⟨rfl, rfl, rfl, by decide +kernel, rfl, by decide +kernel, by decide +kernel⟩
abbrev S_Reader___init__ : Stmt := inCls (top 20) 0
abbrev NN_Reader___init__ : List Str := ["self", "numbers", "fine", "one"]
theorem sc_Reader___init__ : FnScope NN_Reader___init__ ["self", "numbers"] (defScope S_Reader___init__) := ⟨rfl, rfl, rfl, by decide +kernel, rfl, by decide +kernel, by decide +kernel⟩
abbrev S_is_chain : Stmt := top 15
abbrev NN_is_chain : List Str := ["chain", "one"]
theorem sc_is_chain : FnScope NN_is_chain ["chain"] (defScope S_is_chain) := ⟨rfl, rfl, rfl, by decide +kernel, rfl, by decide +kernel, by decide +kernel⟩
abbrev S_is_table : Stmt := top 14
abbrev NN_is_table : List Str := ["table", "at", "row", "one"]
theorem sc_is_table : FnScope NN_is_table ["table"] (defScope S_is_table) := ⟨rfl, rfl, rfl, by decide +kernel, rfl, by decide +kernel, by decide +kernel⟩
abbrev S_look_table : Stmt := top 16
abbrev NN_look_table : List Str := ["table"]
theorem sc_look_table : FnScope NN_look_table ["table"] (defScope S_look_table) := ⟨rfl, rfl, rfl, by decide +kernel, rfl, by decide +kernel, by decide +kernel⟩
abbrev S_small : Stmt := top 17
abbrev NN_small : List Str := ["number", "found"]
theorem sc_small : FnScope NN_small ["number"] (defScope S_small) := ⟨rfl, rfl, rfl, by decide +kernel, rfl, by decide +kernel, by decide +kernel⟩
abbrev S_packed : Stmt := top 19
abbrev NN_packed : List Str := ["table", "chains", "found", "chain", "at", "begin", "end", "kind", "goal", "clean", "sign"]
theorem sc_packed : FnScope NN_packed ["table"] (defScope S_packed) := ⟨rfl, rfl, rfl, by decide +kernel, rfl, by decide +kernel, by decide +kernel⟩
abbrev S_unpacked : Stmt := top 21
abbrev NN_unpacked : List Str := ["numbers", "reader", "chains", "turn", "table", "at", "chain", "k", "begin", "index", "sign", "kind"]
theorem sc_unpacked : FnScope NN_unpacked ["numbers"] (defScope S_unpacked) := ⟨rfl, rfl, rfl, by decide +kernel, rfl, by decide +kernel, by decide +kernel⟩
abbrev S__law_read : Stmt := top 31
abbrev NN__law_read : List Str := ["numbers", "caught", "told", "e"]
theorem sc__law_read : FnScope NN__law_read ["numbers"] (defScope S__law_read) := ⟨rfl, rfl, rfl, by decide +kernel, rfl, by decide +kernel, by decide +kernel⟩
abbrev S_law : Stmt := top 32
abbrev NN_law : List Str := ["script", "town", "good", "turn", "bad", "worse", "at", "new", "kind", "told", "k"]
theorem sc_law : FnScope NN_law ["script"] (defScope S_law) := ⟨rfl, rfl, rfl, by decide +kernel, rfl, by decide +kernel, by decide +kernel⟩
end CL
namespace CL
open PySem PySem.Spec L2
def hd_Reader_take : He.DefD := ⟨("Reader", some "take"), "take", "Reader.take", defArgs S_Reader_take, defBody S_Reader_take, defScope S_Reader_take, [], []⟩
def hd__law_bytes : He.DefD := ⟨("_law_bytes", none), "_law_bytes", "_law_bytes", defArgs S__law_bytes, defBody S__law_bytes, defScope S__law_bytes, [], []⟩
def hd__law_draw : He.DefD := ⟨("_law_draw", none), "_law_draw", "_law_draw", defArgs S__law_draw, defBody S__law_draw, defScope S__law_draw, [], []⟩
def hd__law_packed : He.DefD := ⟨("_law_packed", none), "_law_packed", "_law_packed", defArgs S__law_packed, defBody S__law_packed, defScope S__law_packed, [], []⟩
def hd__law_pick : He.DefD := ⟨("_law_pick", none), "_law_pick", "_law_pick", defArgs S__law_pick, defBody S__law_pick, defScope S__law_pick, [], []⟩
def hd__law_chain : He.DefD := ⟨("_law_chain", none), "_law_chain", "_law_chain", defArgs S__law_chain, defBody S__law_chain, defScope S__law_chain, [], []⟩
def hd__law_refusal : He.DefD := ⟨("_law_refusal", none), "_law_refusal", "_law_refusal", defArgs S__law_refusal, defBody S__law_refusal, defScope S__law_refusal, [], []⟩
def hd__law_table : He.DefD := ⟨("_law_table", none), "_law_table", "_law_table", defArgs S__law_table, defBody S__law_table, defScope S__law_table, [], []⟩
def hd__law_town : He.DefD := ⟨("_law_town", none), "_law_town", "_law_town", defArgs S__law_town, defBody S__law_town, defScope S__law_town, [], []⟩
def hd_chains_of : He.DefD := ⟨("chains_of", none), "chains_of", "chains_of", defArgs S_chains_of, defBody S_chains_of, defScope S_chains_of, [], []⟩
def hd_is_whole : He.DefD := ⟨("is_whole", none), "is_whole", "is_whole", defArgs S_is_whole, defBody S_is_whole, defScope S_is_whole, [], []⟩
def hd_Reader___init__ : He.DefD := ⟨("Reader", some "__init__"), "__init__", "Reader.__init__", defArgs S_Reader___init__, defBody S_Reader___init__, defScope S_Reader___init__, [], []⟩
def hd_is_chain : He.DefD := ⟨("is_chain", none), "is_chain", "is_chain", defArgs S_is_chain, defBody S_is_chain, defScope S_is_chain, [], []⟩
def hd_is_table : He.DefD := ⟨("is_table", none), "is_table", "is_table", defArgs S_is_table, defBody S_is_table, defScope S_is_table, [], []⟩
def hd_look_table : He.DefD := ⟨("look_table", none), "look_table", "look_table", defArgs S_look_table, defBody S_look_table, defScope S_look_table, [], []⟩
def hd_small : He.DefD := ⟨("small", none), "small", "small", defArgs S_small, defBody S_small, defScope S_small, [], []⟩
def hd_packed : He.DefD := ⟨("packed", none), "packed", "packed", defArgs S_packed, defBody S_packed, defScope S_packed, [], []⟩
def hd_unpacked : He.DefD := ⟨("unpacked", none), "unpacked", "unpacked", defArgs S_unpacked, defBody S_unpacked, defScope S_unpacked, [], []⟩
def hd__law_read : He.DefD := ⟨("_law_read", none), "_law_read", "_law_read", defArgs S__law_read, defBody S__law_read, defScope S__law_read, [], []⟩
def hd_law : He.DefD := ⟨("law", none), "law", "law", defArgs S_law, defBody S_law, defScope S_law, [], []⟩
def hfn : List He.DefD := [hd_Reader_take, hd__law_bytes, hd__law_draw, hd__law_packed, hd__law_pick, hd__law_chain, hd__law_refusal, hd__law_table, hd__law_town, hd_chains_of, hd_is_whole, hd_Reader___init__, hd_is_chain, hd_is_table, hd_look_table, hd_small, hd_packed, hd_unpacked, hd__law_read, hd_law]
def hfa0 : List He.Fa := [.glo "_law_bytes", .glo "_law_draw", .glo "_law_packed", .glo "_law_pick", .glo "_law_chain", .glo "_law_refusal", .glo "_law_table", .glo "_law_town", .glo "chains_of", .glo "is_whole", .glo "is_chain", .glo "is_table", .glo "look_table", .glo "small", .glo "packed", .glo "unpacked", .glo "_law_read", .glo "law", .free "ValueError", .free "all", .free "bool", .free "int", .free "isinstance", .free "len", .free "list"]
def hfa1 : List He.Fa := [.free "range", .free "tuple", .cls "Reader", .meth "Reader" "take", .glo "Reader", .mkr "Reader", .glo "BadNumber", .glo "BadOrder", .glo "BadTable", .glo "BadText", .glo "BadTree", .glo "LaneError", .glo "NoPlace", .glo "Over", .glo "Stuck", .exc "BadTable", .noat "Reader" "spot", .noat "Reader" "numbers", .int "KINDS" 5, .int "MOST_PLACE" 100000]
def hfa : List He.Fa := hfa0 ++ hfa1
def hex (K : PySem.W.Frag) : Bool := mAll "LaneError" ["LaneError", "BadNumber", "BadTree", "BadOrder", "BadTable", "Stuck", "Over", "BadText"] K && (kAll (fun K => .ref (He.ga K "BadNumber")) [("LaneError", false), ("BadNumber", true), ("BadTree", false), ("BadOrder", false), ("BadTable", false), ("Stuck", false), ("Over", false), ("BadText", false)] K && (kAll (fun K => .ref (He.ga K "BadOrder")) [("LaneError", false), ("BadNumber", false), ("BadTree", false), ("BadOrder", true), ("BadTable", false), ("Stuck", false), ("Over", false), ("BadText", false)] K && (kAll (fun K => .ref (He.ga K "BadTable")) [("LaneError", false), ("BadNumber", false), ("BadTree", false), ("BadOrder", false), ("BadTable", true), ("Stuck", false), ("Over", false), ("BadText", false)] K && (kAll (fun K => .ref (He.ga K "BadText")) [("LaneError", false), ("BadNumber", false), ("BadTree", false), ("BadOrder", false), ("BadTable", false), ("Stuck", false), ("Over", false), ("BadText", true)] K && (kAll (fun K => .ref (He.ga K "BadTree")) [("LaneError", false), ("BadNumber", false), ("BadTree", true), ("BadOrder", false), ("BadTable", false), ("Stuck", false), ("Over", false), ("BadText", false)] K && (kAll (fun K => .ref (He.ga K "LaneError")) [("LaneError", true), ("BadNumber", true), ("BadTree", true), ("BadOrder", true), ("BadTable", true), ("Stuck", true), ("Over", true), ("BadText", true)] K && (kAll (fun K => .ref (He.ga K "NoPlace")) [("LaneError", false), ("BadNumber", false), ("BadTree", false), ("BadOrder", false), ("BadTable", false), ("Stuck", false), ("Over", false), ("BadText", false)] K && (kAll (fun K => .ref (He.ga K "Over")) [("LaneError", false), ("BadNumber", false), ("BadTree", false), ("BadOrder", false), ("BadTable", false), ("Stuck", false), ("Over", true), ("BadText", false)] K && (kAll (fun K => .ref (He.ga K "Stuck")) [("LaneError", false), ("BadNumber", false), ("BadTree", false), ("BadOrder", false), ("BadTable", false), ("Stuck", true), ("Over", false), ("BadText", false)] K && (kAll (fun _ => .type "ValueError") [("LaneError", true), ("BadNumber", true), ("BadTree", true), ("BadOrder", true), ("BadTable", true), ("Stuck", true), ("Over", true), ("BadText", true)] K && (true)))))))))))
abbrev RR : PySem.W.OpenRow := PySem.W.OpenLaw.row PySem.Challenge.rw_coldlanes_k08_whole_bytes
noncomputable abbrev hk : PySem.W.Hook := hookS 5 hfa hfn hex
noncomputable def hob (s : PySem.W.SharedT) : He.AlX := obF 5 hfa hfn hex s
theorem hob_eq (s : PySem.W.SharedT) : hob s = hk.obs s.abs := obF_eq 5 hfa hfn hex s
def loose0 : List PySem.Str := ["LaneError", "BadNumber", "BadTree", "BadOrder", "BadTable", "NoPlace", "Stuck", "Over", "BadText", "is_whole", "KINDS", "MOST_PLACE", "is_table", "is_chain", "look_table", "small", "chains_of", "packed", "Reader", "unpacked", "_law_town", "_law_draw", "_law_pick", "_law_refusal", "_law_chain", "_law_table", "_law_bytes", "_law_packed", "_law_read"]
def loose : List PySem.Str := loose0
theorem hr1 (w : World) (os : OsState) : (HandSHeadRun.endF (HandSHeadRun.stepQ (HandSHeadRun.denQ HandSHeadRun.tabQ) RR.prog w) 12000 RR.prog w os).map (fun s => HandSHeadRun.looksF RR.prog (PySem.W.boot_heap w.params) s.abs) = some true := by
  kernel_rfl
theorem hr2 (w : World) (os : OsState) : (HandSHeadRun.endF (HandSHeadRun.stepQ (HandSHeadRun.denQ HandSHeadRun.tabQ) RR.prog w) 12000 RR.prog w os).map (fun s => HandSHeadRun.seenQ (PySem.W.view RR.prog [32]) loose (importedModules RR.prog.main.body) (fun s => PySem.W.xlAt (PySem.W.view RR.prog [32]) [] s && PySem.W.recOk RR.toRowW.records s) s.abs) = some (PySem.W.openGood (PySem.W.view RR.prog [32]) loose) := by
  kernel_rfl
theorem hr3 (w : World) (os : OsState) : (HandSHeadRun.endF (HandSHeadRun.stepQ (HandSHeadRun.denQ HandSHeadRun.tabQ) RR.prog w) 12000 RR.prog w os).map (fun s => hob s) = some (hk.val w) := by
  kernel_rfl
theorem hrun (w : World) : HandSHeadRun.RunEq RR (PySem.W.view RR.prog [32]) hk hob 12000 loose w := run_of (hr1 w) (hr2 w) (hr3 w)
end CL
namespace CL
open PySem PySem.Spec L2
def m_is_whole : Sl → Mo Fl := (mRet (vAnd (e1 (isT .int) (eVar 0)) (vAnd (vNot (e1 (isT .bool) (eVar 0))) (eChain leD leD (eVar 1) (eVar 0) (eVar 2)))))
def f_is_whole : List Da → Mo Da := fnM 3 m_is_whole
end CL
namespace CL
open PySem PySem.Spec L2
def m_is_chain (g_is_whole : List Da → Mo Da) : Sl → Mo Fl := (mSeq (mIf (tOr_ (tNot_ (tst (e1 (isT .tuple) (eVar 0)))) (tst (e2 eqD (eVar 0) (eTup aNil)))) (mRet (eC (.bl false))) mNil) (mSeq (mFor (iV (eVar 0)) (gN 1) (mSeq (mIf (tOr_ (tNot_ (tst (e1 (isT .tuple) (eVar 1)))) (tOr_ (tst (e2 neD (eCall (one lenD) (aCons (eVar 1) aNil)) (eC (.int 3)))) (tNot_ (tst (eCall (fun ds => ar 3 g_is_whole (ds ++ [])) (aCons (e2 ixD (eVar 1) (eC (.int 1))) (aCons (eC (.int 0)) (aCons (eC (.int 100000)) aNil)))))))) (mRet (eC (.bl false))) mNil) (mIf (tOr_ (tAnd_ (tst (e2 (isB true) (e2 ixD (eVar 1) (eC (.int 0))) (eC (.non)))) (tNot_ (tst (eCall (fun ds => ar 3 g_is_whole (ds ++ [])) (aCons (e2 ixD (eVar 1) (eC (.int 0))) (aCons (eC (.int 0)) (aCons (e2 subD (eC (.int 5)) (eC (.int 1))) aNil))))))) (tNot_ (tst (e1 (isT .bool) (e2 ixD (eVar 1) (eC (.int 2))))))) (mRet (eC (.bl false))) mNil))) (mRet (eC (.bl true)))))
def f_is_chain : List Da → Mo Da := fnM 2 (m_is_chain f_is_whole)
def m_is_table (g_is_chain g_is_whole : List Da → Mo Da) : Sl → Mo Fl := (mSeq (mIf (tNot_ (tst (e1 (isT .list) (eVar 0)))) (mRet (eC (.bl false))) mNil) (mSeq (mSet 1 (eC (.int 0))) (mSeq (mFor (iV (eVar 0)) (gN 2) (mSeq (mIf (tOr_ (tNot_ (tst (e1 (isT .tuple) (eVar 2)))) (tOr_ (tst (e2 neD (eCall (one lenD) (aCons (eVar 2) aNil)) (eC (.int 3)))) (tNot_ (tst (eCall (fun ds => ar 1 g_is_chain (ds ++ [])) (aCons (e2 ixD (eVar 2) (eC (.int 2))) aNil)))))) (mRet (eC (.bl false))) mNil) (mSeq (mIf (tOr_ (tNot_ (tst (eCall (one allD) (aCons (eL (lComp (iV (eSl slA (eVar 2) noP (soP (eC (.int 2))))) (gN 3) tYes_ (eCall (fun ds => ar 3 g_is_whole (ds ++ [])) (aCons (eVar 3) (aCons (eC (.int 0)) (aCons (eC (.int 100000)) aNil)))) [3])) aNil)))) (tOr_ (tst (e2 ltD (e2 ixD (eVar 2) (eC (.int 0))) (eVar 1))) (tst (e2 leD (e2 ixD (eVar 2) (eC (.int 1))) (e2 ixD (eVar 2) (eC (.int 0))))))) (mRet (eC (.bl false))) mNil) (mSet 1 (e2 ixD (eVar 2) (eC (.int 1))))))) (mRet (eC (.bl true))))))
def f_is_table : List Da → Mo Da := fnM 4 (m_is_table f_is_chain f_is_whole)
def m_look_table (g_is_table : List Da → Mo Da) : Sl → Mo Fl := (mIf (tNot_ (tst (eCall (fun ds => ar 1 g_is_table (ds ++ [])) (aCons (eVar 0) aNil)))) (mRaise "BadTable") mNil)
def f_look_table : List Da → Mo Da := fnM 1 (m_look_table f_is_table)
end CL
namespace CL
open PySem PySem.Spec L2
def m__law_draw : Sl → Mo Fl := (mSeq (mSet 2 (e2 ixD (eVar 0) (eC (.int 0)))) (mSeq (mSetI (e2 addD (e2 ixD (eVar 0) (eC (.int 1))) (eC (.int 1))) (eVar 0) (eC (.int 1))) (mSeq (mSet 3 (e2 modD (e2 ixD (eVar 0) (eC (.int 1))) (eCall (one lenD) (aCons (eVar 2) aNil)))) (mSeq (mSet 4 (e2 ixD (eVar 2) (eVar 3))) (mSeq (mIf (tst (e2 geD (eVar 4) (eC (.int 1000000000000000000)))) (mSeq (mSetI (e2 fdivD (eVar 4) (eVar 1)) (eVar 2) (eVar 3)) (mRet (e2 modD (eVar 4) (eVar 1)))) mNil) (mSeq (mSet 5 (e2 modD (e2 addD (eVar 4) (e2 mulD (eC (.int 104729)) (e2 ixD (eVar 0) (eC (.int 1))))) (eC (.int 4294967291)))) (mSeq (mSet 5 (e2 modD (e2 powD (eVar 5) (eC (.int 5))) (eC (.int 4294967279)))) (mRet (e2 modD (e2 fdivD (e2 modD (e2 addD (e2 mulD (e2 fdivD (eVar 5) (eC (.int 64))) (eC (.int 69621))) (eVar 5)) (eC (.int 4294967231))) (eC (.int 8))) (eVar 1))))))))))
def f__law_draw : List Da → Mo Da := fnM 6 m__law_draw
def m__law_town : Sl → Mo Fl := (mRet (eH (lDisp (aCons (eIf (tst (e2 neD (eVar 0) (eL (lDisp aNil)))) (eH (lCall (one listD) (aCons (eVar 0) aNil))) (eH (lDisp (aCons (eC (.int 0)) aNil)))) (aCons (eC (.int 0)) aNil)))))
def f__law_town : List Da → Mo Da := fnM 1 m__law_town
end CL
namespace CL
open PySem PySem.Spec L2
def m_Reader___init__ (g_is_whole : List Da → Mo Da) : Sl → Mo Fl := (mSeq (mSet 2 (vAnd (e1 (isT .list) (eVar 1)) (eCall (one allD) (aCons (eL (lComp (iV (eVar 1)) (gN 3) tYes_ (eCall (fun ds => ar 3 g_is_whole (ds ++ [])) (aCons (eVar 3) (aCons (eC (.int 0)) (aCons (eC (.int 255)) aNil)))) [3])) aNil)))) (mSeq (mIf (tNot_ (tst (eVar 2))) (mRaise "BadTable") mNil) (mSeq (mFld ["Reader"] "numbers" (eVar 1) (eVar 0)) (mFld ["Reader"] "spot" (eC (.int 0)) (eVar 0)))))
def f_Reader___init__ : List Da → Mo Da := fnM 4 (m_Reader___init__ f_is_whole)
end CL
namespace CL
open PySem PySem.Spec L2
def mAug2 (i : Nat) (f : Da → Da → Mo Da) (a : Sl → Mo Da) : Sl → Mo Fl := fun ro => bnd (eVar i ro) fun x => bnd (a ro) fun y => bnd (f x y) fun z => ret (Fl.nx (ro.set i (some z)))
instance (i j : Int) : Decidable (CDiv i j) := by unfold CDiv; infer_instance
def fdivA : Da → Da → Mo Da
  | .int i, .int j => if CDiv i j then ret (.int (i / j)) else nop
  | _, _ => nop
theorem s2_fdivA {K : PySem.W.Frag} : S2 K (rI CDiv fun i j => .int (i / j)) fdivA := fun w x y d e Q ex m rx ry h => by
  unfold fdivA at h
  split at h
  · split at h
    · rename_i hc
      cases rx
      cases ry
      exact ⟨_, _, rfl, rfl, hc, h.here m _ (.int _)⟩
    · exact h.elim
  · exact h.elim
section
variable {K : PySem.W.Frag} {E : St → XK} {ta : TE} {a : Sl → Mo Da}
theorem ss_aug2 {i : Nat} {r : R2} {f : Da → Da → Mo Da} (hs : S2 K r f) (ha : SE K E ta a) : SS K E (tAug i ta r) (mAug2 i f a) := fun w ro σ D e h => by
  have k := h.bind
  unfold eVar at k
  split at k
  · rename_i d hd
    obtain ⟨v, hv, rv⟩ := e.slot i d hd
    refine ⟨v, hv, ha w ro σ _ e ((k.here e.emb).bind.mono (fun y w1 x1 p1 m1 k2 u ru => ?_) fun _ _ _ z => z σ)⟩
    exact hs _ _ _ _ _ _ _ m1 (rv.mono e.emb x1) ru (k2.bind.mono (fun z w2 x2 p2 m2 k3 u2 ru2 => k3.here m2 _ (((e.mono x1 m1).mono x2 m2).set ru2)) fun _ _ _ z => z)
  · exact k.elim
end
section
variable {X : Cx} {E : St → XK} {te : TE} {ma : Sl → Mo Da} {e : Expr} {pos : Pos}
theorem qs_augM (i : Nat) {x : Str} {pos' : Pos} (hN : X.N.Nodup) (ha : QE X E e te ma) (hi : X.N[i]? = some x := by rfl) (hx : Loc X.env.scope x := by first | exact Or.inl rfl | exact Or.inr rfl) (hf : X.fn x = true ∨ X.env.scope.names.lookup x = some .local := by first | exact .inl rfl | exact .inr rfl | assumption) :
    QS X E (.AugAssign (.Name x pos') .Mult e pos) (tAug i te (rI CMul fun i j => .int (i * j))) (mAug2 i mulD ma) := ⟨ps_aug hN hi hx ha.pe iop_mul hf, ss_aug2 (q_mul (X := X)).s2 ha.se⟩
theorem qs_augF (i : Nat) {x : Str} {pos' : Pos} (hN : X.N.Nodup) (ha : QE X E e te ma) (hi : X.N[i]? = some x := by rfl) (hx : Loc X.env.scope x := by first | exact Or.inl rfl | exact Or.inr rfl) (hf : X.fn x = true ∨ X.env.scope.names.lookup x = some .local := by first | exact .inl rfl | exact .inr rfl | assumption) :
    QS X E (.AugAssign (.Name x pos') .FloorDiv e pos) (tAug i te (rI CDiv fun i j => .int (i / j))) (mAug2 i fdivA ma) := ⟨ps_aug hN hi hx ha.pe iop_fdiv hf, ss_aug2 s2_fdivA ha.se⟩
end
end CL
namespace CL
open PySem PySem.Spec L2
def m_Reader_take : Sl → Mo Fl := (mSeq (mTgt (gT 2 (gsC (gN 1) (gsC (gN 2) gsN))) (eTup (aCons (eC (.int 0)) (aCons (eC (.int 1)) aNil)))) (mSeq (whileF (tst (eC (.bl true))) (mSeq (mIf (tOr_ (tst (e2 eqD (eFld ["Reader"] "spot" (eVar 0)) (eCall (one lenD) (aCons (eFld ["Reader"] "numbers" (eVar 0)) aNil)))) (tst (e2 gtD (eVar 2) (e2 powD (eC (.int 128)) (eC (.int 4)))))) (mRaise "BadTable") mNil) (mSeq (mSet 3 (e2 ixD (eFld ["Reader"] "numbers" (eVar 0)) (eFld ["Reader"] "spot" (eVar 0)))) (mSeq (mFldAug "Reader" "spot" (fun i j => i + j) (eVar 0) (eC (.int 1))) (mSeq (mAug 1 (fun i j => i + j) (e2 mulD (e2 modD (eVar 3) (eC (.int 128))) (eVar 2))) (mSeq (mIf (tst (e2 ltD (eVar 3) (eC (.int 128)))) mBrk mNil) (mAug2 2 mulD (eC (.int 128)))))))) 1000000) (mSeq (mIf (tAnd_ (tst (e2 eqD (eVar 3) (eC (.int 0)))) (tst (e2 gtD (eVar 2) (eC (.int 1))))) (mRaise "BadTable") mNil) (mRet (eVar 1)))))
def f_Reader_take : List Da → Mo Da := fnM 4 m_Reader_take
end CL
namespace CL
open PySem PySem.Spec L2
def m__law_bytes : Sl → Mo Fl := (mSeq (mSet 1 (eH (lDisp aNil))) (mSeq (whileF (tst (e2 geD (eVar 0) (eC (.int 128)))) (mSeq (mExpr (eApp (eVar 1) (e2 addD (eC (.int 128)) (e2 modD (eVar 0) (eC (.int 128)))))) (mSet 0 (e2 fdivD (eVar 0) (eC (.int 128))))) 1000000) (mRet (eL (l2 catL (eVar 1) (eL (lDisp (aCons (eVar 0) aNil))))))))
def f__law_bytes : List Da → Mo Da := fnM 2 m__law_bytes
end CL
namespace CL
open PySem PySem.Spec L2
def m__law_pick (g__law_draw : List Da → Mo Da) : Sl → Mo Fl := (mRet (e2 ixD (eVar 1) (eCall (fun ds => ar 2 g__law_draw (ds ++ [])) (aCons (eVar 0) (aCons (eCall (one lenD) (aCons (eVar 1) aNil)) aNil)))))
def f__law_pick : List Da → Mo Da := fnM 2 (m__law_pick f__law_draw)
end CL
namespace CL
open PySem PySem.Spec L2
def m__law_chain (g__law_draw g__law_pick : List Da → Mo Da) : Sl → Mo Fl := (mSeq (mSet 1 (eH (lDisp aNil))) (mSeq (mFor (iR1 (aCons (e2 addD (eC (.int 1)) (eCall (fun ds => ar 2 g__law_draw (ds ++ [])) (aCons (eVar 0) (aCons (eC (.int 3)) aNil)))) aNil)) (gN 2) (mExpr (eApp (eVar 1) (eTup (aCons (eCall (fun ds => ar 2 g__law_pick (ds ++ [])) (aCons (eVar 0) (aCons (eL (lDisp (aCons (eC (.non)) (aCons (eC (.int 0)) (aCons (eC (.int 1)) (aCons (eC (.int 4)) aNil)))))) aNil))) (aCons (eCall (fun ds => ar 2 g__law_pick (ds ++ [])) (aCons (eVar 0) (aCons (eL (lDisp (aCons (eC (.int 0)) (aCons (eC (.int 5)) (aCons (eC (.int 300)) (aCons (eC (.int 100000)) aNil)))))) aNil))) (aCons (e2 eqD (eCall (fun ds => ar 2 g__law_draw (ds ++ [])) (aCons (eVar 0) (aCons (eC (.int 2)) aNil))) (eC (.int 1))) aNil))))))) (mRet (eCall (one tupleD) (aCons (eVar 1) aNil)))))
def f__law_chain : List Da → Mo Da := fnM 3 (m__law_chain f__law_draw f__law_pick)
end CL
namespace CL
open PySem PySem.Spec L2
def m__law_packed (g__law_bytes : List Da → Mo Da) : Sl → Mo Fl := (mSeq (mSet 1 (eH (lDisp aNil))) (mSeq (mFor (iV (eVar 0)) (gT 3 (gsC (gN 2) (gsC (gN 3) (gsC (gN 4) gsN)))) (mIf (tst (e2 (inU true) (eVar 4) (eVar 1))) (mExpr (eApp (eVar 1) (eVar 4))) mNil)) (mSeq (mSet 5 (eCall (fun ds => ar 1 g__law_bytes (ds ++ [])) (aCons (eCall (one lenD) (aCons (eVar 1) aNil)) aNil))) (mSeq (mFor (iV (eVar 1)) (gN 4) (mSeq (mSet 5 (e2 addD (eVar 5) (eCall (fun ds => ar 1 g__law_bytes (ds ++ [])) (aCons (eCall (one lenD) (aCons (eVar 4) aNil)) aNil)))) (mFor (iV (eVar 4)) (gT 3 (gsC (gN 7) (gsC (gN 8) (gsC (gN 9) gsN)))) (mSet 5 (e2 addD (e2 addD (eVar 5) (eCall (fun ds => ar 1 g__law_bytes (ds ++ [])) (aCons (e2 addD (eIf (tst (e2 (isB false) (eVar 7) (eC (.non)))) (eC (.int 0)) (e2 addD (e2 mulD (eC (.int 2)) (eVar 7)) (eC (.int 2)))) (eIf (tst (eVar 9)) (eC (.int 1)) (eC (.int 0)))) aNil))) (eCall (fun ds => ar 1 g__law_bytes (ds ++ [])) (aCons (eVar 8) aNil))))))) (mSeq (mSet 5 (e2 addD (eVar 5) (eCall (fun ds => ar 1 g__law_bytes (ds ++ [])) (aCons (eCall (one lenD) (aCons (eVar 0) aNil)) aNil)))) (mSeq (mSet 6 (eC (.int 0))) (mSeq (mFor (iV (eVar 0)) (gT 3 (gsC (gN 2) (gsC (gN 3) (gsC (gN 4) gsN)))) (mSeq (mSet 5 (e2 addD (e2 addD (eVar 5) (eCall (fun ds => ar 1 g__law_bytes (ds ++ [])) (aCons (e2 subD (eVar 2) (eVar 6)) aNil))) (eCall (fun ds => ar 1 g__law_bytes (ds ++ [])) (aCons (e2 subD (eVar 3) (eVar 2)) aNil)))) (mSeq (mSet 5 (e2 addD (eVar 5) (eCall (fun ds => ar 1 g__law_bytes (ds ++ [])) (aCons (eIndex (eVar 1) (eVar 4)) aNil)))) (mSet 6 (eVar 3))))) (mRet (eVar 5)))))))))
def f__law_packed : List Da → Mo Da := fnM 10 (m__law_packed f__law_bytes)
end CL
namespace CL
open PySem PySem.Spec L2
def m__law_refusal : Sl → Mo Fl := (mSeq (mSet 1 (eL (lDisp (aCons (e1 (isX [("LaneError", false), ("BadNumber", true), ("BadTree", false), ("BadOrder", false), ("BadTable", false), ("Stuck", false), ("Over", false), ("BadText", false)]) (eVar 0)) (aCons (e1 (isX [("LaneError", false), ("BadNumber", false), ("BadTree", true), ("BadOrder", false), ("BadTable", false), ("Stuck", false), ("Over", false), ("BadText", false)]) (eVar 0)) (aCons (e1 (isX [("LaneError", false), ("BadNumber", false), ("BadTree", false), ("BadOrder", true), ("BadTable", false), ("Stuck", false), ("Over", false), ("BadText", false)]) (eVar 0)) aNil)))))) (mSeq (mSet 1 (eL (l2 catL (eVar 1) (eL (lDisp (aCons (e1 (isX [("LaneError", false), ("BadNumber", false), ("BadTree", false), ("BadOrder", false), ("BadTable", true), ("Stuck", false), ("Over", false), ("BadText", false)]) (eVar 0)) (aCons (e1 (isX [("LaneError", false), ("BadNumber", false), ("BadTree", false), ("BadOrder", false), ("BadTable", false), ("Stuck", false), ("Over", false), ("BadText", false)]) (eVar 0)) (aCons (e1 (isX [("LaneError", false), ("BadNumber", false), ("BadTree", false), ("BadOrder", false), ("BadTable", false), ("Stuck", true), ("Over", false), ("BadText", false)]) (eVar 0)) aNil)))))))) (mSeq (mSet 1 (eL (l2 catL (eVar 1) (eL (lDisp (aCons (e1 (isX [("LaneError", false), ("BadNumber", false), ("BadTree", false), ("BadOrder", false), ("BadTable", false), ("Stuck", false), ("Over", true), ("BadText", false)]) (eVar 0)) (aCons (e1 (isX [("LaneError", false), ("BadNumber", false), ("BadTree", false), ("BadOrder", false), ("BadTable", false), ("Stuck", false), ("Over", false), ("BadText", true)]) (eVar 0)) aNil))))))) (mSeq (mIf (tOr_ (tst (e2 neD (eCount (eVar 1) (eC (.bl true))) (eC (.int 1)))) (tOr_ (tNot_ (tst (e1 (isX [("LaneError", true), ("BadNumber", true), ("BadTree", true), ("BadOrder", true), ("BadTable", true), ("Stuck", true), ("Over", true), ("BadText", true)]) (eVar 0)))) (tNot_ (tst (e1 (isX [("LaneError", true), ("BadNumber", true), ("BadTree", true), ("BadOrder", true), ("BadTable", true), ("Stuck", true), ("Over", true), ("BadText", true)]) (eVar 0)))))) (mRet (eC (.str "odd"))) mNil) (mRet (e2 ixD (eL (lDisp (aCons (eC (.str "number")) (aCons (eC (.str "tree")) (aCons (eC (.str "order")) (aCons (eC (.str "table")) (aCons (eC (.str "place")) (aCons (eC (.str "stuck")) (aCons (eC (.str "over")) (aCons (eC (.str "text")) aNil)))))))))) (eIndex (eVar 1) (eC (.bl true)))))))))
def f__law_refusal : List Da → Mo Da := fnM 2 m__law_refusal
end CL
namespace CL
open PySem PySem.Spec L2
def m_chains_of : Sl → Mo Fl := (mSeq (mSet 1 (eH (lDisp aNil))) (mSeq (mFor (iV (eVar 0)) (gT 3 (gsC (gN 2) (gsC (gN 3) (gsC (gN 4) gsN)))) (mIf (tst (e2 (inU true) (eVar 4) (eVar 1))) (mExpr (eApp (eVar 1) (eVar 4))) mNil)) (mRet (eF (eVar 1)))))
def f_chains_of : List Da → Mo Da := fnM 5 m_chains_of
end CL
namespace CL
open PySem PySem.Spec L2
def m_unpacked (g_Reader___init__ g_Reader_take g_is_table g_chains_of : List Da → Mo Da) : Sl → Mo Fl := (mSeq (mSet 1 (eMake "Reader" (fun ds => ar 2 g_Reader___init__ ds) (fun ro => bnd ((aCons (eVar 0) aNil) ro) fun ds => ret (ds ++ [])))) (mSeq (mSet 2 (eH (lDisp aNil))) (mSeq (mFor (iR1 (aCons (eMeth "Reader" "take" (fun ds => ar 1 g_Reader_take (ds ++ [])) (eVar 1) aNil) aNil)) (gN 3) (mSeq (mSet 6 (eH (lDisp aNil))) (mSeq (mFor (iR1 (aCons (eMeth "Reader" "take" (fun ds => ar 1 g_Reader_take (ds ++ [])) (eVar 1) aNil) aNil)) (gN 7) (mSeq (mSet 10 (eMeth "Reader" "take" (fun ds => ar 1 g_Reader_take (ds ++ [])) (eVar 1) aNil)) (mSeq (mSet 11 (eIf (tst (e2 eqD (e2 fdivD (eVar 10) (eC (.int 2))) (eC (.int 0)))) (eC (.non)) (e2 subD (e2 fdivD (eVar 10) (eC (.int 2))) (eC (.int 1))))) (mExpr (eApp (eVar 6) (eTup (aCons (eVar 11) (aCons (eMeth "Reader" "take" (fun ds => ar 1 g_Reader_take (ds ++ [])) (eVar 1) aNil) (aCons (e2 eqD (e2 modD (eVar 10) (eC (.int 2))) (eC (.int 1))) aNil))))))))) (mExpr (eApp (eVar 2) (eCall (one tupleD) (aCons (eVar 6) aNil))))))) (mSeq (mSet 4 (eH (lDisp aNil))) (mSeq (mSet 5 (eC (.int 0))) (mSeq (mFor (iR1 (aCons (eMeth "Reader" "take" (fun ds => ar 1 g_Reader_take (ds ++ [])) (eVar 1) aNil) aNil)) (gN 3) (mSeq (mSet 8 (e2 addD (eVar 5) (eMeth "Reader" "take" (fun ds => ar 1 g_Reader_take (ds ++ [])) (eVar 1) aNil))) (mSeq (mSet 5 (e2 addD (eVar 8) (eMeth "Reader" "take" (fun ds => ar 1 g_Reader_take (ds ++ [])) (eVar 1) aNil))) (mSeq (mSet 9 (eMeth "Reader" "take" (fun ds => ar 1 g_Reader_take (ds ++ [])) (eVar 1) aNil)) (mSeq (mIf (tst (e2 geD (eVar 9) (eCall (one lenD) (aCons (eVar 2) aNil)))) (mRaise "BadTable") mNil) (mExpr (eApp (eVar 4) (eTup (aCons (eVar 8) (aCons (eVar 5) (aCons (e2 ixD (eVar 2) (eVar 9)) aNil))))))))))) (mSeq (mIf (tOr_ (tst (e2 neD (eFld ["Reader"] "spot" (eVar 1)) (eCall (one lenD) (aCons (eVar 0) aNil)))) (tOr_ (tNot_ (tst (eCall (fun ds => ar 1 g_is_table (ds ++ [])) (aCons (eVar 4) aNil)))) (tst (e2 neD (eCall (fun ds => ar 1 g_chains_of (ds ++ [])) (aCons (eVar 4) aNil)) (eVar 2))))) (mRaise "BadTable") mNil) (mRet (eF (eVar 4))))))))))
def f_unpacked : List Da → Mo Da := fnM 12 (m_unpacked f_Reader___init__ f_Reader_take f_is_table f_chains_of)
end CL
namespace CL
open PySem PySem.Spec L2
def m__law_read (g_unpacked g__law_refusal : List Da → Mo Da) : Sl → Mo Fl := (mSeq (mSet 1 (eC (.non))) (mSeq (mSet 2 (eC (.non))) (mSeq (mTry ["LaneError", "BadNumber", "BadTree", "BadOrder", "BadTable", "Stuck", "Over", "BadText"] 3 1 (mSet 2 (eCall (fun ds => ar 1 g_unpacked (ds ++ [])) (aCons (eVar 0) aNil)))) (mRet (eIf (tst (e2 (isB false) (eVar 1) (eC (.non)))) (eVar 2) (eCall (fun ds => ar 1 g__law_refusal (ds ++ [])) (aCons (eVar 1) aNil)))))))
def f__law_read : List Da → Mo Da := fnM 4 (m__law_read f_unpacked f__law_refusal)
end CL
namespace CL
open PySem PySem.Spec L2
def m__law_table (g__law_draw g__law_chain g__law_pick : List Da → Mo Da) : Sl → Mo Fl := (mSeq (mSet 1 (eL (lComp (iR1 (aCons (e2 addD (eC (.int 1)) (eCall (fun ds => ar 2 g__law_draw (ds ++ [])) (aCons (eVar 0) (aCons (eC (.int 3)) aNil)))) aNil)) (gN 4) tYes_ (eCall (fun ds => ar 1 g__law_chain (ds ++ [])) (aCons (eVar 0) aNil)) [4]))) (mSeq (mSet 2 (eH (lDisp aNil))) (mSeq (mSet 3 (eC (.int 0))) (mSeq (mFor (iR1 (aCons (eCall (fun ds => ar 2 g__law_draw (ds ++ [])) (aCons (eVar 0) (aCons (eC (.int 9)) aNil))) aNil)) (gN 4) (mSeq (mSet 5 (e2 addD (eVar 3) (eCall (fun ds => ar 2 g__law_pick (ds ++ [])) (aCons (eVar 0) (aCons (eL (lDisp (aCons (eC (.int 0)) (aCons (eC (.int 1)) (aCons (eC (.int 5)) (aCons (eC (.int 127)) (aCons (eC (.int 128)) (aCons (eCall (fun ds => ar 2 g__law_draw (ds ++ [])) (aCons (eVar 0) (aCons (eC (.int 3000)) aNil))) aNil)))))))) aNil))))) (mSeq (mSet 3 (e2 addD (e2 addD (eVar 5) (eC (.int 1))) (eCall (fun ds => ar 2 g__law_pick (ds ++ [])) (aCons (eVar 0) (aCons (eL (lDisp (aCons (eC (.int 0)) (aCons (eC (.int 1)) (aCons (eC (.int 126)) (aCons (eC (.int 127)) (aCons (eCall (fun ds => ar 2 g__law_draw (ds ++ [])) (aCons (eVar 0) (aCons (eC (.int 3000)) aNil))) aNil))))))) aNil))))) (mExpr (eApp (eVar 2) (eTup (aCons (eVar 5) (aCons (eVar 3) (aCons (eCall (fun ds => ar 2 g__law_pick (ds ++ [])) (aCons (eVar 0) (aCons (eVar 1) aNil))) aNil))))))))) (mRet (eF (eVar 2)))))))
def f__law_table : List Da → Mo Da := fnM 6 (m__law_table f__law_draw f__law_chain f__law_pick)
end CL
namespace CL
open PySem PySem.Spec L2
def extD (d e : Da) : Mo Da := fun st => match d, lsOf st e with
  | .han n, some ys => (match st[n]? with
    | some (.lst xs) => if xs.length + ys.length ≤ szD then .ok (.han n) (st.set n (.lst (xs ++ ys))) else .bad
    | _ => .bad)
  | _, _ => .bad
def mExt (i : Nat) (a : Sl → Mo Da) : Sl → Mo Fl := fun ro => bnd (eVar i ro) fun x => bnd (a ro) fun y => bnd (extD x y) fun z => ret (Fl.nx (ro.set i (some z)))
section
variable {K : PySem.W.Frag} {E : St → XK} {ta : TE} {a : Sl → Mo Da} {w : Wd}
theorem ext_run {d x : Da} {v u : V} {Q : VK} {ex : Str → List Da → Wd → Prop} (m : Em K w) (rv : Rep K w v d) (ru : Rep K w u x) (h : Run K w (extD d x w.st) (OkV K Q) ex) : rExt2 v u w.H Q := by
  unfold extD at h
  split at h
  · rename_i n ys hy
    split at h
    · rename_i xs hx
      split at h
      · rename_i hl
        cases rv with
        | @han a _ ha =>
          obtain ⟨vs, hH, rl⟩ := m.cell n a _ ha hx
          obtain ⟨b, us, rfl, hH2, r2⟩ := ls_rep m ru hy
          have x2 : Ext w (w.put n a (.lst (vs ++ us)) (.lst (xs ++ ys))) := Ext.put m ha hx (by intro z; cases z)
          refine ⟨a, b, vs, us, rfl, rfl, hH, hH2, by rw [rl.length, r2.length]; exact szD_le hl, ?_⟩
          exact Run.at (w' := w.put n a (.lst (vs ++ us)) (.lst (xs ++ ys))) h x2 (m.put ha hx (by intro z; cases z) ⟨_, upd_same, (rl.append r2).mono m x2⟩) rfl rfl _ (.han ha)
      · exact h.elim
    · exact h.elim
  · exact h.elim
theorem ss_ext {i : Nat} (ha : SE K E ta a) : SS K E (tAug i ta rExt2) (mExt i a) := fun w ro σ D e h => by
  have k := h.bind
  unfold eVar at k
  split at k
  · rename_i d hd
    obtain ⟨v, hv, rv⟩ := e.slot i d hd
    refine ⟨v, hv, ha w ro σ _ e ((k.here e.emb).bind.mono (fun y w1 x1 p1 m1 k2 u ru => ?_) fun _ _ _ z => z σ)⟩
    exact ext_run m1 (rv.mono e.emb x1) ru (k2.bind.mono (fun z w2 x2 p2 m2 k3 u2 ru2 => k3.here m2 _ (((e.mono x1 m1).mono x2 m2).set ru2)) fun _ _ _ z => z)
  · exact k.elim
end
def mFldExt (c : Str) (f : Str) (o v : Sl → Mo Da) : Sl → Mo Fl := fun ro => bnd (o ro) fun d => bnd (fldD [c] f d) fun x => bnd (v ro) fun y => bnd (extD x y) fun z => bnd (setFD [c] f d z) fun _ => ret (.nx ro)
section
variable {X : Cx} {E : St → XK} {te : TE} {ma : Sl → Mo Da} {e : Expr} {pos : Pos}
theorem qs_ext (i : Nat) {x : Str} {pos' : Pos} (hN : X.N.Nodup) (ha : QE X E e te ma) (hi : X.N[i]? = some x := by rfl) (hx : Loc X.env.scope x := by first | exact Or.inl rfl | exact Or.inr rfl) (hf : X.fn x = true ∨ X.env.scope.names.lookup x = some .local := by first | exact .inl rfl | exact .inr rfl | assumption) :
    QS X E (.AugAssign (.Name x pos') .Add e pos) (tAug i te rExt2) (mExt i ma) := ⟨ps_aug hN hi hx ha.pe iop_ext hf, ss_ext ha.se⟩
end
end CL
namespace CL
open PySem PySem.Spec L2
def m_small : Sl → Mo Fl := (mSeq (mSet 1 (eH (lDisp aNil))) (mSeq (whileF (tst (e2 gtD (eVar 0) (eC (.int 127)))) (mSeq (mExpr (eApp (eVar 1) (e2 addD (e2 modD (eVar 0) (eC (.int 128))) (eC (.int 128))))) (mAug2 0 fdivA (eC (.int 128)))) 1000000) (mRet (eH (l2 catL (eVar 1) (eL (lDisp (aCons (eVar 0) aNil))))))))
def f_small : List Da → Mo Da := fnM 2 m_small
end CL
namespace CL
open PySem PySem.Spec L2
def m_packed (g_look_table g_chains_of g_small : List Da → Mo Da) : Sl → Mo Fl := (mSeq (mExpr (eCall (fun ds => ar 1 g_look_table (ds ++ [])) (aCons (eVar 0) aNil))) (mSeq (mSet 1 (eCall (fun ds => ar 1 g_chains_of (ds ++ [])) (aCons (eVar 0) aNil))) (mSeq (mSet 2 (eCall (fun ds => ar 1 g_small (ds ++ [])) (aCons (eCall (one lenD) (aCons (eVar 1) aNil)) aNil))) (mSeq (mFor (iV (eVar 1)) (gN 3) (mSeq (mExt 2 (eCall (fun ds => ar 1 g_small (ds ++ [])) (aCons (eCall (one lenD) (aCons (eVar 3) aNil)) aNil))) (mFor (iV (eVar 3)) (gT 3 (gsC (gN 7) (gsC (gN 8) (gsC (gN 9) gsN)))) (mSeq (mSet 10 (eIf (tst (e2 (isB false) (eVar 7) (eC (.non)))) (eC (.int 0)) (e2 addD (eVar 7) (eC (.int 1))))) (mExt 2 (e2 addD (eCall (fun ds => ar 1 g_small (ds ++ [])) (aCons (e2 addD (e2 mulD (eC (.int 2)) (eVar 10)) (eIf (tst (eVar 9)) (eC (.int 1)) (eC (.int 0)))) aNil)) (eCall (fun ds => ar 1 g_small (ds ++ [])) (aCons (eVar 8) aNil)))))))) (mSeq (mExt 2 (eCall (fun ds => ar 1 g_small (ds ++ [])) (aCons (eCall (one lenD) (aCons (eVar 0) aNil)) aNil))) (mSeq (mSet 4 (eC (.int 0))) (mSeq (mFor (iV (eVar 0)) (gT 3 (gsC (gN 5) (gsC (gN 6) (gsC (gN 3) gsN)))) (mSeq (mExt 2 (e2 addD (e2 addD (eCall (fun ds => ar 1 g_small (ds ++ [])) (aCons (e2 subD (eVar 5) (eVar 4)) aNil)) (eCall (fun ds => ar 1 g_small (ds ++ [])) (aCons (e2 subD (eVar 6) (eVar 5)) aNil))) (eCall (fun ds => ar 1 g_small (ds ++ [])) (aCons (eIndex (eVar 1) (eVar 3)) aNil)))) (mSet 4 (eVar 6)))) (mRet (eVar 2)))))))))
def f_packed : List Da → Mo Da := fnM 11 (m_packed f_look_table f_chains_of f_small)
end CL
namespace CL
open PySem PySem.Spec L2
def m_law (g__law_town g__law_table g__law_packed g__law_draw g__law_pick g__law_read g_packed : List Da → Mo Da) : Sl → Mo Fl := (mSeq (mSet 1 (eCall (fun ds => ar 1 g__law_town (ds ++ [])) (aCons (eVar 0) aNil))) (mSeq (mSet 2 (eCall (fun ds => ar 1 g__law_packed (ds ++ [])) (aCons (eCall (fun ds => ar 1 g__law_table (ds ++ [])) (aCons (eVar 1) aNil)) aNil))) (mSeq (mFor (iR1 (aCons (eC (.int 12)) aNil)) (gN 3) (mSeq (mSet 5 (eL (lCall (one listD) (aCons (eVar 2) aNil)))) (mSeq (mSet 6 (eCall (fun ds => ar 2 g__law_draw (ds ++ [])) (aCons (eVar 1) (aCons (e2 addD (eCall (one lenD) (aCons (eVar 5) aNil)) (eC (.int 1))) aNil)))) (mSeq (mSet 7 (eCall (fun ds => ar 2 g__law_pick (ds ++ [])) (aCons (eVar 1) (aCons (eL (lDisp (aCons (eC (.int 0)) (aCons (eC (.int 1)) (aCons (eC (.int 2)) (aCons (eC (.int 127)) (aCons (eC (.int 128)) (aCons (eC (.int 129)) (aCons (eC (.int 255)) (aCons (eCall (fun ds => ar 2 g__law_draw (ds ++ [])) (aCons (eVar 1) (aCons (eC (.int 256)) aNil))) aNil)))))))))) aNil)))) (mSeq (mSet 8 (eCall (fun ds => ar 2 g__law_draw (ds ++ [])) (aCons (eVar 1) (aCons (eC (.int 4)) aNil)))) (mSeq (mIf (tst (e2 eqD (eVar 8) (eC (.int 0)))) (mSet 5 (eL (l2 catL (eL (l2 catL (eSl slA (eVar 5) noP (soP (eVar 6))) (eL (lDisp (aCons (eVar 7) aNil))))) (eSl slA (eVar 5) (soP (eVar 6)) noP)))) (mIf (tst (e2 eqD (eVar 8) (eC (.int 1)))) (mSet 5 (eL (l2 catL (eL (l2 catL (eSl slA (eVar 5) noP (soP (eVar 6))) (eL (lDisp (aCons (eVar 7) aNil))))) (eSl slA (eVar 5) (soP (e2 addD (eVar 6) (eC (.int 1)))) noP)))) (mIf (tst (e2 eqD (eVar 8) (eC (.int 2)))) (mSet 5 (e2 addD (eSl slA (eVar 5) noP (soP (eVar 6))) (eSl slA (eVar 5) (soP (e2 addD (eVar 6) (eC (.int 1)))) noP))) (mSet 5 (eL (lComp (iR1 (aCons (eCall (fun ds => ar 2 g__law_draw (ds ++ [])) (aCons (eVar 1) (aCons (eC (.int 12)) aNil))) aNil)) (gN 10) tYes_ (eCall (fun ds => ar 2 g__law_draw (ds ++ [])) (aCons (eVar 1) (aCons (eC (.int 4)) aNil))) [10])))))) (mSeq (mSet 9 (eCall (fun ds => ar 1 g__law_read (ds ++ [])) (aCons (eVar 5) aNil))) (mSeq (mIf (tAnd_ (tst (e2 neD (eVar 9) (eC (.str "table")))) (tNot_ (tst (e1 (isT .list) (eVar 9))))) (mRet (eC (.bl false))) mNil) (mIf (tAnd_ (tst (e2 neD (eVar 9) (eC (.str "table")))) (tst (e2 neD (eL (lDisp (aCons (eCall (fun ds => ar 1 g__law_packed (ds ++ [])) (aCons (eVar 9) aNil)) (aCons (eCall (fun ds => ar 1 g_packed (ds ++ [])) (aCons (eVar 9) aNil)) aNil)))) (eL (lDisp (aCons (eVar 5) (aCons (eVar 5) aNil))))))) (mRet (eC (.bl false))) mNil))))))))) (mSeq (mFor (iV (eL (lDisp (aCons (eC (.non)) (aCons (eC (.int 5)) (aCons (eTup (aCons (eC (.int 0)) (aCons (eC (.int 0)) aNil))) (aCons (eL (lDisp (aCons (eC (.int 0)) (aCons (eC (.int 256)) aNil)))) (aCons (eL (lDisp (aCons (eC (.int 0)) (aCons (eC (.bl true)) aNil)))) (aCons (eL (lDisp (aCons (eC (.int 0)) (aCons (e2 subD (eC (.int 0)) (eC (.int 1))) aNil)))) (aCons (eL (lDisp (aCons (eC (.int 0)) (aCons (eC (.non)) aNil)))) (aCons (eC (.str "00")) (aCons (eL (lDisp aNil)) (aCons (eL (lDisp (aCons (eC (.int 0)) aNil))) (aCons (eL (lDisp (aCons (eC (.int 128)) (aCons (eC (.int 0)) (aCons (eC (.int 0)) aNil))))) (aCons (eL (lDisp (aCons (eC (.int 0)) (aCons (eC (.int 0)) (aCons (eC (.int 0)) aNil))))) aNil))))))))))))))) (gN 4) (mIf (tst (e2 neD (eCall (fun ds => ar 1 g__law_read (ds ++ [])) (aCons (eVar 4) aNil)) (eC (.str "table")))) (mRet (eC (.bl false))) mNil)) (mRet (e2 neD (eCall (fun ds => ar 1 g__law_read (ds ++ [])) (aCons (eVar 2) aNil)) (eC (.str "table"))))))))
def f_law : List Da → Mo Da := fnM 11 (m_law f__law_town f__law_table f__law_packed f__law_draw f__law_pick f__law_read f_packed)
end CL
namespace CL
open PySem PySem.Spec L2
end CL
namespace CL
open PySem PySem.Spec L2
structure Tx (K : PySem.W.Frag) (mg : Str → Option Value) : Prop where
  n_ValueError : mg "ValueError" = none
  n_all : mg "all" = none
  n_bool : mg "bool" = none
  n_int : mg "int" = none
  n_isinstance : mg "isinstance" = none
  n_len : mg "len" = none
  n_list : mg "list" = none
  n_range : mg "range" = none
  n_tuple : mg "tuple" = none
  c_KINDS : ∃ t, mg "KINDS" = some (.int 5 t)
  c_MOST_PLACE : ∃ t, mg "MOST_PLACE" = some (.int 100000 t)
  g_BadNumber : mg "BadNumber" = some (.ref (He.ga K "BadNumber"))
  g_BadOrder : mg "BadOrder" = some (.ref (He.ga K "BadOrder"))
  g_BadTable : mg "BadTable" = some (.ref (He.ga K "BadTable"))
  g_BadText : mg "BadText" = some (.ref (He.ga K "BadText"))
  g_BadTree : mg "BadTree" = some (.ref (He.ga K "BadTree"))
  g_LaneError : mg "LaneError" = some (.ref (He.ga K "LaneError"))
  g_NoPlace : mg "NoPlace" = some (.ref (He.ga K "NoPlace"))
  g_Over : mg "Over" = some (.ref (He.ga K "Over"))
  g_Stuck : mg "Stuck" = some (.ref (He.ga K "Stuck"))
  x_BadTable : (He.Fa.exc "BadTable").ok K = true
  m_LaneError : ∀ c ∈ (["LaneError", "BadNumber", "BadTree", "BadOrder", "BadTable", "Stuck", "Over", "BadText"] : List Str), PySem.W.exmOne K (.ref (He.ga K c)) (.ref (He.ga K "LaneError")) = some true
  k_BadNumber : ∀ p ∈ ([("LaneError", false), ("BadNumber", true), ("BadTree", false), ("BadOrder", false), ("BadTable", false), ("Stuck", false), ("Over", false), ("BadText", false)] : List (Str × Bool)), exB p.1 K = true ∧ kitB p.1 (.ref (He.ga K "BadNumber")) p.2 K = true
  k_BadOrder : ∀ p ∈ ([("LaneError", false), ("BadNumber", false), ("BadTree", false), ("BadOrder", true), ("BadTable", false), ("Stuck", false), ("Over", false), ("BadText", false)] : List (Str × Bool)), exB p.1 K = true ∧ kitB p.1 (.ref (He.ga K "BadOrder")) p.2 K = true
  k_BadTable : ∀ p ∈ ([("LaneError", false), ("BadNumber", false), ("BadTree", false), ("BadOrder", false), ("BadTable", true), ("Stuck", false), ("Over", false), ("BadText", false)] : List (Str × Bool)), exB p.1 K = true ∧ kitB p.1 (.ref (He.ga K "BadTable")) p.2 K = true
  k_BadText : ∀ p ∈ ([("LaneError", false), ("BadNumber", false), ("BadTree", false), ("BadOrder", false), ("BadTable", false), ("Stuck", false), ("Over", false), ("BadText", true)] : List (Str × Bool)), exB p.1 K = true ∧ kitB p.1 (.ref (He.ga K "BadText")) p.2 K = true
  k_BadTree : ∀ p ∈ ([("LaneError", false), ("BadNumber", false), ("BadTree", true), ("BadOrder", false), ("BadTable", false), ("Stuck", false), ("Over", false), ("BadText", false)] : List (Str × Bool)), exB p.1 K = true ∧ kitB p.1 (.ref (He.ga K "BadTree")) p.2 K = true
  k_LaneError : ∀ p ∈ ([("LaneError", true), ("BadNumber", true), ("BadTree", true), ("BadOrder", true), ("BadTable", true), ("Stuck", true), ("Over", true), ("BadText", true)] : List (Str × Bool)), exB p.1 K = true ∧ kitB p.1 (.ref (He.ga K "LaneError")) p.2 K = true
  k_NoPlace : ∀ p ∈ ([("LaneError", false), ("BadNumber", false), ("BadTree", false), ("BadOrder", false), ("BadTable", false), ("Stuck", false), ("Over", false), ("BadText", false)] : List (Str × Bool)), exB p.1 K = true ∧ kitB p.1 (.ref (He.ga K "NoPlace")) p.2 K = true
  k_Over : ∀ p ∈ ([("LaneError", false), ("BadNumber", false), ("BadTree", false), ("BadOrder", false), ("BadTable", false), ("Stuck", false), ("Over", true), ("BadText", false)] : List (Str × Bool)), exB p.1 K = true ∧ kitB p.1 (.ref (He.ga K "Over")) p.2 K = true
  k_Stuck : ∀ p ∈ ([("LaneError", false), ("BadNumber", false), ("BadTree", false), ("BadOrder", false), ("BadTable", false), ("Stuck", true), ("Over", false), ("BadText", false)] : List (Str × Bool)), exB p.1 K = true ∧ kitB p.1 (.ref (He.ga K "Stuck")) p.2 K = true
  k_ValueError : ∀ p ∈ ([("LaneError", true), ("BadNumber", true), ("BadTree", true), ("BadOrder", true), ("BadTable", true), ("Stuck", true), ("Over", true), ("BadText", true)] : List (Str × Bool)), exB p.1 K = true ∧ kitB p.1 (.type "ValueError") p.2 K = true
  q_Reader_spot : ClsF K ["Reader"] "spot"
  q_Reader_numbers : ClsF K ["Reader"] "numbers"
  d_Reader_take : (Cls K (He.ga K "Reader") ∧ Meth K (He.ga K "Reader") "take" (He.ma K (He.ga K "Reader") "take")) ∧ ∃ fd, FunD K "take" "Reader.take" (defArgs S_Reader_take) (defBody S_Reader_take) (defScope S_Reader_take) [] [] (He.ma K (He.ga K "Reader") "take") fd
  d__law_bytes : mg "_law_bytes" = some (.ref (He.ga K "_law_bytes")) ∧ ∃ fd, FunD K "_law_bytes" "_law_bytes" (defArgs S__law_bytes) (defBody S__law_bytes) (defScope S__law_bytes) [] [] (He.ga K "_law_bytes") fd
  d__law_draw : mg "_law_draw" = some (.ref (He.ga K "_law_draw")) ∧ ∃ fd, FunD K "_law_draw" "_law_draw" (defArgs S__law_draw) (defBody S__law_draw) (defScope S__law_draw) [] [] (He.ga K "_law_draw") fd
  d__law_packed : mg "_law_packed" = some (.ref (He.ga K "_law_packed")) ∧ ∃ fd, FunD K "_law_packed" "_law_packed" (defArgs S__law_packed) (defBody S__law_packed) (defScope S__law_packed) [] [] (He.ga K "_law_packed") fd
  d__law_pick : mg "_law_pick" = some (.ref (He.ga K "_law_pick")) ∧ ∃ fd, FunD K "_law_pick" "_law_pick" (defArgs S__law_pick) (defBody S__law_pick) (defScope S__law_pick) [] [] (He.ga K "_law_pick") fd
  d__law_chain : mg "_law_chain" = some (.ref (He.ga K "_law_chain")) ∧ ∃ fd, FunD K "_law_chain" "_law_chain" (defArgs S__law_chain) (defBody S__law_chain) (defScope S__law_chain) [] [] (He.ga K "_law_chain") fd
  d__law_refusal : mg "_law_refusal" = some (.ref (He.ga K "_law_refusal")) ∧ ∃ fd, FunD K "_law_refusal" "_law_refusal" (defArgs S__law_refusal) (defBody S__law_refusal) (defScope S__law_refusal) [] [] (He.ga K "_law_refusal") fd
  d__law_table : mg "_law_table" = some (.ref (He.ga K "_law_table")) ∧ ∃ fd, FunD K "_law_table" "_law_table" (defArgs S__law_table) (defBody S__law_table) (defScope S__law_table) [] [] (He.ga K "_law_table") fd
  d__law_town : mg "_law_town" = some (.ref (He.ga K "_law_town")) ∧ ∃ fd, FunD K "_law_town" "_law_town" (defArgs S__law_town) (defBody S__law_town) (defScope S__law_town) [] [] (He.ga K "_law_town") fd
  d_chains_of : mg "chains_of" = some (.ref (He.ga K "chains_of")) ∧ ∃ fd, FunD K "chains_of" "chains_of" (defArgs S_chains_of) (defBody S_chains_of) (defScope S_chains_of) [] [] (He.ga K "chains_of") fd
  d_is_whole : mg "is_whole" = some (.ref (He.ga K "is_whole")) ∧ ∃ fd, FunD K "is_whole" "is_whole" (defArgs S_is_whole) (defBody S_is_whole) (defScope S_is_whole) [] [] (He.ga K "is_whole") fd
  d_Reader___init__ : (mg "Reader" = some (.ref (He.ga K "Reader")) ∧ Mk K (He.ga K "Reader") (He.ma K (He.ga K "Reader") "__init__")) ∧ ∃ fd, FunD K "__init__" "Reader.__init__" (defArgs S_Reader___init__) (defBody S_Reader___init__) (defScope S_Reader___init__) [] [] (He.ma K (He.ga K "Reader") "__init__") fd
  d_is_chain : mg "is_chain" = some (.ref (He.ga K "is_chain")) ∧ ∃ fd, FunD K "is_chain" "is_chain" (defArgs S_is_chain) (defBody S_is_chain) (defScope S_is_chain) [] [] (He.ga K "is_chain") fd
  d_is_table : mg "is_table" = some (.ref (He.ga K "is_table")) ∧ ∃ fd, FunD K "is_table" "is_table" (defArgs S_is_table) (defBody S_is_table) (defScope S_is_table) [] [] (He.ga K "is_table") fd
  d_look_table : mg "look_table" = some (.ref (He.ga K "look_table")) ∧ ∃ fd, FunD K "look_table" "look_table" (defArgs S_look_table) (defBody S_look_table) (defScope S_look_table) [] [] (He.ga K "look_table") fd
  d_small : mg "small" = some (.ref (He.ga K "small")) ∧ ∃ fd, FunD K "small" "small" (defArgs S_small) (defBody S_small) (defScope S_small) [] [] (He.ga K "small") fd
  d_packed : mg "packed" = some (.ref (He.ga K "packed")) ∧ ∃ fd, FunD K "packed" "packed" (defArgs S_packed) (defBody S_packed) (defScope S_packed) [] [] (He.ga K "packed") fd
  d_unpacked : mg "unpacked" = some (.ref (He.ga K "unpacked")) ∧ ∃ fd, FunD K "unpacked" "unpacked" (defArgs S_unpacked) (defBody S_unpacked) (defScope S_unpacked) [] [] (He.ga K "unpacked") fd
  d__law_read : mg "_law_read" = some (.ref (He.ga K "_law_read")) ∧ ∃ fd, FunD K "_law_read" "_law_read" (defArgs S__law_read) (defBody S__law_read) (defScope S__law_read) [] [] (He.ga K "_law_read") fd
  d_law : mg "law" = some (.ref (He.ga K "law")) ∧ ∃ fd, FunD K "law" "law" (defArgs S_law) (defBody S_law) (defScope S_law) [] [] (He.ga K "law") fd
section
variable {P : Program} {wd : World} {K : PySem.W.Frag} {mg : Str → Option Value} {base : Heap}
theorem okf_Reader_take (T : Tx K mg) {fd : FuncData} (F : FunD K "take" "Reader.take" (defArgs S_Reader_take) (defBody S_Reader_take) (defScope S_Reader_take) [] [] (He.ma K (He.ga K "Reader") "take") fd)   : FnOk P wd K mg base (L2.CX P wd) (1) (He.ma K (He.ga K "Reader") "take") fd ["self"] (SpOf K 1 f_Reader_take) := by
  refine ok_of F sc_Reader_take rfl rfl fun cdv A outer s H E hr => ?_
  have nd := sc_Reader_take.nd
  have tk : Takes (cxOf (L2.CX P wd) P wd K mg base NN_Reader_take "Reader.take" (defScope S_Reader_take) (He.ma K (He.ga K "Reader") "take") cdv A outer s H E) (fun cls d _ H => E cls d H) := takes_of rfl rfl rfl rfl
  have hx : ∀ σ, PassesAt (L2.CX P wd) (cxOf (L2.CX P wd) P wd K mg base NN_Reader_take "Reader.take" (defScope S_Reader_take) (He.ma K (He.ga K "Reader") "take") cdv A outer s H E) σ E := fun σ => passAt (W := fun cls d _ H => E cls d H) (takes_of rfl rfl rfl rfl) σ
  have hx0 : ∀ {X : Cx} (σ : L2.St), PassesAt (L2.CX X.prog X.w) X σ E0 := fun σ pins H s e s' I c => passL pins σ H s e s' I c
  have po : PassesOwn (model P wd) (cxOf (L2.CX P wd) P wd K mg base NN_Reader_take "Reader.take" (defScope S_Reader_take) (He.ma K (He.ga K "Reader") "take") cdv A outer s H E).A (cxOf (L2.CX P wd) P wd K mg base NN_Reader_take "Reader.take" (defScope S_Reader_take) (He.ma K (He.ga K "Reader") "take") cdv A outer s H E).env (cxOf (L2.CX P wd) P wd K mg base NN_Reader_take "Reader.take" (defScope S_Reader_take) (He.ma K (He.ga K "Reader") "take") cdv A outer s H E).xe := passes_of rfl
  have qq : QB (cxOf (L2.CX P wd) P wd K mg base NN_Reader_take "Reader.take" (defScope S_Reader_take) (He.ma K (He.ga K "Reader") "take") cdv A outer s H E) (fun _ => E) (defBody S_Reader_take) _ (m_Reader_take ) :=
  (qb_cons (qs_tgt (qg_tup 2 (by rfl) (qgs_cons (qg_name 1 nd) (qgs_cons (qg_name 2 nd) qgs_nil))) (q_tup (qa_cons q_int (qa_cons q_int qa_nil))))
  (qb_cons (qs_while 1000000 po (qt_val q_bl) (qb_cons (qs_if (qt_w (qw_or (qt_cmp (q_eq hr.units) (q_fld T.q_Reader_spot (q_var 0)) (q_len T.n_len (qa_cons (q_fld T.q_Reader_numbers (q_var 0)) qa_nil))) (qw_or1 (qt_cmp q_gt (q_var 2) (q_op q_pow q_int q_int))))) (qb_one (qs_raise rfl tk T.x_BadTable T.g_BadTable)) qb_nil)
  (qb_cons (qs_set 3 nd (q_sub1 (q_fld T.q_Reader_numbers (q_var 0)) (q_fld T.q_Reader_spot (q_var 0))))
  (qb_cons (qs_fldadd T.q_Reader_spot (q_var 0) q_int)
  (qb_cons (qs_aug 1 nd ip_add (q_op q_mul (q_op q_mod (q_var 3) q_int) (q_var 2)))
  (qb_cons (qs_if (qt_cmp q_lt (q_var 3) q_int) (qb_one qs_brk) qb_nil)
  (qb_one (qs_augM 2 nd q_int))))))))
  (qb_cons (qs_if (qt_w (qw_and (qt_cmp (q_eq hr.units) (q_var 3) q_int) (qw_and1 (qt_cmp q_gt (q_var 2) q_int)))) (qb_one (qs_raise rfl tk T.x_BadTable T.g_BadTable)) qb_nil)
  (qb_one (qs_ret (q_var 1))))))
  exact ⟨_, qq.ps, qq.ss⟩
theorem ok_Reader_take (T : Tx K mg)   : CalM P wd K mg base (1) "Reader" "take" 1 f_Reader_take [] := by
  obtain ⟨⟨h1, h2⟩, fd, F⟩ := T.d_Reader_take
  exact ⟨⟨_, fd, _, [], h1, h2, F.bindsN (ps := ["self"]) fun _ _ _ _ _ _ us hl => match us, hl with | [_], _ => rfl, .nil, okf_Reader_take T F  ⟩⟩
theorem okf__law_bytes (T : Tx K mg) {fd : FuncData} (F : FunD K "_law_bytes" "_law_bytes" (defArgs S__law_bytes) (defBody S__law_bytes) (defScope S__law_bytes) [] [] (He.ga K "_law_bytes") fd)   : FnOk P wd K mg base (L2.CX P wd) (1) (He.ga K "_law_bytes") fd ["number"] (SpOf K 1 f__law_bytes) := by
  refine ok_of F sc__law_bytes rfl rfl fun cdv A outer s H E hr => ?_
  have nd := sc__law_bytes.nd
  have tk : Takes (cxOf (L2.CX P wd) P wd K mg base NN__law_bytes "_law_bytes" (defScope S__law_bytes) (He.ga K "_law_bytes") cdv A outer s H E) (fun cls d _ H => E cls d H) := takes_of rfl rfl rfl rfl
  have hx : ∀ σ, PassesAt (L2.CX P wd) (cxOf (L2.CX P wd) P wd K mg base NN__law_bytes "_law_bytes" (defScope S__law_bytes) (He.ga K "_law_bytes") cdv A outer s H E) σ E := fun σ => passAt (W := fun cls d _ H => E cls d H) (takes_of rfl rfl rfl rfl) σ
  have hx0 : ∀ {X : Cx} (σ : L2.St), PassesAt (L2.CX X.prog X.w) X σ E0 := fun σ pins H s e s' I c => passL pins σ H s e s' I c
  have po : PassesOwn (model P wd) (cxOf (L2.CX P wd) P wd K mg base NN__law_bytes "_law_bytes" (defScope S__law_bytes) (He.ga K "_law_bytes") cdv A outer s H E).A (cxOf (L2.CX P wd) P wd K mg base NN__law_bytes "_law_bytes" (defScope S__law_bytes) (He.ga K "_law_bytes") cdv A outer s H E).env (cxOf (L2.CX P wd) P wd K mg base NN__law_bytes "_law_bytes" (defScope S__law_bytes) (He.ga K "_law_bytes") cdv A outer s H E).xe := passes_of rfl
  have qq : QB (cxOf (L2.CX P wd) P wd K mg base NN__law_bytes "_law_bytes" (defScope S__law_bytes) (He.ga K "_law_bytes") cdv A outer s H E) (fun _ => E) (defBody S__law_bytes) _ (m__law_bytes ) :=
  (qb_cons (qs_set 1 nd (q_H (ql_disp qa_nil)))
  (qb_cons (qs_while 1000000 po (qt_cmp q_ge (q_var 0) q_int) (qb_cons (qs_expr (q_app (q_var 1) (q_op q_add q_int (q_op q_mod (q_var 0) q_int))))
  (qb_one (qs_set 0 nd (q_op q_fdiv (q_var 0) q_int)))))
  (qb_one (qs_ret (q_L (ql_op ql_cat (q_var 1) (q_L (ql_disp (qa_cons (q_var 0) qa_nil)))))))))
  exact ⟨_, qq.ps, qq.ss⟩
theorem ok__law_bytes (T : Tx K mg)   : Cal P wd K mg base (1) "_law_bytes" 1 f__law_bytes [] := by
  obtain ⟨h1, fd, F⟩ := T.d__law_bytes
  exact ⟨⟨_, fd, _, [], h1, F.kp, F.bindsN (ps := ["number"]) fun _ _ _ _ _ _ us hl => match us, hl with | [_], _ => rfl, .nil, okf__law_bytes T F  ⟩⟩
theorem okf__law_draw (T : Tx K mg) {fd : FuncData} (F : FunD K "_law_draw" "_law_draw" (defArgs S__law_draw) (defBody S__law_draw) (defScope S__law_draw) [] [] (He.ga K "_law_draw") fd)   : FnOk P wd K mg base (L2.CX P wd) (1) (He.ga K "_law_draw") fd ["town", "many"] (SpOf K 2 f__law_draw) := by
  refine ok_of F sc__law_draw rfl rfl fun cdv A outer s H E hr => ?_
  have nd := sc__law_draw.nd
  have tk : Takes (cxOf (L2.CX P wd) P wd K mg base NN__law_draw "_law_draw" (defScope S__law_draw) (He.ga K "_law_draw") cdv A outer s H E) (fun cls d _ H => E cls d H) := takes_of rfl rfl rfl rfl
  have hx : ∀ σ, PassesAt (L2.CX P wd) (cxOf (L2.CX P wd) P wd K mg base NN__law_draw "_law_draw" (defScope S__law_draw) (He.ga K "_law_draw") cdv A outer s H E) σ E := fun σ => passAt (W := fun cls d _ H => E cls d H) (takes_of rfl rfl rfl rfl) σ
  have hx0 : ∀ {X : Cx} (σ : L2.St), PassesAt (L2.CX X.prog X.w) X σ E0 := fun σ pins H s e s' I c => passL pins σ H s e s' I c
  have po : PassesOwn (model P wd) (cxOf (L2.CX P wd) P wd K mg base NN__law_draw "_law_draw" (defScope S__law_draw) (He.ga K "_law_draw") cdv A outer s H E).A (cxOf (L2.CX P wd) P wd K mg base NN__law_draw "_law_draw" (defScope S__law_draw) (He.ga K "_law_draw") cdv A outer s H E).env (cxOf (L2.CX P wd) P wd K mg base NN__law_draw "_law_draw" (defScope S__law_draw) (He.ga K "_law_draw") cdv A outer s H E).xe := passes_of rfl
  have qq : QB (cxOf (L2.CX P wd) P wd K mg base NN__law_draw "_law_draw" (defScope S__law_draw) (He.ga K "_law_draw") cdv A outer s H E) (fun _ => E) (defBody S__law_draw) _ (m__law_draw ) :=
  (qb_cons (qs_set 2 nd (q_sub1 (q_var 0) q_int))
  (qb_cons (qs_setI (q_op q_add (q_sub1 (q_var 0) q_int) q_int) (q_var 0) q_int)
  (qb_cons (qs_set 3 nd (q_op q_mod (q_sub1 (q_var 0) q_int) (q_len T.n_len (qa_cons (q_var 2) qa_nil))))
  (qb_cons (qs_set 4 nd (q_sub1 (q_var 2) (q_var 3)))
  (qb_cons (qs_if (qt_cmp q_ge (q_var 4) q_int) (qb_cons (qs_setI (q_op q_fdiv (q_var 4) (q_var 1)) (q_var 2) (q_var 3))
  (qb_one (qs_ret (q_op q_mod (q_var 4) (q_var 1))))) qb_nil)
  (qb_cons (qs_set 5 nd (q_op q_mod (q_op q_add (q_var 4) (q_op q_mul q_int (q_sub1 (q_var 0) q_int))) q_int))
  (qb_cons (qs_set 5 nd (q_op q_mod (q_op q_pow (q_var 5) q_int) q_int))
  (qb_one (qs_ret (q_op q_mod (q_op q_fdiv (q_op q_mod (q_op q_add (q_op q_mul (q_op q_fdiv (q_var 5) q_int) q_int) (q_var 5)) q_int) q_int) (q_var 1)))))))))))
  exact ⟨_, qq.ps, qq.ss⟩
theorem ok__law_draw (T : Tx K mg)   : Cal P wd K mg base (1) "_law_draw" 2 f__law_draw [] := by
  obtain ⟨h1, fd, F⟩ := T.d__law_draw
  exact ⟨⟨_, fd, _, [], h1, F.kp, F.bindsN (ps := ["town", "many"]) fun _ _ _ _ _ _ us hl => match us, hl with | [_, _], _ => rfl, .nil, okf__law_draw T F  ⟩⟩
theorem okf__law_packed (T : Tx K mg) {fd : FuncData} (F : FunD K "_law_packed" "_law_packed" (defArgs S__law_packed) (defBody S__law_packed) (defScope S__law_packed) [] [] (He.ga K "_law_packed") fd)  (C__law_bytes : Cal P wd K mg base 1 "_law_bytes" 1 f__law_bytes []) : FnOk P wd K mg base (L2.CX P wd) (2) (He.ga K "_law_packed") fd ["ranges_of"] (SpOf K 1 f__law_packed) := by
  refine ok_of F sc__law_packed rfl rfl fun cdv A outer s H E hr => ?_
  have nd := sc__law_packed.nd
  have tk : Takes (cxOf (L2.CX P wd) P wd K mg base NN__law_packed "_law_packed" (defScope S__law_packed) (He.ga K "_law_packed") cdv A outer s H E) (fun cls d _ H => E cls d H) := takes_of rfl rfl rfl rfl
  have hx : ∀ σ, PassesAt (L2.CX P wd) (cxOf (L2.CX P wd) P wd K mg base NN__law_packed "_law_packed" (defScope S__law_packed) (He.ga K "_law_packed") cdv A outer s H E) σ E := fun σ => passAt (W := fun cls d _ H => E cls d H) (takes_of rfl rfl rfl rfl) σ
  have hx0 : ∀ {X : Cx} (σ : L2.St), PassesAt (L2.CX X.prog X.w) X σ E0 := fun σ pins H s e s' I c => passL pins σ H s e s' I c
  have po : PassesOwn (model P wd) (cxOf (L2.CX P wd) P wd K mg base NN__law_packed "_law_packed" (defScope S__law_packed) (He.ga K "_law_packed") cdv A outer s H E).A (cxOf (L2.CX P wd) P wd K mg base NN__law_packed "_law_packed" (defScope S__law_packed) (He.ga K "_law_packed") cdv A outer s H E).env (cxOf (L2.CX P wd) P wd K mg base NN__law_packed "_law_packed" (defScope S__law_packed) (He.ga K "_law_packed") cdv A outer s H E).xe := passes_of rfl
  have qq : QB (cxOf (L2.CX P wd) P wd K mg base NN__law_packed "_law_packed" (defScope S__law_packed) (He.ga K "_law_packed") cdv A outer s H E) (fun _ => E) (defBody S__law_packed) _ (m__law_packed f__law_bytes) :=
  (qb_cons (qs_set 1 nd (q_H (ql_disp qa_nil)))
  (qb_cons (qs_for po (by rfl) (qi_v (q_var 0)) (qg_tup 3 (by rfl) (qgs_cons (qg_name 2 nd) (qgs_cons (qg_name 3 nd) (qgs_cons (qg_name 4 nd) qgs_nil)))) (qb_one (qs_if (qt_cmp (q_notInU (room1 hr)) (q_var 4) (q_var 1)) (qb_one (qs_expr (q_app (q_var 1) (q_var 4)))) qb_nil)))
  (qb_cons (qs_set 5 nd (q_call C__law_bytes (hr.mono (by omega)) hx (qa_cons (q_len T.n_len (qa_cons (q_var 1) qa_nil)) qa_nil)))
  (qb_cons (qs_for po (by rfl) (qi_v (q_var 1)) (qg_name 4 nd) (qb_cons (qs_set 5 nd (q_op q_add (q_var 5) (q_call C__law_bytes (hr.mono (by omega)) hx (qa_cons (q_len T.n_len (qa_cons (q_var 4) qa_nil)) qa_nil))))
  (qb_one (qs_for po (by rfl) (qi_v (q_var 4)) (qg_tup 3 (by rfl) (qgs_cons (qg_name 7 nd) (qgs_cons (qg_name 8 nd) (qgs_cons (qg_name 9 nd) qgs_nil)))) (qb_one (qs_set 5 nd (q_op q_add (q_op q_add (q_var 5) (q_call C__law_bytes (hr.mono (by omega)) hx (qa_cons (q_op q_add (q_ifx (qt_cmp q_is (q_var 7) q_non) q_int (q_op q_add (q_op q_mul q_int (q_var 7)) q_int)) (q_ifx (qt_val (q_var 9)) q_int q_int)) qa_nil))) (q_call C__law_bytes (hr.mono (by omega)) hx (qa_cons (q_var 8) qa_nil)))))))))
  (qb_cons (qs_set 5 nd (q_op q_add (q_var 5) (q_call C__law_bytes (hr.mono (by omega)) hx (qa_cons (q_len T.n_len (qa_cons (q_var 0) qa_nil)) qa_nil))))
  (qb_cons (qs_set 6 nd q_int)
  (qb_cons (qs_for po (by rfl) (qi_v (q_var 0)) (qg_tup 3 (by rfl) (qgs_cons (qg_name 2 nd) (qgs_cons (qg_name 3 nd) (qgs_cons (qg_name 4 nd) qgs_nil)))) (qb_cons (qs_set 5 nd (q_op q_add (q_op q_add (q_var 5) (q_call C__law_bytes (hr.mono (by omega)) hx (qa_cons (q_op q_sub (q_var 2) (q_var 6)) qa_nil))) (q_call C__law_bytes (hr.mono (by omega)) hx (qa_cons (q_op q_sub (q_var 3) (q_var 2)) qa_nil))))
  (qb_cons (qs_set 5 nd (q_op q_add (q_var 5) (q_call C__law_bytes (hr.mono (by omega)) hx (qa_cons (q_index (room1 hr) (q_var 1) (q_var 4)) qa_nil))))
  (qb_one (qs_set 6 nd (q_var 3))))))
  (qb_one (qs_ret (q_var 5))))))))))
  exact ⟨_, qq.ps, qq.ss⟩
theorem ok__law_packed (T : Tx K mg)  (C__law_bytes : Cal P wd K mg base 1 "_law_bytes" 1 f__law_bytes []) : Cal P wd K mg base (2) "_law_packed" 1 f__law_packed [] := by
  obtain ⟨h1, fd, F⟩ := T.d__law_packed
  exact ⟨⟨_, fd, _, [], h1, F.kp, F.bindsN (ps := ["ranges_of"]) fun _ _ _ _ _ _ us hl => match us, hl with | [_], _ => rfl, .nil, okf__law_packed T F  C__law_bytes⟩⟩
theorem okf__law_pick (T : Tx K mg) {fd : FuncData} (F : FunD K "_law_pick" "_law_pick" (defArgs S__law_pick) (defBody S__law_pick) (defScope S__law_pick) [] [] (He.ga K "_law_pick") fd)  (C__law_draw : Cal P wd K mg base 1 "_law_draw" 2 f__law_draw []) : FnOk P wd K mg base (L2.CX P wd) (2) (He.ga K "_law_pick") fd ["town", "some"] (SpOf K 2 f__law_pick) := by
  refine ok_of F sc__law_pick rfl rfl fun cdv A outer s H E hr => ?_
  have nd := sc__law_pick.nd
  have tk : Takes (cxOf (L2.CX P wd) P wd K mg base NN__law_pick "_law_pick" (defScope S__law_pick) (He.ga K "_law_pick") cdv A outer s H E) (fun cls d _ H => E cls d H) := takes_of rfl rfl rfl rfl
  have hx : ∀ σ, PassesAt (L2.CX P wd) (cxOf (L2.CX P wd) P wd K mg base NN__law_pick "_law_pick" (defScope S__law_pick) (He.ga K "_law_pick") cdv A outer s H E) σ E := fun σ => passAt (W := fun cls d _ H => E cls d H) (takes_of rfl rfl rfl rfl) σ
  have hx0 : ∀ {X : Cx} (σ : L2.St), PassesAt (L2.CX X.prog X.w) X σ E0 := fun σ pins H s e s' I c => passL pins σ H s e s' I c
  have po : PassesOwn (model P wd) (cxOf (L2.CX P wd) P wd K mg base NN__law_pick "_law_pick" (defScope S__law_pick) (He.ga K "_law_pick") cdv A outer s H E).A (cxOf (L2.CX P wd) P wd K mg base NN__law_pick "_law_pick" (defScope S__law_pick) (He.ga K "_law_pick") cdv A outer s H E).env (cxOf (L2.CX P wd) P wd K mg base NN__law_pick "_law_pick" (defScope S__law_pick) (He.ga K "_law_pick") cdv A outer s H E).xe := passes_of rfl
  have qq : QB (cxOf (L2.CX P wd) P wd K mg base NN__law_pick "_law_pick" (defScope S__law_pick) (He.ga K "_law_pick") cdv A outer s H E) (fun _ => E) (defBody S__law_pick) _ (m__law_pick f__law_draw) :=
  (qb_one (qs_ret (q_sub1 (q_var 1) (q_call C__law_draw (hr.mono (by omega)) hx (qa_cons (q_var 0) (qa_cons (q_len T.n_len (qa_cons (q_var 1) qa_nil)) qa_nil))))))
  exact ⟨_, qq.ps, qq.ss⟩
theorem ok__law_pick (T : Tx K mg)  (C__law_draw : Cal P wd K mg base 1 "_law_draw" 2 f__law_draw []) : Cal P wd K mg base (2) "_law_pick" 2 f__law_pick [] := by
  obtain ⟨h1, fd, F⟩ := T.d__law_pick
  exact ⟨⟨_, fd, _, [], h1, F.kp, F.bindsN (ps := ["town", "some"]) fun _ _ _ _ _ _ us hl => match us, hl with | [_, _], _ => rfl, .nil, okf__law_pick T F  C__law_draw⟩⟩
theorem okf__law_chain (T : Tx K mg) {fd : FuncData} (F : FunD K "_law_chain" "_law_chain" (defArgs S__law_chain) (defBody S__law_chain) (defScope S__law_chain) [] [] (He.ga K "_law_chain") fd)  (C__law_draw : Cal P wd K mg base 1 "_law_draw" 2 f__law_draw []) (C__law_pick : Cal P wd K mg base 2 "_law_pick" 2 f__law_pick []) : FnOk P wd K mg base (L2.CX P wd) (3) (He.ga K "_law_chain") fd ["town"] (SpOf K 1 f__law_chain) := by
  refine ok_of F sc__law_chain rfl rfl fun cdv A outer s H E hr => ?_
  have nd := sc__law_chain.nd
  have tk : Takes (cxOf (L2.CX P wd) P wd K mg base NN__law_chain "_law_chain" (defScope S__law_chain) (He.ga K "_law_chain") cdv A outer s H E) (fun cls d _ H => E cls d H) := takes_of rfl rfl rfl rfl
  have hx : ∀ σ, PassesAt (L2.CX P wd) (cxOf (L2.CX P wd) P wd K mg base NN__law_chain "_law_chain" (defScope S__law_chain) (He.ga K "_law_chain") cdv A outer s H E) σ E := fun σ => passAt (W := fun cls d _ H => E cls d H) (takes_of rfl rfl rfl rfl) σ
  have hx0 : ∀ {X : Cx} (σ : L2.St), PassesAt (L2.CX X.prog X.w) X σ E0 := fun σ pins H s e s' I c => passL pins σ H s e s' I c
  have po : PassesOwn (model P wd) (cxOf (L2.CX P wd) P wd K mg base NN__law_chain "_law_chain" (defScope S__law_chain) (He.ga K "_law_chain") cdv A outer s H E).A (cxOf (L2.CX P wd) P wd K mg base NN__law_chain "_law_chain" (defScope S__law_chain) (He.ga K "_law_chain") cdv A outer s H E).env (cxOf (L2.CX P wd) P wd K mg base NN__law_chain "_law_chain" (defScope S__law_chain) (He.ga K "_law_chain") cdv A outer s H E).xe := passes_of rfl
  have qq : QB (cxOf (L2.CX P wd) P wd K mg base NN__law_chain "_law_chain" (defScope S__law_chain) (He.ga K "_law_chain") cdv A outer s H E) (fun _ => E) (defBody S__law_chain) _ (m__law_chain f__law_draw f__law_pick) :=
  (qb_cons (qs_set 1 nd (q_H (ql_disp qa_nil)))
  (qb_cons (qs_for po (by rfl) (qi_r1 T.n_range (qa_cons (q_op q_add q_int (q_call C__law_draw (hr.mono (by omega)) hx (qa_cons (q_var 0) (qa_cons q_int qa_nil)))) qa_nil)) (qg_name 2 nd) (qb_one (qs_expr (q_app (q_var 1) (q_tup (qa_cons (q_call C__law_pick (hr.mono (by omega)) hx (qa_cons (q_var 0) (qa_cons (q_L (ql_disp (qa_cons q_non (qa_cons q_int (qa_cons q_int (qa_cons q_int qa_nil)))))) qa_nil))) (qa_cons (q_call C__law_pick (hr.mono (by omega)) hx (qa_cons (q_var 0) (qa_cons (q_L (ql_disp (qa_cons q_int (qa_cons q_int (qa_cons q_int (qa_cons q_int qa_nil)))))) qa_nil))) (qa_cons (q_cmp (q_eq hr.units) (q_call C__law_draw (hr.mono (by omega)) hx (qa_cons (q_var 0) (qa_cons q_int qa_nil))) q_int) qa_nil))))))))
  (qb_one (qs_ret (q_tupleOf T.n_tuple (qa_cons (q_var 1) qa_nil))))))
  exact ⟨_, qq.ps, qq.ss⟩
theorem ok__law_chain (T : Tx K mg)  (C__law_draw : Cal P wd K mg base 1 "_law_draw" 2 f__law_draw []) (C__law_pick : Cal P wd K mg base 2 "_law_pick" 2 f__law_pick []) : Cal P wd K mg base (3) "_law_chain" 1 f__law_chain [] := by
  obtain ⟨h1, fd, F⟩ := T.d__law_chain
  exact ⟨⟨_, fd, _, [], h1, F.kp, F.bindsN (ps := ["town"]) fun _ _ _ _ _ _ us hl => match us, hl with | [_], _ => rfl, .nil, okf__law_chain T F  C__law_draw C__law_pick⟩⟩
theorem okf__law_refusal (T : Tx K mg) {fd : FuncData} (F : FunD K "_law_refusal" "_law_refusal" (defArgs S__law_refusal) (defBody S__law_refusal) (defScope S__law_refusal) [] [] (He.ga K "_law_refusal") fd)   : FnOk P wd K mg base (L2.CX P wd) (1) (He.ga K "_law_refusal") fd ["caught"] (SpOf K 1 f__law_refusal) := by
  refine ok_of F sc__law_refusal rfl rfl fun cdv A outer s H E hr => ?_
  have nd := sc__law_refusal.nd
  have tk : Takes (cxOf (L2.CX P wd) P wd K mg base NN__law_refusal "_law_refusal" (defScope S__law_refusal) (He.ga K "_law_refusal") cdv A outer s H E) (fun cls d _ H => E cls d H) := takes_of rfl rfl rfl rfl
  have hx : ∀ σ, PassesAt (L2.CX P wd) (cxOf (L2.CX P wd) P wd K mg base NN__law_refusal "_law_refusal" (defScope S__law_refusal) (He.ga K "_law_refusal") cdv A outer s H E) σ E := fun σ => passAt (W := fun cls d _ H => E cls d H) (takes_of rfl rfl rfl rfl) σ
  have hx0 : ∀ {X : Cx} (σ : L2.St), PassesAt (L2.CX X.prog X.w) X σ E0 := fun σ pins H s e s' I c => passL pins σ H s e s' I c
  have po : PassesOwn (model P wd) (cxOf (L2.CX P wd) P wd K mg base NN__law_refusal "_law_refusal" (defScope S__law_refusal) (He.ga K "_law_refusal") cdv A outer s H E).A (cxOf (L2.CX P wd) P wd K mg base NN__law_refusal "_law_refusal" (defScope S__law_refusal) (He.ga K "_law_refusal") cdv A outer s H E).env (cxOf (L2.CX P wd) P wd K mg base NN__law_refusal "_law_refusal" (defScope S__law_refusal) (He.ga K "_law_refusal") cdv A outer s H E).xe := passes_of rfl
  have qq : QB (cxOf (L2.CX P wd) P wd K mg base NN__law_refusal "_law_refusal" (defScope S__law_refusal) (He.ga K "_law_refusal") cdv A outer s H E) (fun _ => E) (defBody S__law_refusal) _ (m__law_refusal ) :=
  (qb_cons (qs_set 1 nd (q_L (ql_disp (qa_cons (q_isX T.n_isinstance T.g_BadNumber T.k_BadNumber (q_var 0)) (qa_cons (q_isX T.n_isinstance T.g_BadTree T.k_BadTree (q_var 0)) (qa_cons (q_isX T.n_isinstance T.g_BadOrder T.k_BadOrder (q_var 0)) qa_nil))))))
  (qb_cons (qs_set 1 nd (q_L (ql_op ql_cat (q_var 1) (q_L (ql_disp (qa_cons (q_isX T.n_isinstance T.g_BadTable T.k_BadTable (q_var 0)) (qa_cons (q_isX T.n_isinstance T.g_NoPlace T.k_NoPlace (q_var 0)) (qa_cons (q_isX T.n_isinstance T.g_Stuck T.k_Stuck (q_var 0)) qa_nil))))))))
  (qb_cons (qs_set 1 nd (q_L (ql_op ql_cat (q_var 1) (q_L (ql_disp (qa_cons (q_isX T.n_isinstance T.g_Over T.k_Over (q_var 0)) (qa_cons (q_isX T.n_isinstance T.g_BadText T.k_BadText (q_var 0)) qa_nil)))))))
  (qb_cons (qs_if (qt_w (qw_or (qt_cmp (q_ne hr.units) (q_count (room1 hr) (q_var 1) q_bl) q_int) (qw_or (qt_not (qt_val (q_isX T.n_isinstance T.g_LaneError T.k_LaneError (q_var 0)))) (qw_or1 (qt_not (qt_val (q_isXb T.n_isinstance T.n_ValueError T.k_ValueError (q_var 0)))))))) (qb_one (qs_ret q_str)) qb_nil)
  (qb_one (qs_ret (q_sub1 (q_L (ql_disp (qa_cons q_str (qa_cons q_str (qa_cons q_str (qa_cons q_str (qa_cons q_str (qa_cons q_str (qa_cons q_str (qa_cons q_str qa_nil)))))))))) (q_index (room1 hr) (q_var 1) q_bl))))))))
  exact ⟨_, qq.ps, qq.ss⟩
theorem ok__law_refusal (T : Tx K mg)   : Cal P wd K mg base (1) "_law_refusal" 1 f__law_refusal [] := by
  obtain ⟨h1, fd, F⟩ := T.d__law_refusal
  exact ⟨⟨_, fd, _, [], h1, F.kp, F.bindsN (ps := ["caught"]) fun _ _ _ _ _ _ us hl => match us, hl with | [_], _ => rfl, .nil, okf__law_refusal T F  ⟩⟩
theorem okf__law_table (T : Tx K mg) {fd : FuncData} (F : FunD K "_law_table" "_law_table" (defArgs S__law_table) (defBody S__law_table) (defScope S__law_table) [] [] (He.ga K "_law_table") fd)  (C__law_draw : Cal P wd K mg base 1 "_law_draw" 2 f__law_draw []) (C__law_chain : Cal P wd K mg base 3 "_law_chain" 1 f__law_chain []) (C__law_pick : Cal P wd K mg base 2 "_law_pick" 2 f__law_pick []) : FnOk P wd K mg base (L2.CX P wd) (4) (He.ga K "_law_table") fd ["town"] (SpOf K 1 f__law_table) := by
  refine ok_of F sc__law_table rfl rfl fun cdv A outer s H E hr => ?_
  have nd := sc__law_table.nd
  have tk : Takes (cxOf (L2.CX P wd) P wd K mg base NN__law_table "_law_table" (defScope S__law_table) (He.ga K "_law_table") cdv A outer s H E) (fun cls d _ H => E cls d H) := takes_of rfl rfl rfl rfl
  have hx : ∀ σ, PassesAt (L2.CX P wd) (cxOf (L2.CX P wd) P wd K mg base NN__law_table "_law_table" (defScope S__law_table) (He.ga K "_law_table") cdv A outer s H E) σ E := fun σ => passAt (W := fun cls d _ H => E cls d H) (takes_of rfl rfl rfl rfl) σ
  have hx0 : ∀ {X : Cx} (σ : L2.St), PassesAt (L2.CX X.prog X.w) X σ E0 := fun σ pins H s e s' I c => passL pins σ H s e s' I c
  have po : PassesOwn (model P wd) (cxOf (L2.CX P wd) P wd K mg base NN__law_table "_law_table" (defScope S__law_table) (He.ga K "_law_table") cdv A outer s H E).A (cxOf (L2.CX P wd) P wd K mg base NN__law_table "_law_table" (defScope S__law_table) (He.ga K "_law_table") cdv A outer s H E).env (cxOf (L2.CX P wd) P wd K mg base NN__law_table "_law_table" (defScope S__law_table) (He.ga K "_law_table") cdv A outer s H E).xe := passes_of rfl
  have qq : QB (cxOf (L2.CX P wd) P wd K mg base NN__law_table "_law_table" (defScope S__law_table) (He.ga K "_law_table") cdv A outer s H E) (fun _ => E) (defBody S__law_table) _ (m__law_table f__law_draw f__law_chain f__law_pick) :=
  (qb_cons (by exact qs_setLc 1 (by rfl) nd (qi_r1 T.n_range (qa_cons (q_op q_add q_int (q_call C__law_draw (hr.mono (by omega)) hx (qa_cons (q_var 0) (qa_cons q_int qa_nil)))) qa_nil)) (blkOk_by (own := [("k", 4)]) (N := NN__law_table) (sc := defScope S__law_table) (by decide +kernel)) (fun _ _ _ _ _ => (qg_name 4 nd)) (fun _ _ _ _ _ => qts_nil) (fun _ _ _ _ _ => (q_call C__law_chain (hr.mono (by omega)) hx0 (qa_cons (q_var 0) qa_nil))) eL s_L (sw_true rfl rfl rfl (by decide +kernel)))
  (qb_cons (qs_set 2 nd (q_H (ql_disp qa_nil)))
  (qb_cons (qs_set 3 nd q_int)
  (qb_cons (qs_for po (by rfl) (qi_r1 T.n_range (qa_cons (q_call C__law_draw (hr.mono (by omega)) hx (qa_cons (q_var 0) (qa_cons q_int qa_nil))) qa_nil)) (qg_name 4 nd) (qb_cons (qs_set 5 nd (q_op q_add (q_var 3) (q_call C__law_pick (hr.mono (by omega)) hx (qa_cons (q_var 0) (qa_cons (q_L (ql_disp (qa_cons q_int (qa_cons q_int (qa_cons q_int (qa_cons q_int (qa_cons q_int (qa_cons (q_call C__law_draw (hr.mono (by omega)) hx (qa_cons (q_var 0) (qa_cons q_int qa_nil))) qa_nil)))))))) qa_nil)))))
  (qb_cons (qs_set 3 nd (q_op q_add (q_op q_add (q_var 5) q_int) (q_call C__law_pick (hr.mono (by omega)) hx (qa_cons (q_var 0) (qa_cons (q_L (ql_disp (qa_cons q_int (qa_cons q_int (qa_cons q_int (qa_cons q_int (qa_cons (q_call C__law_draw (hr.mono (by omega)) hx (qa_cons (q_var 0) (qa_cons q_int qa_nil))) qa_nil))))))) qa_nil)))))
  (qb_one (qs_expr (q_app (q_var 2) (q_tup (qa_cons (q_var 5) (qa_cons (q_var 3) (qa_cons (q_call C__law_pick (hr.mono (by omega)) hx (qa_cons (q_var 0) (qa_cons (q_var 1) qa_nil))) qa_nil))))))))))
  (qb_one (qs_ret (q_F (q_var 2))))))))
  exact ⟨_, qq.ps, qq.ss⟩
theorem ok__law_table (T : Tx K mg)  (C__law_draw : Cal P wd K mg base 1 "_law_draw" 2 f__law_draw []) (C__law_chain : Cal P wd K mg base 3 "_law_chain" 1 f__law_chain []) (C__law_pick : Cal P wd K mg base 2 "_law_pick" 2 f__law_pick []) : Cal P wd K mg base (4) "_law_table" 1 f__law_table [] := by
  obtain ⟨h1, fd, F⟩ := T.d__law_table
  exact ⟨⟨_, fd, _, [], h1, F.kp, F.bindsN (ps := ["town"]) fun _ _ _ _ _ _ us hl => match us, hl with | [_], _ => rfl, .nil, okf__law_table T F  C__law_draw C__law_chain C__law_pick⟩⟩
theorem okf__law_town (T : Tx K mg) {fd : FuncData} (F : FunD K "_law_town" "_law_town" (defArgs S__law_town) (defBody S__law_town) (defScope S__law_town) [] [] (He.ga K "_law_town") fd)   : FnOk P wd K mg base (L2.CX P wd) (1) (He.ga K "_law_town") fd ["script"] (SpOf K 1 f__law_town) := by
  refine ok_of F sc__law_town rfl rfl fun cdv A outer s H E hr => ?_
  have nd := sc__law_town.nd
  have tk : Takes (cxOf (L2.CX P wd) P wd K mg base NN__law_town "_law_town" (defScope S__law_town) (He.ga K "_law_town") cdv A outer s H E) (fun cls d _ H => E cls d H) := takes_of rfl rfl rfl rfl
  have hx : ∀ σ, PassesAt (L2.CX P wd) (cxOf (L2.CX P wd) P wd K mg base NN__law_town "_law_town" (defScope S__law_town) (He.ga K "_law_town") cdv A outer s H E) σ E := fun σ => passAt (W := fun cls d _ H => E cls d H) (takes_of rfl rfl rfl rfl) σ
  have hx0 : ∀ {X : Cx} (σ : L2.St), PassesAt (L2.CX X.prog X.w) X σ E0 := fun σ pins H s e s' I c => passL pins σ H s e s' I c
  have po : PassesOwn (model P wd) (cxOf (L2.CX P wd) P wd K mg base NN__law_town "_law_town" (defScope S__law_town) (He.ga K "_law_town") cdv A outer s H E).A (cxOf (L2.CX P wd) P wd K mg base NN__law_town "_law_town" (defScope S__law_town) (He.ga K "_law_town") cdv A outer s H E).env (cxOf (L2.CX P wd) P wd K mg base NN__law_town "_law_town" (defScope S__law_town) (He.ga K "_law_town") cdv A outer s H E).xe := passes_of rfl
  have qq : QB (cxOf (L2.CX P wd) P wd K mg base NN__law_town "_law_town" (defScope S__law_town) (He.ga K "_law_town") cdv A outer s H E) (fun _ => E) (defBody S__law_town) _ (m__law_town ) :=
  (qb_one (qs_ret (q_H (ql_disp (qa_cons (q_ifx (qt_cmp (q_ne hr.units) (q_var 0) (q_L (ql_disp qa_nil))) (q_H (ql_listOf T.n_list (qa_cons (q_var 0) qa_nil))) (q_H (ql_disp (qa_cons q_int qa_nil)))) (qa_cons q_int qa_nil))))))
  exact ⟨_, qq.ps, qq.ss⟩
theorem ok__law_town (T : Tx K mg)   : Cal P wd K mg base (1) "_law_town" 1 f__law_town [] := by
  obtain ⟨h1, fd, F⟩ := T.d__law_town
  exact ⟨⟨_, fd, _, [], h1, F.kp, F.bindsN (ps := ["script"]) fun _ _ _ _ _ _ us hl => match us, hl with | [_], _ => rfl, .nil, okf__law_town T F  ⟩⟩
theorem okf_chains_of (T : Tx K mg) {fd : FuncData} (F : FunD K "chains_of" "chains_of" (defArgs S_chains_of) (defBody S_chains_of) (defScope S_chains_of) [] [] (He.ga K "chains_of") fd)   : FnOk P wd K mg base (L2.CX P wd) (1) (He.ga K "chains_of") fd ["table"] (SpOf K 1 f_chains_of) := by
  refine ok_of F sc_chains_of rfl rfl fun cdv A outer s H E hr => ?_
  have nd := sc_chains_of.nd
  have tk : Takes (cxOf (L2.CX P wd) P wd K mg base NN_chains_of "chains_of" (defScope S_chains_of) (He.ga K "chains_of") cdv A outer s H E) (fun cls d _ H => E cls d H) := takes_of rfl rfl rfl rfl
  have hx : ∀ σ, PassesAt (L2.CX P wd) (cxOf (L2.CX P wd) P wd K mg base NN_chains_of "chains_of" (defScope S_chains_of) (He.ga K "chains_of") cdv A outer s H E) σ E := fun σ => passAt (W := fun cls d _ H => E cls d H) (takes_of rfl rfl rfl rfl) σ
  have hx0 : ∀ {X : Cx} (σ : L2.St), PassesAt (L2.CX X.prog X.w) X σ E0 := fun σ pins H s e s' I c => passL pins σ H s e s' I c
  have po : PassesOwn (model P wd) (cxOf (L2.CX P wd) P wd K mg base NN_chains_of "chains_of" (defScope S_chains_of) (He.ga K "chains_of") cdv A outer s H E).A (cxOf (L2.CX P wd) P wd K mg base NN_chains_of "chains_of" (defScope S_chains_of) (He.ga K "chains_of") cdv A outer s H E).env (cxOf (L2.CX P wd) P wd K mg base NN_chains_of "chains_of" (defScope S_chains_of) (He.ga K "chains_of") cdv A outer s H E).xe := passes_of rfl
  have qq : QB (cxOf (L2.CX P wd) P wd K mg base NN_chains_of "chains_of" (defScope S_chains_of) (He.ga K "chains_of") cdv A outer s H E) (fun _ => E) (defBody S_chains_of) _ (m_chains_of ) :=
  (qb_cons (qs_set 1 nd (q_H (ql_disp qa_nil)))
  (qb_cons (qs_for po (by rfl) (qi_v (q_var 0)) (qg_tup 3 (by rfl) (qgs_cons (qg_name 2 nd) (qgs_cons (qg_name 3 nd) (qgs_cons (qg_name 4 nd) qgs_nil)))) (qb_one (qs_if (qt_cmp (q_notInU (room1 hr)) (q_var 4) (q_var 1)) (qb_one (qs_expr (q_app (q_var 1) (q_var 4)))) qb_nil)))
  (qb_one (qs_ret (q_F (q_var 1))))))
  exact ⟨_, qq.ps, qq.ss⟩
theorem ok_chains_of (T : Tx K mg)   : Cal P wd K mg base (1) "chains_of" 1 f_chains_of [] := by
  obtain ⟨h1, fd, F⟩ := T.d_chains_of
  exact ⟨⟨_, fd, _, [], h1, F.kp, F.bindsN (ps := ["table"]) fun _ _ _ _ _ _ us hl => match us, hl with | [_], _ => rfl, .nil, okf_chains_of T F  ⟩⟩
theorem okf_is_whole (T : Tx K mg) {fd : FuncData} (F : FunD K "is_whole" "is_whole" (defArgs S_is_whole) (defBody S_is_whole) (defScope S_is_whole) [] [] (He.ga K "is_whole") fd)   : FnOk P wd K mg base (L2.CX P wd) (1) (He.ga K "is_whole") fd ["thing", "low", "high"] (SpOf K 3 f_is_whole) := by
  refine ok_of F sc_is_whole rfl rfl fun cdv A outer s H E hr => ?_
  have nd := sc_is_whole.nd
  have tk : Takes (cxOf (L2.CX P wd) P wd K mg base NN_is_whole "is_whole" (defScope S_is_whole) (He.ga K "is_whole") cdv A outer s H E) (fun cls d _ H => E cls d H) := takes_of rfl rfl rfl rfl
  have hx : ∀ σ, PassesAt (L2.CX P wd) (cxOf (L2.CX P wd) P wd K mg base NN_is_whole "is_whole" (defScope S_is_whole) (He.ga K "is_whole") cdv A outer s H E) σ E := fun σ => passAt (W := fun cls d _ H => E cls d H) (takes_of rfl rfl rfl rfl) σ
  have hx0 : ∀ {X : Cx} (σ : L2.St), PassesAt (L2.CX X.prog X.w) X σ E0 := fun σ pins H s e s' I c => passL pins σ H s e s' I c
  have po : PassesOwn (model P wd) (cxOf (L2.CX P wd) P wd K mg base NN_is_whole "is_whole" (defScope S_is_whole) (He.ga K "is_whole") cdv A outer s H E).A (cxOf (L2.CX P wd) P wd K mg base NN_is_whole "is_whole" (defScope S_is_whole) (He.ga K "is_whole") cdv A outer s H E).env (cxOf (L2.CX P wd) P wd K mg base NN_is_whole "is_whole" (defScope S_is_whole) (He.ga K "is_whole") cdv A outer s H E).xe := passes_of rfl
  have qq : QB (cxOf (L2.CX P wd) P wd K mg base NN_is_whole "is_whole" (defScope S_is_whole) (He.ga K "is_whole") cdv A outer s H E) (fun _ => E) (defBody S_is_whole) _ (m_is_whole ) :=
  (qb_one (qs_ret (q_and (q_isi .int T.n_isinstance T.n_int (q_var 0)) (q_and (q_not (q_isi .bool T.n_isinstance T.n_bool (q_var 0))) (q_one (q_chain q_le q_le (q_var 1) (q_var 0) (q_var 2)))))))
  exact ⟨_, qq.ps, qq.ss⟩
theorem ok_is_whole (T : Tx K mg)   : Cal P wd K mg base (1) "is_whole" 3 f_is_whole [] := by
  obtain ⟨h1, fd, F⟩ := T.d_is_whole
  exact ⟨⟨_, fd, _, [], h1, F.kp, F.bindsN (ps := ["thing", "low", "high"]) fun _ _ _ _ _ _ us hl => match us, hl with | [_, _, _], _ => rfl, .nil, okf_is_whole T F  ⟩⟩
theorem okf_Reader___init__ (T : Tx K mg) {fd : FuncData} (F : FunD K "__init__" "Reader.__init__" (defArgs S_Reader___init__) (defBody S_Reader___init__) (defScope S_Reader___init__) [] [] (He.ma K (He.ga K "Reader") "__init__") fd)  (C_is_whole : Cal P wd K mg base 1 "is_whole" 3 f_is_whole []) : FnOk P wd K mg base (L2.CX P wd) (2) (He.ma K (He.ga K "Reader") "__init__") fd ["self", "numbers"] (SpOf K 2 f_Reader___init__) := by
  refine ok_of F sc_Reader___init__ rfl rfl fun cdv A outer s H E hr => ?_
  have nd := sc_Reader___init__.nd
  have tk : Takes (cxOf (L2.CX P wd) P wd K mg base NN_Reader___init__ "Reader.__init__" (defScope S_Reader___init__) (He.ma K (He.ga K "Reader") "__init__") cdv A outer s H E) (fun cls d _ H => E cls d H) := takes_of rfl rfl rfl rfl
  have hx : ∀ σ, PassesAt (L2.CX P wd) (cxOf (L2.CX P wd) P wd K mg base NN_Reader___init__ "Reader.__init__" (defScope S_Reader___init__) (He.ma K (He.ga K "Reader") "__init__") cdv A outer s H E) σ E := fun σ => passAt (W := fun cls d _ H => E cls d H) (takes_of rfl rfl rfl rfl) σ
  have hx0 : ∀ {X : Cx} (σ : L2.St), PassesAt (L2.CX X.prog X.w) X σ E0 := fun σ pins H s e s' I c => passL pins σ H s e s' I c
  have po : PassesOwn (model P wd) (cxOf (L2.CX P wd) P wd K mg base NN_Reader___init__ "Reader.__init__" (defScope S_Reader___init__) (He.ma K (He.ga K "Reader") "__init__") cdv A outer s H E).A (cxOf (L2.CX P wd) P wd K mg base NN_Reader___init__ "Reader.__init__" (defScope S_Reader___init__) (He.ma K (He.ga K "Reader") "__init__") cdv A outer s H E).env (cxOf (L2.CX P wd) P wd K mg base NN_Reader___init__ "Reader.__init__" (defScope S_Reader___init__) (He.ma K (He.ga K "Reader") "__init__") cdv A outer s H E).xe := passes_of rfl
  have qq : QB (cxOf (L2.CX P wd) P wd K mg base NN_Reader___init__ "Reader.__init__" (defScope S_Reader___init__) (He.ma K (He.ga K "Reader") "__init__") cdv A outer s H E) (fun _ => E) (defBody S_Reader___init__) _ (m_Reader___init__ f_is_whole) :=
  (qb_cons (qs_set 2 nd (q_and (q_isi .list T.n_isinstance T.n_list (q_var 1)) (q_one (q_all (by rfl) T.n_all (qa_cons (q_L (by exact ql_comp (by rfl) nd (qi_v (q_var 1)) (blkOk_by (own := [("one", 3)]) (N := NN_Reader___init__) (sc := defScope S_Reader___init__) (by decide +kernel)) (fun _ _ _ _ _ => (qg_name 3 nd)) (fun _ _ _ _ _ => qts_nil) (fun _ _ _ _ _ => (q_call C_is_whole (hr.mono (by omega)) hx0 (qa_cons (q_var 3) (qa_cons q_int (qa_cons q_int qa_nil))))))) qa_nil)))))
  (qb_cons (qs_if (qt_not (qt_val (q_var 2))) (qb_one (qs_raise rfl tk T.x_BadTable T.g_BadTable)) qb_nil)
  (qb_cons (qs_fld T.q_Reader_numbers (q_var 1) (q_var 0))
  (qb_one (qs_fld T.q_Reader_spot q_int (q_var 0))))))
  exact ⟨_, qq.ps, qq.ss⟩
theorem ok_Reader___init__ (T : Tx K mg)  (C_is_whole : Cal P wd K mg base 1 "is_whole" 3 f_is_whole []) : CalC P wd K mg base (2) "Reader" 2 f_Reader___init__ [] := by
  obtain ⟨⟨h1, h2⟩, fd, F⟩ := T.d_Reader___init__
  exact ⟨⟨_, fd, _, [], h1, h2, F.bindsN (ps := ["self", "numbers"]) fun _ _ _ _ _ _ us hl => match us, hl with | [_, _], _ => rfl, .nil, okf_Reader___init__ T F  C_is_whole⟩⟩
theorem okf_is_chain (T : Tx K mg) {fd : FuncData} (F : FunD K "is_chain" "is_chain" (defArgs S_is_chain) (defBody S_is_chain) (defScope S_is_chain) [] [] (He.ga K "is_chain") fd)  (C_is_whole : Cal P wd K mg base 1 "is_whole" 3 f_is_whole []) : FnOk P wd K mg base (L2.CX P wd) (2) (He.ga K "is_chain") fd ["chain"] (SpOf K 1 f_is_chain) := by
  refine ok_of F sc_is_chain rfl rfl fun cdv A outer s H E hr => ?_
  have nd := sc_is_chain.nd
  have tk : Takes (cxOf (L2.CX P wd) P wd K mg base NN_is_chain "is_chain" (defScope S_is_chain) (He.ga K "is_chain") cdv A outer s H E) (fun cls d _ H => E cls d H) := takes_of rfl rfl rfl rfl
  have hx : ∀ σ, PassesAt (L2.CX P wd) (cxOf (L2.CX P wd) P wd K mg base NN_is_chain "is_chain" (defScope S_is_chain) (He.ga K "is_chain") cdv A outer s H E) σ E := fun σ => passAt (W := fun cls d _ H => E cls d H) (takes_of rfl rfl rfl rfl) σ
  have hx0 : ∀ {X : Cx} (σ : L2.St), PassesAt (L2.CX X.prog X.w) X σ E0 := fun σ pins H s e s' I c => passL pins σ H s e s' I c
  have po : PassesOwn (model P wd) (cxOf (L2.CX P wd) P wd K mg base NN_is_chain "is_chain" (defScope S_is_chain) (He.ga K "is_chain") cdv A outer s H E).A (cxOf (L2.CX P wd) P wd K mg base NN_is_chain "is_chain" (defScope S_is_chain) (He.ga K "is_chain") cdv A outer s H E).env (cxOf (L2.CX P wd) P wd K mg base NN_is_chain "is_chain" (defScope S_is_chain) (He.ga K "is_chain") cdv A outer s H E).xe := passes_of rfl
  have qq : QB (cxOf (L2.CX P wd) P wd K mg base NN_is_chain "is_chain" (defScope S_is_chain) (He.ga K "is_chain") cdv A outer s H E) (fun _ => E) (defBody S_is_chain) _ (m_is_chain f_is_whole) :=
  (qb_cons (qs_if (qt_w (qw_or (qt_not (qt_val (q_isi .tuple T.n_isinstance T.n_tuple (q_var 0)))) (qw_or1 (qt_cmp (q_eq hr.units) (q_var 0) (q_tup qa_nil))))) (qb_one (qs_ret q_bl)) qb_nil)
  (qb_cons (qs_for po (by rfl) (qi_v (q_var 0)) (qg_name 1 nd) (qb_cons (qs_if (qt_w (qw_or (qt_not (qt_val (q_isi .tuple T.n_isinstance T.n_tuple (q_var 1)))) (qw_or (qt_cmp (q_ne hr.units) (q_len T.n_len (qa_cons (q_var 1) qa_nil)) q_int) (qw_or1 (qt_not (qt_val (q_call C_is_whole (hr.mono (by omega)) hx (qa_cons (q_sub1 (q_var 1) q_int) (qa_cons q_int (qa_cons (q_gint T.c_MOST_PLACE) qa_nil)))))))))) (qb_one (qs_ret q_bl)) qb_nil)
  (qb_one (qs_if (qt_w (qw_or (qt_w (qw_and (qt_cmp q_isNot (q_sub1 (q_var 1) q_int) q_non) (qw_and1 (qt_not (qt_val (q_call C_is_whole (hr.mono (by omega)) hx (qa_cons (q_sub1 (q_var 1) q_int) (qa_cons q_int (qa_cons (q_op q_sub (q_gint T.c_KINDS) q_int) qa_nil))))))))) (qw_or1 (qt_not (qt_val (q_isi .bool T.n_isinstance T.n_bool (q_sub1 (q_var 1) q_int))))))) (qb_one (qs_ret q_bl)) qb_nil))))
  (qb_one (qs_ret q_bl))))
  exact ⟨_, qq.ps, qq.ss⟩
theorem ok_is_chain (T : Tx K mg)  (C_is_whole : Cal P wd K mg base 1 "is_whole" 3 f_is_whole []) : Cal P wd K mg base (2) "is_chain" 1 f_is_chain [] := by
  obtain ⟨h1, fd, F⟩ := T.d_is_chain
  exact ⟨⟨_, fd, _, [], h1, F.kp, F.bindsN (ps := ["chain"]) fun _ _ _ _ _ _ us hl => match us, hl with | [_], _ => rfl, .nil, okf_is_chain T F  C_is_whole⟩⟩
theorem okf_is_table (T : Tx K mg) {fd : FuncData} (F : FunD K "is_table" "is_table" (defArgs S_is_table) (defBody S_is_table) (defScope S_is_table) [] [] (He.ga K "is_table") fd)  (C_is_chain : Cal P wd K mg base 2 "is_chain" 1 f_is_chain []) (C_is_whole : Cal P wd K mg base 1 "is_whole" 3 f_is_whole []) : FnOk P wd K mg base (L2.CX P wd) (3) (He.ga K "is_table") fd ["table"] (SpOf K 1 f_is_table) := by
  refine ok_of F sc_is_table rfl rfl fun cdv A outer s H E hr => ?_
  have nd := sc_is_table.nd
  have tk : Takes (cxOf (L2.CX P wd) P wd K mg base NN_is_table "is_table" (defScope S_is_table) (He.ga K "is_table") cdv A outer s H E) (fun cls d _ H => E cls d H) := takes_of rfl rfl rfl rfl
  have hx : ∀ σ, PassesAt (L2.CX P wd) (cxOf (L2.CX P wd) P wd K mg base NN_is_table "is_table" (defScope S_is_table) (He.ga K "is_table") cdv A outer s H E) σ E := fun σ => passAt (W := fun cls d _ H => E cls d H) (takes_of rfl rfl rfl rfl) σ
  have hx0 : ∀ {X : Cx} (σ : L2.St), PassesAt (L2.CX X.prog X.w) X σ E0 := fun σ pins H s e s' I c => passL pins σ H s e s' I c
  have po : PassesOwn (model P wd) (cxOf (L2.CX P wd) P wd K mg base NN_is_table "is_table" (defScope S_is_table) (He.ga K "is_table") cdv A outer s H E).A (cxOf (L2.CX P wd) P wd K mg base NN_is_table "is_table" (defScope S_is_table) (He.ga K "is_table") cdv A outer s H E).env (cxOf (L2.CX P wd) P wd K mg base NN_is_table "is_table" (defScope S_is_table) (He.ga K "is_table") cdv A outer s H E).xe := passes_of rfl
  have qq : QB (cxOf (L2.CX P wd) P wd K mg base NN_is_table "is_table" (defScope S_is_table) (He.ga K "is_table") cdv A outer s H E) (fun _ => E) (defBody S_is_table) _ (m_is_table f_is_chain f_is_whole) :=
  (qb_cons (qs_if (qt_not (qt_val (q_isi .list T.n_isinstance T.n_list (q_var 0)))) (qb_one (qs_ret q_bl)) qb_nil)
  (qb_cons (qs_set 1 nd q_int)
  (qb_cons (qs_for po (by rfl) (qi_v (q_var 0)) (qg_name 2 nd) (qb_cons (qs_if (qt_w (qw_or (qt_not (qt_val (q_isi .tuple T.n_isinstance T.n_tuple (q_var 2)))) (qw_or (qt_cmp (q_ne hr.units) (q_len T.n_len (qa_cons (q_var 2) qa_nil)) q_int) (qw_or1 (qt_not (qt_val (q_call C_is_chain (hr.mono (by omega)) hx (qa_cons (q_sub1 (q_var 2) q_int) qa_nil)))))))) (qb_one (qs_ret q_bl)) qb_nil)
  (qb_cons (qs_if (qt_w (qw_or (qt_not (qt_val (q_all (by rfl) T.n_all (qa_cons (q_L (by exact ql_comp (by rfl) nd (qi_v (q_slice (q_var 2) qp_none (qp_some q_int))) (blkOk_by (own := [("one", 3)]) (N := NN_is_table) (sc := defScope S_is_table) (by decide +kernel)) (fun _ _ _ _ _ => (qg_name 3 nd)) (fun _ _ _ _ _ => qts_nil) (fun _ _ _ _ _ => (q_call C_is_whole (hr.mono (by omega)) hx0 (qa_cons (q_var 3) (qa_cons q_int (qa_cons (q_gint T.c_MOST_PLACE) qa_nil))))))) qa_nil)))) (qw_or (qt_cmp q_lt (q_sub1 (q_var 2) q_int) (q_var 1)) (qw_or1 (qt_cmp q_le (q_sub1 (q_var 2) q_int) (q_sub1 (q_var 2) q_int)))))) (qb_one (qs_ret q_bl)) qb_nil)
  (qb_one (qs_set 1 nd (q_sub1 (q_var 2) q_int))))))
  (qb_one (qs_ret q_bl)))))
  exact ⟨_, qq.ps, qq.ss⟩
theorem ok_is_table (T : Tx K mg)  (C_is_chain : Cal P wd K mg base 2 "is_chain" 1 f_is_chain []) (C_is_whole : Cal P wd K mg base 1 "is_whole" 3 f_is_whole []) : Cal P wd K mg base (3) "is_table" 1 f_is_table [] := by
  obtain ⟨h1, fd, F⟩ := T.d_is_table
  exact ⟨⟨_, fd, _, [], h1, F.kp, F.bindsN (ps := ["table"]) fun _ _ _ _ _ _ us hl => match us, hl with | [_], _ => rfl, .nil, okf_is_table T F  C_is_chain C_is_whole⟩⟩
theorem okf_look_table (T : Tx K mg) {fd : FuncData} (F : FunD K "look_table" "look_table" (defArgs S_look_table) (defBody S_look_table) (defScope S_look_table) [] [] (He.ga K "look_table") fd)  (C_is_table : Cal P wd K mg base 3 "is_table" 1 f_is_table []) : FnOk P wd K mg base (L2.CX P wd) (4) (He.ga K "look_table") fd ["table"] (SpOf K 1 f_look_table) := by
  refine ok_of F sc_look_table rfl rfl fun cdv A outer s H E hr => ?_
  have nd := sc_look_table.nd
  have tk : Takes (cxOf (L2.CX P wd) P wd K mg base NN_look_table "look_table" (defScope S_look_table) (He.ga K "look_table") cdv A outer s H E) (fun cls d _ H => E cls d H) := takes_of rfl rfl rfl rfl
  have hx : ∀ σ, PassesAt (L2.CX P wd) (cxOf (L2.CX P wd) P wd K mg base NN_look_table "look_table" (defScope S_look_table) (He.ga K "look_table") cdv A outer s H E) σ E := fun σ => passAt (W := fun cls d _ H => E cls d H) (takes_of rfl rfl rfl rfl) σ
  have hx0 : ∀ {X : Cx} (σ : L2.St), PassesAt (L2.CX X.prog X.w) X σ E0 := fun σ pins H s e s' I c => passL pins σ H s e s' I c
  have po : PassesOwn (model P wd) (cxOf (L2.CX P wd) P wd K mg base NN_look_table "look_table" (defScope S_look_table) (He.ga K "look_table") cdv A outer s H E).A (cxOf (L2.CX P wd) P wd K mg base NN_look_table "look_table" (defScope S_look_table) (He.ga K "look_table") cdv A outer s H E).env (cxOf (L2.CX P wd) P wd K mg base NN_look_table "look_table" (defScope S_look_table) (He.ga K "look_table") cdv A outer s H E).xe := passes_of rfl
  have qq : QB (cxOf (L2.CX P wd) P wd K mg base NN_look_table "look_table" (defScope S_look_table) (He.ga K "look_table") cdv A outer s H E) (fun _ => E) (defBody S_look_table) _ (m_look_table f_is_table) :=
  (qb_one (qs_if (qt_not (qt_val (q_call C_is_table (hr.mono (by omega)) hx (qa_cons (q_var 0) qa_nil)))) (qb_one (qs_raise rfl tk T.x_BadTable T.g_BadTable)) qb_nil))
  exact ⟨_, qq.ps, qq.ss⟩
theorem ok_look_table (T : Tx K mg)  (C_is_table : Cal P wd K mg base 3 "is_table" 1 f_is_table []) : Cal P wd K mg base (4) "look_table" 1 f_look_table [] := by
  obtain ⟨h1, fd, F⟩ := T.d_look_table
  exact ⟨⟨_, fd, _, [], h1, F.kp, F.bindsN (ps := ["table"]) fun _ _ _ _ _ _ us hl => match us, hl with | [_], _ => rfl, .nil, okf_look_table T F  C_is_table⟩⟩
theorem okf_small (T : Tx K mg) {fd : FuncData} (F : FunD K "small" "small" (defArgs S_small) (defBody S_small) (defScope S_small) [] [] (He.ga K "small") fd)   : FnOk P wd K mg base (L2.CX P wd) (1) (He.ga K "small") fd ["number"] (SpOf K 1 f_small) := by
  refine ok_of F sc_small rfl rfl fun cdv A outer s H E hr => ?_
  have nd := sc_small.nd
  have tk : Takes (cxOf (L2.CX P wd) P wd K mg base NN_small "small" (defScope S_small) (He.ga K "small") cdv A outer s H E) (fun cls d _ H => E cls d H) := takes_of rfl rfl rfl rfl
  have hx : ∀ σ, PassesAt (L2.CX P wd) (cxOf (L2.CX P wd) P wd K mg base NN_small "small" (defScope S_small) (He.ga K "small") cdv A outer s H E) σ E := fun σ => passAt (W := fun cls d _ H => E cls d H) (takes_of rfl rfl rfl rfl) σ
  have hx0 : ∀ {X : Cx} (σ : L2.St), PassesAt (L2.CX X.prog X.w) X σ E0 := fun σ pins H s e s' I c => passL pins σ H s e s' I c
  have po : PassesOwn (model P wd) (cxOf (L2.CX P wd) P wd K mg base NN_small "small" (defScope S_small) (He.ga K "small") cdv A outer s H E).A (cxOf (L2.CX P wd) P wd K mg base NN_small "small" (defScope S_small) (He.ga K "small") cdv A outer s H E).env (cxOf (L2.CX P wd) P wd K mg base NN_small "small" (defScope S_small) (He.ga K "small") cdv A outer s H E).xe := passes_of rfl
  have qq : QB (cxOf (L2.CX P wd) P wd K mg base NN_small "small" (defScope S_small) (He.ga K "small") cdv A outer s H E) (fun _ => E) (defBody S_small) _ (m_small ) :=
  (qb_cons (qs_set 1 nd (q_H (ql_disp qa_nil)))
  (qb_cons (qs_while 1000000 po (qt_cmp q_gt (q_var 0) q_int) (qb_cons (qs_expr (q_app (q_var 1) (q_op q_add (q_op q_mod (q_var 0) q_int) q_int)))
  (qb_one (qs_augF 0 nd q_int))))
  (qb_one (qs_ret (q_H (ql_op ql_cat (q_var 1) (q_L (ql_disp (qa_cons (q_var 0) qa_nil)))))))))
  exact ⟨_, qq.ps, qq.ss⟩
theorem ok_small (T : Tx K mg)   : Cal P wd K mg base (1) "small" 1 f_small [] := by
  obtain ⟨h1, fd, F⟩ := T.d_small
  exact ⟨⟨_, fd, _, [], h1, F.kp, F.bindsN (ps := ["number"]) fun _ _ _ _ _ _ us hl => match us, hl with | [_], _ => rfl, .nil, okf_small T F  ⟩⟩
theorem okf_packed (T : Tx K mg) {fd : FuncData} (F : FunD K "packed" "packed" (defArgs S_packed) (defBody S_packed) (defScope S_packed) [] [] (He.ga K "packed") fd)  (C_look_table : Cal P wd K mg base 4 "look_table" 1 f_look_table []) (C_chains_of : Cal P wd K mg base 1 "chains_of" 1 f_chains_of []) (C_small : Cal P wd K mg base 1 "small" 1 f_small []) : FnOk P wd K mg base (L2.CX P wd) (5) (He.ga K "packed") fd ["table"] (SpOf K 1 f_packed) := by
  refine ok_of F sc_packed rfl rfl fun cdv A outer s H E hr => ?_
  have nd := sc_packed.nd
  have tk : Takes (cxOf (L2.CX P wd) P wd K mg base NN_packed "packed" (defScope S_packed) (He.ga K "packed") cdv A outer s H E) (fun cls d _ H => E cls d H) := takes_of rfl rfl rfl rfl
  have hx : ∀ σ, PassesAt (L2.CX P wd) (cxOf (L2.CX P wd) P wd K mg base NN_packed "packed" (defScope S_packed) (He.ga K "packed") cdv A outer s H E) σ E := fun σ => passAt (W := fun cls d _ H => E cls d H) (takes_of rfl rfl rfl rfl) σ
  have hx0 : ∀ {X : Cx} (σ : L2.St), PassesAt (L2.CX X.prog X.w) X σ E0 := fun σ pins H s e s' I c => passL pins σ H s e s' I c
  have po : PassesOwn (model P wd) (cxOf (L2.CX P wd) P wd K mg base NN_packed "packed" (defScope S_packed) (He.ga K "packed") cdv A outer s H E).A (cxOf (L2.CX P wd) P wd K mg base NN_packed "packed" (defScope S_packed) (He.ga K "packed") cdv A outer s H E).env (cxOf (L2.CX P wd) P wd K mg base NN_packed "packed" (defScope S_packed) (He.ga K "packed") cdv A outer s H E).xe := passes_of rfl
  have qq : QB (cxOf (L2.CX P wd) P wd K mg base NN_packed "packed" (defScope S_packed) (He.ga K "packed") cdv A outer s H E) (fun _ => E) (defBody S_packed) _ (m_packed f_look_table f_chains_of f_small) :=
  (qb_cons (qs_expr (q_call C_look_table (hr.mono (by omega)) hx (qa_cons (q_var 0) qa_nil)))
  (qb_cons (qs_set 1 nd (q_call C_chains_of (hr.mono (by omega)) hx (qa_cons (q_var 0) qa_nil)))
  (qb_cons (qs_set 2 nd (q_call C_small (hr.mono (by omega)) hx (qa_cons (q_len T.n_len (qa_cons (q_var 1) qa_nil)) qa_nil)))
  (qb_cons (qs_for po (by rfl) (qi_v (q_var 1)) (qg_name 3 nd) (qb_cons (qs_ext 2 nd (q_call C_small (hr.mono (by omega)) hx (qa_cons (q_len T.n_len (qa_cons (q_var 3) qa_nil)) qa_nil)))
  (qb_one (qs_for po (by rfl) (qi_v (q_var 3)) (qg_tup 3 (by rfl) (qgs_cons (qg_name 7 nd) (qgs_cons (qg_name 8 nd) (qgs_cons (qg_name 9 nd) qgs_nil)))) (qb_cons (qs_set 10 nd (q_ifx (qt_cmp q_is (q_var 7) q_non) q_int (q_op q_add (q_var 7) q_int)))
  (qb_one (qs_ext 2 nd (q_op q_add (q_call C_small (hr.mono (by omega)) hx (qa_cons (q_op q_add (q_op q_mul q_int (q_var 10)) (q_ifx (qt_val (q_var 9)) q_int q_int)) qa_nil)) (q_call C_small (hr.mono (by omega)) hx (qa_cons (q_var 8) qa_nil))))))))))
  (qb_cons (qs_ext 2 nd (q_call C_small (hr.mono (by omega)) hx (qa_cons (q_len T.n_len (qa_cons (q_var 0) qa_nil)) qa_nil)))
  (qb_cons (qs_set 4 nd q_int)
  (qb_cons (qs_for po (by rfl) (qi_v (q_var 0)) (qg_tup 3 (by rfl) (qgs_cons (qg_name 5 nd) (qgs_cons (qg_name 6 nd) (qgs_cons (qg_name 3 nd) qgs_nil)))) (qb_cons (qs_ext 2 nd (q_op q_add (q_op q_add (q_call C_small (hr.mono (by omega)) hx (qa_cons (q_op q_sub (q_var 5) (q_var 4)) qa_nil)) (q_call C_small (hr.mono (by omega)) hx (qa_cons (q_op q_sub (q_var 6) (q_var 5)) qa_nil))) (q_call C_small (hr.mono (by omega)) hx (qa_cons (q_index (room1 hr) (q_var 1) (q_var 3)) qa_nil))))
  (qb_one (qs_set 4 nd (q_var 6)))))
  (qb_one (qs_ret (q_var 2))))))))))
  exact ⟨_, qq.ps, qq.ss⟩
theorem ok_packed (T : Tx K mg)  (C_look_table : Cal P wd K mg base 4 "look_table" 1 f_look_table []) (C_chains_of : Cal P wd K mg base 1 "chains_of" 1 f_chains_of []) (C_small : Cal P wd K mg base 1 "small" 1 f_small []) : Cal P wd K mg base (5) "packed" 1 f_packed [] := by
  obtain ⟨h1, fd, F⟩ := T.d_packed
  exact ⟨⟨_, fd, _, [], h1, F.kp, F.bindsN (ps := ["table"]) fun _ _ _ _ _ _ us hl => match us, hl with | [_], _ => rfl, .nil, okf_packed T F  C_look_table C_chains_of C_small⟩⟩
theorem okf_unpacked (T : Tx K mg) {fd : FuncData} (F : FunD K "unpacked" "unpacked" (defArgs S_unpacked) (defBody S_unpacked) (defScope S_unpacked) [] [] (He.ga K "unpacked") fd)  (C_Reader___init__ : CalC P wd K mg base 2 "Reader" 2 f_Reader___init__ []) (C_Reader_take : CalM P wd K mg base 1 "Reader" "take" 1 f_Reader_take []) (C_is_table : Cal P wd K mg base 3 "is_table" 1 f_is_table []) (C_chains_of : Cal P wd K mg base 1 "chains_of" 1 f_chains_of []) : FnOk P wd K mg base (L2.CX P wd) (4) (He.ga K "unpacked") fd ["numbers"] (SpOf K 1 f_unpacked) := by
  refine ok_of F sc_unpacked rfl rfl fun cdv A outer s H E hr => ?_
  have nd := sc_unpacked.nd
  have tk : Takes (cxOf (L2.CX P wd) P wd K mg base NN_unpacked "unpacked" (defScope S_unpacked) (He.ga K "unpacked") cdv A outer s H E) (fun cls d _ H => E cls d H) := takes_of rfl rfl rfl rfl
  have hx : ∀ σ, PassesAt (L2.CX P wd) (cxOf (L2.CX P wd) P wd K mg base NN_unpacked "unpacked" (defScope S_unpacked) (He.ga K "unpacked") cdv A outer s H E) σ E := fun σ => passAt (W := fun cls d _ H => E cls d H) (takes_of rfl rfl rfl rfl) σ
  have hx0 : ∀ {X : Cx} (σ : L2.St), PassesAt (L2.CX X.prog X.w) X σ E0 := fun σ pins H s e s' I c => passL pins σ H s e s' I c
  have po : PassesOwn (model P wd) (cxOf (L2.CX P wd) P wd K mg base NN_unpacked "unpacked" (defScope S_unpacked) (He.ga K "unpacked") cdv A outer s H E).A (cxOf (L2.CX P wd) P wd K mg base NN_unpacked "unpacked" (defScope S_unpacked) (He.ga K "unpacked") cdv A outer s H E).env (cxOf (L2.CX P wd) P wd K mg base NN_unpacked "unpacked" (defScope S_unpacked) (He.ga K "unpacked") cdv A outer s H E).xe := passes_of rfl
  have qq : QB (cxOf (L2.CX P wd) P wd K mg base NN_unpacked "unpacked" (defScope S_unpacked) (He.ga K "unpacked") cdv A outer s H E) (fun _ => E) (defBody S_unpacked) _ (m_unpacked f_Reader___init__ f_Reader_take f_is_table f_chains_of) :=
  (qb_cons (qs_set 1 nd (q_make C_Reader___init__ (hr.mono (by omega)) hx (qa_cons (q_var 0) qa_nil)))
  (qb_cons (qs_set 2 nd (q_H (ql_disp qa_nil)))
  (qb_cons (qs_for po (by rfl) (qi_r1 T.n_range (qa_cons (q_meth0 C_Reader_take (hr.mono (by omega)) hx (q_var 1)) qa_nil)) (qg_name 3 nd) (qb_cons (qs_set 6 nd (q_H (ql_disp qa_nil)))
  (qb_cons (qs_for po (by rfl) (qi_r1 T.n_range (qa_cons (q_meth0 C_Reader_take (hr.mono (by omega)) hx (q_var 1)) qa_nil)) (qg_name 7 nd) (qb_cons (qs_set 10 nd (q_meth0 C_Reader_take (hr.mono (by omega)) hx (q_var 1)))
  (qb_cons (qs_set 11 nd (q_ifx (qt_cmp (q_eq hr.units) (q_op q_fdiv (q_var 10) q_int) q_int) q_non (q_op q_sub (q_op q_fdiv (q_var 10) q_int) q_int)))
  (qb_one (qs_expr (q_app (q_var 6) (q_tup (qa_cons (q_var 11) (qa_cons (q_meth0 C_Reader_take (hr.mono (by omega)) hx (q_var 1)) (qa_cons (q_cmp (q_eq hr.units) (q_op q_mod (q_var 10) q_int) q_int) qa_nil))))))))))
  (qb_one (qs_expr (q_app (q_var 2) (q_tupleOf T.n_tuple (qa_cons (q_var 6) qa_nil))))))))
  (qb_cons (qs_set 4 nd (q_H (ql_disp qa_nil)))
  (qb_cons (qs_set 5 nd q_int)
  (qb_cons (qs_for po (by rfl) (qi_r1 T.n_range (qa_cons (q_meth0 C_Reader_take (hr.mono (by omega)) hx (q_var 1)) qa_nil)) (qg_name 3 nd) (qb_cons (qs_set 8 nd (q_op q_add (q_var 5) (q_meth0 C_Reader_take (hr.mono (by omega)) hx (q_var 1))))
  (qb_cons (qs_set 5 nd (q_op q_add (q_var 8) (q_meth0 C_Reader_take (hr.mono (by omega)) hx (q_var 1))))
  (qb_cons (qs_set 9 nd (q_meth0 C_Reader_take (hr.mono (by omega)) hx (q_var 1)))
  (qb_cons (qs_if (qt_cmp q_ge (q_var 9) (q_len T.n_len (qa_cons (q_var 2) qa_nil))) (qb_one (qs_raise rfl tk T.x_BadTable T.g_BadTable)) qb_nil)
  (qb_one (qs_expr (q_app (q_var 4) (q_tup (qa_cons (q_var 8) (qa_cons (q_var 5) (qa_cons (q_sub1 (q_var 2) (q_var 9)) qa_nil))))))))))))
  (qb_cons (qs_if (qt_w (qw_or (qt_cmp (q_ne hr.units) (q_fld T.q_Reader_spot (q_var 1)) (q_len T.n_len (qa_cons (q_var 0) qa_nil))) (qw_or (qt_not (qt_val (q_call C_is_table (hr.mono (by omega)) hx (qa_cons (q_var 4) qa_nil)))) (qw_or1 (qt_cmp (q_ne hr.units) (q_call C_chains_of (hr.mono (by omega)) hx (qa_cons (q_var 4) qa_nil)) (q_var 2)))))) (qb_one (qs_raise rfl tk T.x_BadTable T.g_BadTable)) qb_nil)
  (qb_one (qs_ret (q_F (q_var 4)))))))))))
  exact ⟨_, qq.ps, qq.ss⟩
theorem ok_unpacked (T : Tx K mg)  (C_Reader___init__ : CalC P wd K mg base 2 "Reader" 2 f_Reader___init__ []) (C_Reader_take : CalM P wd K mg base 1 "Reader" "take" 1 f_Reader_take []) (C_is_table : Cal P wd K mg base 3 "is_table" 1 f_is_table []) (C_chains_of : Cal P wd K mg base 1 "chains_of" 1 f_chains_of []) : Cal P wd K mg base (4) "unpacked" 1 f_unpacked [] := by
  obtain ⟨h1, fd, F⟩ := T.d_unpacked
  exact ⟨⟨_, fd, _, [], h1, F.kp, F.bindsN (ps := ["numbers"]) fun _ _ _ _ _ _ us hl => match us, hl with | [_], _ => rfl, .nil, okf_unpacked T F  C_Reader___init__ C_Reader_take C_is_table C_chains_of⟩⟩
theorem okf__law_read (T : Tx K mg) {fd : FuncData} (F : FunD K "_law_read" "_law_read" (defArgs S__law_read) (defBody S__law_read) (defScope S__law_read) [] [] (He.ga K "_law_read") fd)  (C_unpacked : Cal P wd K mg base 4 "unpacked" 1 f_unpacked []) (C__law_refusal : Cal P wd K mg base 1 "_law_refusal" 1 f__law_refusal []) : FnOk P wd K mg base (L2.CX P wd) (5) (He.ga K "_law_read") fd ["numbers"] (SpOf K 1 f__law_read) := by
  refine ok_of F sc__law_read rfl rfl fun cdv A outer s H E hr => ?_
  have nd := sc__law_read.nd
  have tk : Takes (cxOf (L2.CX P wd) P wd K mg base NN__law_read "_law_read" (defScope S__law_read) (He.ga K "_law_read") cdv A outer s H E) (fun cls d _ H => E cls d H) := takes_of rfl rfl rfl rfl
  have hx : ∀ σ, PassesAt (L2.CX P wd) (cxOf (L2.CX P wd) P wd K mg base NN__law_read "_law_read" (defScope S__law_read) (He.ga K "_law_read") cdv A outer s H E) σ E := fun σ => passAt (W := fun cls d _ H => E cls d H) (takes_of rfl rfl rfl rfl) σ
  have hx0 : ∀ {X : Cx} (σ : L2.St), PassesAt (L2.CX X.prog X.w) X σ E0 := fun σ pins H s e s' I c => passL pins σ H s e s' I c
  have po : PassesOwn (model P wd) (cxOf (L2.CX P wd) P wd K mg base NN__law_read "_law_read" (defScope S__law_read) (He.ga K "_law_read") cdv A outer s H E).A (cxOf (L2.CX P wd) P wd K mg base NN__law_read "_law_read" (defScope S__law_read) (He.ga K "_law_read") cdv A outer s H E).env (cxOf (L2.CX P wd) P wd K mg base NN__law_read "_law_read" (defScope S__law_read) (He.ga K "_law_read") cdv A outer s H E).xe := passes_of rfl
  have qq : QB (cxOf (L2.CX P wd) P wd K mg base NN__law_read "_law_read" (defScope S__law_read) (He.ga K "_law_read") cdv A outer s H E) (fun _ => E) (defBody S__law_read) _ (m__law_read f_unpacked f__law_refusal) :=
  (qb_cons (qs_set 1 nd q_non)
  (qb_cons (qs_set 2 nd q_non)
  (qb_cons (qs_try (cs := ["LaneError", "BadNumber", "BadTree", "BadOrder", "BadTable", "Stuck", "Over", "BadText"]) 3 1 rfl rfl rfl nd T.m_LaneError T.g_LaneError (fun W pn xe tk2 => have hx := fun σ => passAt (W := W) tk2 σ; (qx_set 2 nd (q_call C_unpacked (hr.mono (by omega)) hx (qa_cons (q_var 0) qa_nil)))))
  (qb_one (qs_ret (q_ifx (qt_cmp q_is (q_var 1) q_non) (q_var 2) (q_call C__law_refusal (hr.mono (by omega)) hx (qa_cons (q_var 1) qa_nil))))))))
  exact ⟨_, qq.ps, qq.ss⟩
theorem ok__law_read (T : Tx K mg)  (C_unpacked : Cal P wd K mg base 4 "unpacked" 1 f_unpacked []) (C__law_refusal : Cal P wd K mg base 1 "_law_refusal" 1 f__law_refusal []) : Cal P wd K mg base (5) "_law_read" 1 f__law_read [] := by
  obtain ⟨h1, fd, F⟩ := T.d__law_read
  exact ⟨⟨_, fd, _, [], h1, F.kp, F.bindsN (ps := ["numbers"]) fun _ _ _ _ _ _ us hl => match us, hl with | [_], _ => rfl, .nil, okf__law_read T F  C_unpacked C__law_refusal⟩⟩
theorem okf_law (T : Tx K mg) {fd : FuncData} (F : FunD K "law" "law" (defArgs S_law) (defBody S_law) (defScope S_law) [] [] (He.ga K "law") fd)  (C__law_town : Cal P wd K mg base 1 "_law_town" 1 f__law_town []) (C__law_table : Cal P wd K mg base 4 "_law_table" 1 f__law_table []) (C__law_packed : Cal P wd K mg base 2 "_law_packed" 1 f__law_packed []) (C__law_draw : Cal P wd K mg base 1 "_law_draw" 2 f__law_draw []) (C__law_pick : Cal P wd K mg base 2 "_law_pick" 2 f__law_pick []) (C__law_read : Cal P wd K mg base 5 "_law_read" 1 f__law_read []) (C_packed : Cal P wd K mg base 5 "packed" 1 f_packed []) : FnOk P wd K mg base (L2.CX P wd) (6) (He.ga K "law") fd ["script"] (SpOf K 1 f_law) := by
  refine ok_of F sc_law rfl rfl fun cdv A outer s H E hr => ?_
  have nd := sc_law.nd
  have tk : Takes (cxOf (L2.CX P wd) P wd K mg base NN_law "law" (defScope S_law) (He.ga K "law") cdv A outer s H E) (fun cls d _ H => E cls d H) := takes_of rfl rfl rfl rfl
  have hx : ∀ σ, PassesAt (L2.CX P wd) (cxOf (L2.CX P wd) P wd K mg base NN_law "law" (defScope S_law) (He.ga K "law") cdv A outer s H E) σ E := fun σ => passAt (W := fun cls d _ H => E cls d H) (takes_of rfl rfl rfl rfl) σ
  have hx0 : ∀ {X : Cx} (σ : L2.St), PassesAt (L2.CX X.prog X.w) X σ E0 := fun σ pins H s e s' I c => passL pins σ H s e s' I c
  have po : PassesOwn (model P wd) (cxOf (L2.CX P wd) P wd K mg base NN_law "law" (defScope S_law) (He.ga K "law") cdv A outer s H E).A (cxOf (L2.CX P wd) P wd K mg base NN_law "law" (defScope S_law) (He.ga K "law") cdv A outer s H E).env (cxOf (L2.CX P wd) P wd K mg base NN_law "law" (defScope S_law) (He.ga K "law") cdv A outer s H E).xe := passes_of rfl
  have qq : QB (cxOf (L2.CX P wd) P wd K mg base NN_law "law" (defScope S_law) (He.ga K "law") cdv A outer s H E) (fun _ => E) (defBody S_law) _ (m_law f__law_town f__law_table f__law_packed f__law_draw f__law_pick f__law_read f_packed) :=
  (qb_cons (qs_set 1 nd (q_call C__law_town (hr.mono (by omega)) hx (qa_cons (q_var 0) qa_nil)))
  (qb_cons (qs_set 2 nd (q_call C__law_packed (hr.mono (by omega)) hx (qa_cons (q_call C__law_table (hr.mono (by omega)) hx (qa_cons (q_var 1) qa_nil)) qa_nil)))
  (qb_cons (qs_for po (by rfl) (qi_r1 T.n_range (qa_cons q_int qa_nil)) (qg_name 3 nd) (qb_cons (qs_set 5 nd (q_L (ql_listOf T.n_list (qa_cons (q_var 2) qa_nil))))
  (qb_cons (qs_set 6 nd (q_call C__law_draw (hr.mono (by omega)) hx (qa_cons (q_var 1) (qa_cons (q_op q_add (q_len T.n_len (qa_cons (q_var 5) qa_nil)) q_int) qa_nil))))
  (qb_cons (qs_set 7 nd (q_call C__law_pick (hr.mono (by omega)) hx (qa_cons (q_var 1) (qa_cons (q_L (ql_disp (qa_cons q_int (qa_cons q_int (qa_cons q_int (qa_cons q_int (qa_cons q_int (qa_cons q_int (qa_cons q_int (qa_cons (q_call C__law_draw (hr.mono (by omega)) hx (qa_cons (q_var 1) (qa_cons q_int qa_nil))) qa_nil)))))))))) qa_nil))))
  (qb_cons (qs_set 8 nd (q_call C__law_draw (hr.mono (by omega)) hx (qa_cons (q_var 1) (qa_cons q_int qa_nil))))
  (qb_cons (qs_if (qt_cmp (q_eq hr.units) (q_var 8) q_int) (qb_one (qs_set 5 nd (q_L (ql_op ql_cat (q_L (ql_op ql_cat (q_slice (q_var 5) qp_none (qp_some (q_var 6))) (q_L (ql_disp (qa_cons (q_var 7) qa_nil))))) (q_slice (q_var 5) (qp_some (q_var 6)) qp_none))))) (qb_one (qs_if (qt_cmp (q_eq hr.units) (q_var 8) q_int) (qb_one (qs_set 5 nd (q_L (ql_op ql_cat (q_L (ql_op ql_cat (q_slice (q_var 5) qp_none (qp_some (q_var 6))) (q_L (ql_disp (qa_cons (q_var 7) qa_nil))))) (q_slice (q_var 5) (qp_some (q_op q_add (q_var 6) q_int)) qp_none))))) (qb_one (qs_if (qt_cmp (q_eq hr.units) (q_var 8) q_int) (qb_one (qs_set 5 nd (q_op q_add (q_slice (q_var 5) qp_none (qp_some (q_var 6))) (q_slice (q_var 5) (qp_some (q_op q_add (q_var 6) q_int)) qp_none)))) (qb_one (by exact qs_setLc 5 (by rfl) nd (qi_r1 T.n_range (qa_cons (q_call C__law_draw (hr.mono (by omega)) hx (qa_cons (q_var 1) (qa_cons q_int qa_nil))) qa_nil)) (blkOk_by (own := [("k", 10)]) (N := NN_law) (sc := defScope S_law) (by decide +kernel)) (fun _ _ _ _ _ => (qg_name 10 nd)) (fun _ _ _ _ _ => qts_nil) (fun _ _ _ _ _ => (q_call C__law_draw (hr.mono (by omega)) hx0 (qa_cons (q_var 1) (qa_cons q_int qa_nil)))) eL s_L (sw_true rfl rfl rfl (by decide +kernel)))))))))
  (qb_cons (qs_set 9 nd (q_call C__law_read (hr.mono (by omega)) hx (qa_cons (q_var 5) qa_nil)))
  (qb_cons (qs_if (qt_w (qw_and (qt_cmp (q_ne hr.units) (q_var 9) q_str) (qw_and1 (qt_not (qt_val (q_isi .list T.n_isinstance T.n_list (q_var 9))))))) (qb_one (qs_ret q_bl)) qb_nil)
  (qb_one (qs_if (qt_w (qw_and (qt_cmp (q_ne hr.units) (q_var 9) q_str) (qw_and1 (qt_cmp (q_ne hr.units) (q_L (ql_disp (qa_cons (q_call C__law_packed (hr.mono (by omega)) hx (qa_cons (q_var 9) qa_nil)) (qa_cons (q_call C_packed (hr.mono (by omega)) hx (qa_cons (q_var 9) qa_nil)) qa_nil)))) (q_L (ql_disp (qa_cons (q_var 5) (qa_cons (q_var 5) qa_nil)))))))) (qb_one (qs_ret q_bl)) qb_nil))))))))))
  (qb_cons (qs_for po (by rfl) (qi_v (q_L (ql_disp (qa_cons q_non (qa_cons q_int (qa_cons (q_tup (qa_cons q_int (qa_cons q_int qa_nil))) (qa_cons (q_L (ql_disp (qa_cons q_int (qa_cons q_int qa_nil)))) (qa_cons (q_L (ql_disp (qa_cons q_int (qa_cons q_bl qa_nil)))) (qa_cons (q_L (ql_disp (qa_cons q_int (qa_cons (q_op q_sub q_int q_int) qa_nil)))) (qa_cons (q_L (ql_disp (qa_cons q_int (qa_cons q_non qa_nil)))) (qa_cons q_str (qa_cons (q_L (ql_disp qa_nil)) (qa_cons (q_L (ql_disp (qa_cons q_int qa_nil))) (qa_cons (q_L (ql_disp (qa_cons q_int (qa_cons q_int (qa_cons q_int qa_nil))))) (qa_cons (q_L (ql_disp (qa_cons q_int (qa_cons q_int (qa_cons q_int qa_nil))))) qa_nil))))))))))))))) (qg_name 4 nd) (qb_one (qs_if (qt_cmp (q_ne hr.units) (q_call C__law_read (hr.mono (by omega)) hx (qa_cons (q_var 4) qa_nil)) q_str) (qb_one (qs_ret q_bl)) qb_nil)))
  (qb_one (qs_ret (q_cmp (q_ne hr.units) (q_call C__law_read (hr.mono (by omega)) hx (qa_cons (q_var 2) qa_nil)) q_str)))))))
  exact ⟨_, qq.ps, qq.ss⟩
end
theorem the_law {w : World} {K : PySem.W.Frag} {mg : Str → Option Value} {base : Heap} {fd : FuncData} (T : Tx K mg) (F : FunD K "law" "law" (defArgs S_law) (defBody S_law) (defScope S_law) [] [] (He.ga K "law") fd) :
    FnOk (PySem.Challenge.rw_coldlanes_k08_whole_bytes).prog w K mg base (L2.CX (PySem.Challenge.rw_coldlanes_k08_whole_bytes).prog w) 6 (He.ga K "law") fd ["script"] (SpOf K 1 f_law) := by
    have C_Reader_take := ok_Reader_take (P := PySem.Challenge.rw_coldlanes_k08_whole_bytes.prog) (wd := w) (base := base) T 
    have C__law_bytes := ok__law_bytes (P := PySem.Challenge.rw_coldlanes_k08_whole_bytes.prog) (wd := w) (base := base) T 
    have C__law_draw := ok__law_draw (P := PySem.Challenge.rw_coldlanes_k08_whole_bytes.prog) (wd := w) (base := base) T 
    have C__law_packed := ok__law_packed (P := PySem.Challenge.rw_coldlanes_k08_whole_bytes.prog) (wd := w) (base := base) T C__law_bytes
    have C__law_pick := ok__law_pick (P := PySem.Challenge.rw_coldlanes_k08_whole_bytes.prog) (wd := w) (base := base) T C__law_draw
    have C__law_chain := ok__law_chain (P := PySem.Challenge.rw_coldlanes_k08_whole_bytes.prog) (wd := w) (base := base) T C__law_draw C__law_pick
    have C__law_refusal := ok__law_refusal (P := PySem.Challenge.rw_coldlanes_k08_whole_bytes.prog) (wd := w) (base := base) T 
    have C__law_table := ok__law_table (P := PySem.Challenge.rw_coldlanes_k08_whole_bytes.prog) (wd := w) (base := base) T C__law_draw C__law_chain C__law_pick
    have C__law_town := ok__law_town (P := PySem.Challenge.rw_coldlanes_k08_whole_bytes.prog) (wd := w) (base := base) T 
    have C_chains_of := ok_chains_of (P := PySem.Challenge.rw_coldlanes_k08_whole_bytes.prog) (wd := w) (base := base) T 
    have C_is_whole := ok_is_whole (P := PySem.Challenge.rw_coldlanes_k08_whole_bytes.prog) (wd := w) (base := base) T 
    have C_Reader___init__ := ok_Reader___init__ (P := PySem.Challenge.rw_coldlanes_k08_whole_bytes.prog) (wd := w) (base := base) T C_is_whole
    have C_is_chain := ok_is_chain (P := PySem.Challenge.rw_coldlanes_k08_whole_bytes.prog) (wd := w) (base := base) T C_is_whole
    have C_is_table := ok_is_table (P := PySem.Challenge.rw_coldlanes_k08_whole_bytes.prog) (wd := w) (base := base) T C_is_chain C_is_whole
    have C_look_table := ok_look_table (P := PySem.Challenge.rw_coldlanes_k08_whole_bytes.prog) (wd := w) (base := base) T C_is_table
    have C_small := ok_small (P := PySem.Challenge.rw_coldlanes_k08_whole_bytes.prog) (wd := w) (base := base) T 
    have C_packed := ok_packed (P := PySem.Challenge.rw_coldlanes_k08_whole_bytes.prog) (wd := w) (base := base) T C_look_table C_chains_of C_small
    have C_unpacked := ok_unpacked (P := PySem.Challenge.rw_coldlanes_k08_whole_bytes.prog) (wd := w) (base := base) T C_Reader___init__ C_Reader_take C_is_table C_chains_of
    have C__law_read := ok__law_read (P := PySem.Challenge.rw_coldlanes_k08_whole_bytes.prog) (wd := w) (base := base) T C_unpacked C__law_refusal
    exact okf_law T F C__law_town C__law_table C__law_packed C__law_draw C__law_pick C__law_read C_packed
theorem tx_of {w : World} {K : PySem.W.Frag} {h : Heap} {mg : Str → Option Value} (X : K.In h) (G : h.Ns mainGlobals mg) (c : He.SaysX hfa hfn [] [] hex w h K) : Tx K mg := by
  have e0 : hex K = true := c.more
  unfold hex at e0
  obtain ⟨z0, e1⟩ := He.ba e0
  obtain ⟨z1, e2⟩ := He.ba e1
  obtain ⟨z2, e3⟩ := He.ba e2
  obtain ⟨z3, e4⟩ := He.ba e3
  obtain ⟨z4, e5⟩ := He.ba e4
  obtain ⟨z5, e6⟩ := He.ba e5
  obtain ⟨z6, e7⟩ := He.ba e6
  obtain ⟨z7, e8⟩ := He.ba e7
  obtain ⟨z8, e9⟩ := He.ba e8
  obtain ⟨z9, e10⟩ := He.ba e9
  obtain ⟨z10, e11⟩ := He.ba e10
  exact {
n_ValueError := He.free_ok X G (c.t.d.fact 18 (f := .free "ValueError") rfl),
    n_all := He.free_ok X G (c.t.d.fact 19 (f := .free "all") rfl),
    n_bool := He.free_ok X G (c.t.d.fact 20 (f := .free "bool") rfl),
    n_int := He.free_ok X G (c.t.d.fact 21 (f := .free "int") rfl),
    n_isinstance := He.free_ok X G (c.t.d.fact 22 (f := .free "isinstance") rfl),
    n_len := He.free_ok X G (c.t.d.fact 23 (f := .free "len") rfl),
    n_list := He.free_ok X G (c.t.d.fact 24 (f := .free "list") rfl),
    n_range := He.free_ok X G (c.t.d.fact 25 (f := .free "range") rfl),
    n_tuple := He.free_ok X G (c.t.d.fact 26 (f := .free "tuple") rfl),
    c_KINDS := He.int_ok X G (c.t.d.fact 43 (f := .int "KINDS" 5) rfl),
    c_MOST_PLACE := He.int_ok X G (c.t.d.fact 44 (f := .int "MOST_PLACE" 100000) rfl),
    m_LaneError := mAll_ok z0,
    k_BadNumber := kAll_ok (u := (fun K => .ref (He.ga K "BadNumber"))) z1,
    k_BadOrder := kAll_ok (u := (fun K => .ref (He.ga K "BadOrder"))) z2,
    k_BadTable := kAll_ok (u := (fun K => .ref (He.ga K "BadTable"))) z3,
    k_BadText := kAll_ok (u := (fun K => .ref (He.ga K "BadText"))) z4,
    k_BadTree := kAll_ok (u := (fun K => .ref (He.ga K "BadTree"))) z5,
    k_LaneError := kAll_ok (u := (fun K => .ref (He.ga K "LaneError"))) z6,
    k_NoPlace := kAll_ok (u := (fun K => .ref (He.ga K "NoPlace"))) z7,
    k_Over := kAll_ok (u := (fun K => .ref (He.ga K "Over"))) z8,
    k_Stuck := kAll_ok (u := (fun K => .ref (He.ga K "Stuck"))) z9,
    k_ValueError := kAll_ok (u := (fun _ => .type "ValueError")) z10,
    q_Reader_spot := (clsF_cons (He.cls_ok (c.t.d.fact 27 (f := .cls "Reader") rfl)) (He.noat_ok (c.t.d.fact 41 (f := .noat "Reader" "spot") rfl)) clsF_nil),
    q_Reader_numbers := (clsF_cons (He.cls_ok (c.t.d.fact 27 (f := .cls "Reader") rfl)) (He.noat_ok (c.t.d.fact 42 (f := .noat "Reader" "numbers") rfl)) clsF_nil),
    d_Reader_take := ⟨⟨He.cls_ok (c.t.d.fact 27 (f := .cls "Reader") rfl), He.meth_ok (c.t.d.fact 28 (f := .meth "Reader" "take") rfl)⟩, c.t.d.def_ 0 (d := hd_Reader_take) rfl⟩,
    d__law_bytes := ⟨He.glo_ok X G (c.t.d.fact 0 (f := .glo "_law_bytes") rfl), c.t.d.def_ 1 (d := hd__law_bytes) rfl⟩,
    d__law_draw := ⟨He.glo_ok X G (c.t.d.fact 1 (f := .glo "_law_draw") rfl), c.t.d.def_ 2 (d := hd__law_draw) rfl⟩,
    d__law_packed := ⟨He.glo_ok X G (c.t.d.fact 2 (f := .glo "_law_packed") rfl), c.t.d.def_ 3 (d := hd__law_packed) rfl⟩,
    d__law_pick := ⟨He.glo_ok X G (c.t.d.fact 3 (f := .glo "_law_pick") rfl), c.t.d.def_ 4 (d := hd__law_pick) rfl⟩,
    d__law_chain := ⟨He.glo_ok X G (c.t.d.fact 4 (f := .glo "_law_chain") rfl), c.t.d.def_ 5 (d := hd__law_chain) rfl⟩,
    d__law_refusal := ⟨He.glo_ok X G (c.t.d.fact 5 (f := .glo "_law_refusal") rfl), c.t.d.def_ 6 (d := hd__law_refusal) rfl⟩,
    d__law_table := ⟨He.glo_ok X G (c.t.d.fact 6 (f := .glo "_law_table") rfl), c.t.d.def_ 7 (d := hd__law_table) rfl⟩,
    d__law_town := ⟨He.glo_ok X G (c.t.d.fact 7 (f := .glo "_law_town") rfl), c.t.d.def_ 8 (d := hd__law_town) rfl⟩,
    d_chains_of := ⟨He.glo_ok X G (c.t.d.fact 8 (f := .glo "chains_of") rfl), c.t.d.def_ 9 (d := hd_chains_of) rfl⟩,
    d_is_whole := ⟨He.glo_ok X G (c.t.d.fact 9 (f := .glo "is_whole") rfl), c.t.d.def_ 10 (d := hd_is_whole) rfl⟩,
    d_Reader___init__ := ⟨⟨He.glo_ok X G (c.t.d.fact 29 (f := .glo "Reader") rfl), He.mkr_ok (c.t.d.fact 30 (f := .mkr "Reader") rfl)⟩, c.t.d.def_ 11 (d := hd_Reader___init__) rfl⟩,
    d_is_chain := ⟨He.glo_ok X G (c.t.d.fact 10 (f := .glo "is_chain") rfl), c.t.d.def_ 12 (d := hd_is_chain) rfl⟩,
    d_is_table := ⟨He.glo_ok X G (c.t.d.fact 11 (f := .glo "is_table") rfl), c.t.d.def_ 13 (d := hd_is_table) rfl⟩,
    d_look_table := ⟨He.glo_ok X G (c.t.d.fact 12 (f := .glo "look_table") rfl), c.t.d.def_ 14 (d := hd_look_table) rfl⟩,
    d_small := ⟨He.glo_ok X G (c.t.d.fact 13 (f := .glo "small") rfl), c.t.d.def_ 15 (d := hd_small) rfl⟩,
    d_packed := ⟨He.glo_ok X G (c.t.d.fact 14 (f := .glo "packed") rfl), c.t.d.def_ 16 (d := hd_packed) rfl⟩,
    d_unpacked := ⟨He.glo_ok X G (c.t.d.fact 15 (f := .glo "unpacked") rfl), c.t.d.def_ 17 (d := hd_unpacked) rfl⟩,
    d__law_read := ⟨He.glo_ok X G (c.t.d.fact 16 (f := .glo "_law_read") rfl), c.t.d.def_ 18 (d := hd__law_read) rfl⟩,
    d_law := ⟨He.glo_ok X G (c.t.d.fact 17 (f := .glo "law") rfl), c.t.d.def_ 19 (d := hd_law) rfl⟩,
    g_BadNumber := He.glo_ok X G (c.t.d.fact 31 (f := .glo "BadNumber") rfl),
    g_BadOrder := He.glo_ok X G (c.t.d.fact 32 (f := .glo "BadOrder") rfl),
    g_BadTable := He.glo_ok X G (c.t.d.fact 33 (f := .glo "BadTable") rfl),
    g_BadText := He.glo_ok X G (c.t.d.fact 34 (f := .glo "BadText") rfl),
    g_BadTree := He.glo_ok X G (c.t.d.fact 35 (f := .glo "BadTree") rfl),
    g_LaneError := He.glo_ok X G (c.t.d.fact 36 (f := .glo "LaneError") rfl),
    g_NoPlace := He.glo_ok X G (c.t.d.fact 37 (f := .glo "NoPlace") rfl),
    g_Over := He.glo_ok X G (c.t.d.fact 38 (f := .glo "Over") rfl),
    g_Stuck := He.glo_ok X G (c.t.d.fact 39 (f := .glo "Stuck") rfl),
    x_BadTable := (c.t.d.fact 40 (f := .exc "BadTable") rfl) }
end CL
namespace CL
open PySem L2
/-- what a mirror's run must bring -/
def Wp {A : Type} (m : Mo A) (st : Store) (post : A → Store → Prop) (ex : Str → List Da → Store → Prop) : Prop := match m st with
  | .ok a st' => post a st'
  | .exc c as st' => ex c as st'
  | .bad => False
abbrev noEx : Str → List Da → Store → Prop := fun _ _ _ => False
section
variable {A B : Type} {st : Store} {ex : Str → List Da → Store → Prop}
theorem Wp.mono {m : Mo A} {post post' : A → Store → Prop} (h : Wp m st post ex) (hp : ∀ a st', post a st' → post' a st') : Wp m st post' ex := by
  unfold Wp at h ⊢
  cases q : m st with
  | ok a st' => rw [q] at h; exact hp a st' h
  | exc c as st' => rw [q] at h; exact h
  | bad => rw [q] at h; exact h
theorem Wp.congr {m : Mo A} {post post' : A → Store → Prop} (hp : ∀ a st', post a st' ↔ post' a st') : Wp m st post ex ↔ Wp m st post' ex :=
  ⟨fun h => h.mono fun a s => (hp a s).mp, fun h => h.mono fun a s => (hp a s).mpr⟩
theorem Wp.ofNo {m : Mo A} {post post' : A → Store → Prop} (h : Wp m st post noEx) (hp : ∀ a st', post a st' → post' a st') : Wp m st post' ex := by
  unfold Wp at h ⊢
  cases q : m st with
  | ok a st' => rw [q] at h; exact hp a st' h
  | exc c as st' => rw [q] at h; exact h.elim
  | bad => rw [q] at h; exact h
theorem Wp.out {m : Mo A} {post : A → Store → Prop} (h : Wp m st post noEx) : ∃ a st', m st = .ok a st' ∧ post a st' := by
  unfold Wp at h
  cases q : m st with
  | ok a st' => rw [q] at h; exact ⟨a, st', rfl, h⟩
  | exc c as st' => rw [q] at h; exact h.elim
  | bad => rw [q] at h; exact h.elim
theorem Wp.of {m : Mo A} {post : A → Store → Prop} {a : A} {st' : Store} (h : m st = .ok a st') (hp : post a st') : Wp m st post ex := by
  unfold Wp; rw [h]; exact hp
@[simp] theorem wp_bnd {m : Mo A} {f : A → Mo B} {post : B → Store → Prop} : Wp (bnd m f) st post ex ↔ Wp m st (fun a st' => Wp (f a) st' post ex) ex := by
  unfold Wp bnd
  cases m st <;> rfl
@[simp] theorem wp_ret {a : A} {post : A → Store → Prop} : Wp (ret a) st post ex ↔ post a st := Iff.rfl
@[simp] theorem wp_nop {post : A → Store → Prop} : Wp (nop : Mo A) st post ex ↔ False := Iff.rfl
@[simp] theorem wp_noX {m : Mo A} {post : A → Store → Prop} : Wp (noX m) st post ex ↔ Wp m st post noEx := by
  unfold Wp noX
  cases m st <;> rfl
@[simp] theorem wp_ite {c : Prop} [Decidable c] {m n : Mo A} {post : A → Store → Prop} : Wp (if c then m else n) st post ex ↔ if c then Wp m st post ex else Wp n st post ex := by
  split <;> rfl
variable {a b c : Sl → Mo Da} {p q : Sl → Mo Bool} {al : Sl → Mo (List Da)} {ro : Sl} {post : Da → Store → Prop} {postB : Bool → Store → Prop} {postL : List Da → Store → Prop} {postF : Fl → Store → Prop}
theorem wp_var {i : Nat} {d : Da} (h : ro[i]? = some (some d)) : Wp (eVar i ro) st post ex ↔ post d st := by
  unfold Wp eVar; rw [h]
@[simp] theorem wp_var0 {d : Da} {r : Sl} : Wp (eVar 0 (some d :: r)) st post ex ↔ post d st := Iff.rfl
@[simp] theorem wp_varS {i : Nat} {o : Option Da} {r : Sl} : Wp (eVar (i + 1) (o :: r)) st post ex ↔ Wp (eVar i r) st post ex := Iff.rfl
@[simp] theorem wp_var1 {o0 : Option Da} {d : Da} {r : Sl} : Wp (eVar 1 (o0 :: some d :: r)) st post ex ↔ post d st := Iff.rfl
@[simp] theorem wp_var2 {o0 o1 : Option Da} {d : Da} {r : Sl} : Wp (eVar 2 (o0 :: o1 :: some d :: r)) st post ex ↔ post d st := Iff.rfl
@[simp] theorem wp_var3 {o0 o1 o2 : Option Da} {d : Da} {r : Sl} : Wp (eVar 3 (o0 :: o1 :: o2 :: some d :: r)) st post ex ↔ post d st := Iff.rfl
@[simp] theorem wp_var4 {o0 o1 o2 o3 : Option Da} {d : Da} {r : Sl} : Wp (eVar 4 (o0 :: o1 :: o2 :: o3 :: some d :: r)) st post ex ↔ post d st := Iff.rfl
@[simp] theorem wp_var5 {o0 o1 o2 o3 o4 : Option Da} {d : Da} {r : Sl} : Wp (eVar 5 (o0 :: o1 :: o2 :: o3 :: o4 :: some d :: r)) st post ex ↔ post d st := Iff.rfl
@[simp] theorem wp_var6 {o0 o1 o2 o3 o4 o5 : Option Da} {d : Da} {r : Sl} : Wp (eVar 6 (o0 :: o1 :: o2 :: o3 :: o4 :: o5 :: some d :: r)) st post ex ↔ post d st := Iff.rfl
@[simp] theorem wp_var7 {o0 o1 o2 o3 o4 o5 o6 : Option Da} {d : Da} {r : Sl} : Wp (eVar 7 (o0 :: o1 :: o2 :: o3 :: o4 :: o5 :: o6 :: some d :: r)) st post ex ↔ post d st := Iff.rfl
@[simp] theorem wp_var8 {o0 o1 o2 o3 o4 o5 o6 o7 : Option Da} {d : Da} {r : Sl} : Wp (eVar 8 (o0 :: o1 :: o2 :: o3 :: o4 :: o5 :: o6 :: o7 :: some d :: r)) st post ex ↔ post d st := Iff.rfl
@[simp] theorem wp_var9 {o0 o1 o2 o3 o4 o5 o6 o7 o8 : Option Da} {d : Da} {r : Sl} : Wp (eVar 9 (o0 :: o1 :: o2 :: o3 :: o4 :: o5 :: o6 :: o7 :: o8 :: some d :: r)) st post ex ↔ post d st := Iff.rfl
@[simp] theorem wp_var10 {o0 o1 o2 o3 o4 o5 o6 o7 o8 o9 : Option Da} {d : Da} {r : Sl} : Wp (eVar 10 (o0 :: o1 :: o2 :: o3 :: o4 :: o5 :: o6 :: o7 :: o8 :: o9 :: some d :: r)) st post ex ↔ post d st := Iff.rfl
@[simp] theorem wp_c {d : Da} : Wp (eC d ro) st post ex ↔ post d st := Iff.rfl
@[simp] theorem wp_e2 {f : Da → Da → Mo Da} : Wp (e2 f a b ro) st post ex ↔ Wp (a ro) st (fun x s1 => Wp (b ro) s1 (fun y s2 => Wp (f x y) s2 post ex) ex) ex := by unfold e2; simp only [wp_bnd]
@[simp] theorem wp_e1 {f : Da → Mo Da} : Wp (e1 f a ro) st post ex ↔ Wp (a ro) st (fun x s1 => Wp (f x) s1 post ex) ex := by unfold e1; simp only [wp_bnd]
@[simp] theorem wp_toB {k : Bool} : Wp (toB (.bl k)) st postB ex ↔ postB k st := Iff.rfl
@[simp] theorem wp_tst : Wp (tst a ro) st postB ex ↔ Wp (a ro) st (fun x s1 => Wp (toB x) s1 postB ex) ex := by unfold tst; simp only [wp_bnd]
@[simp] theorem wp_and : Wp (tAnd_ p q ro) st postB ex ↔ Wp (p ro) st (fun x s1 => if x = true then Wp (q ro) s1 postB ex else postB false s1) ex := by unfold tAnd_; simp only [wp_bnd, wp_ite, wp_ret]
@[simp] theorem wp_or : Wp (tOr_ p q ro) st postB ex ↔ Wp (p ro) st (fun x s1 => if x = true then postB true s1 else Wp (q ro) s1 postB ex) ex := by unfold tOr_; simp only [wp_bnd, wp_ite, wp_ret]
@[simp] theorem wp_not : Wp (tNot_ p ro) st postB ex ↔ Wp (p ro) st (fun x s1 => postB (!x) s1) ex := by unfold tNot_; simp only [wp_bnd, wp_ret]
@[simp] theorem wp_vAnd : Wp (vAnd a b ro) st post ex ↔ Wp (tst a ro) st (fun x s1 => if x = true then Wp (b ro) s1 post ex else post (.bl false) s1) ex := by unfold vAnd; simp only [wp_bnd, wp_ite, wp_ret]
@[simp] theorem wp_vOr : Wp (vOr a b ro) st post ex ↔ Wp (tst a ro) st (fun x s1 => if x = true then post (.bl true) s1 else Wp (b ro) s1 post ex) ex := by unfold vOr; simp only [wp_bnd, wp_ite, wp_ret]
@[simp] theorem wp_vNot : Wp (vNot a ro) st post ex ↔ Wp (tst a ro) st (fun x s1 => post (.bl (!x)) s1) ex := by unfold vNot; simp only [wp_bnd, wp_ret]
@[simp] theorem wp_eIf : Wp (eIf p a b ro) st post ex ↔ Wp (p ro) st (fun x s1 => if x = true then Wp (a ro) s1 post ex else Wp (b ro) s1 post ex) ex := by unfold eIf; simp only [wp_bnd, wp_ite]
@[simp] theorem wp_aNil : Wp (aNil ro) st postL ex ↔ postL [] st := Iff.rfl
@[simp] theorem wp_aCons : Wp (aCons a al ro) st postL ex ↔ Wp (a ro) st (fun x s1 => Wp (al ro) s1 (fun xs s2 => postL (x :: xs) s2) ex) ex := by unfold aCons; simp only [wp_bnd, wp_ret]
@[simp] theorem wp_eTup : Wp (eTup al ro) st post ex ↔ Wp (al ro) st (fun xs s1 => if xs.length ≤ 1000 then post (.tup xs) s1 else False) ex := by unfold eTup; simp only [wp_bnd, wp_ite, wp_ret, wp_nop]
@[simp] theorem wp_lDisp : Wp (lDisp al ro) st postL ex ↔ Wp (al ro) st (fun xs s1 => if xs.length ≤ 1000 then postL xs s1 else False) ex := by unfold lDisp; simp only [wp_bnd, wp_ite, wp_ret, wp_nop]
@[simp] theorem wp_eL : Wp (eL al ro) st post ex ↔ Wp (al ro) st (fun xs s1 => post (.lst xs) s1) ex := by unfold eL; simp only [wp_bnd, wp_ret]
theorem wp_H1 {xs : List Da} {post : Da → Store → Prop} : Wp (fun st => Res.ok (Da.han st.length) (st ++ [Cell.lst xs])) st post ex ↔ post (.han st.length) (st ++ [.lst xs]) := Iff.rfl
@[simp] theorem wp_eH : Wp (eH al ro) st post ex ↔ Wp (al ro) st (fun xs s1 => post (.han s1.length) (s1 ++ [.lst xs])) ex := by unfold eH; simp only [wp_bnd, wp_H1]
@[simp] theorem wp_eF : Wp (eF a ro) st post ex ↔ Wp (a ro) st (fun x s1 => Wp (fz x) s1 post ex) ex := by unfold eF; simp only [wp_bnd]
theorem wp_fz {n : Nat} {ds : List Da} (h : st[n]? = some (.lst ds)) : Wp (fz (.han n)) st post ex ↔ post (.lst ds) (st.set n .dead) := by unfold Wp fz; dsimp only; rw [h]
@[simp] theorem wp_eCall {f : List Da → Mo Da} : Wp (eCall f al ro) st post ex ↔ Wp (al ro) st (fun xs s1 => Wp (f xs) s1 post ex) ex := by unfold eCall; simp only [wp_bnd]
@[simp] theorem wp_lCall {f : List Da → Mo (List Da)} : Wp (lCall f al ro) st postL ex ↔ Wp (al ro) st (fun xs s1 => Wp (f xs) s1 postL ex) ex := by unfold lCall; simp only [wp_bnd]
@[simp] theorem wp_l2 {f : Da → Da → Mo (List Da)} : Wp (l2 f a b ro) st postL ex ↔ Wp (a ro) st (fun x s1 => Wp (b ro) s1 (fun y s2 => Wp (f x y) s2 postL ex) ex) ex := by unfold l2; simp only [wp_bnd]
@[simp] theorem wp_chain {f g : Da → Da → Mo Da} : Wp (eChain f g a b c ro) st post ex ↔ Wp (a ro) st (fun x s1 => Wp (b ro) s1 (fun y s2 => Wp (f x y) s2 (fun z s3 => Wp (toB z) s3 (fun k s4 => if k = true then Wp (c ro) s4 (fun z s5 => Wp (g y z) s5 post ex) ex else post (.bl false) s4) ex) ex) ex) ex := by
  unfold eChain; simp only [wp_bnd, wp_ite, wp_ret]
@[simp] theorem wp_ar {n : Nat} {f : List Da → Mo A} {ds : List Da} {post : A → Store → Prop} : Wp (ar n f ds) st post ex ↔ if ds.length = n then Wp (f ds) st post ex else False := by
  unfold ar; simp only [wp_ite, wp_nop]
@[simp] theorem wp_one {f : Da → Mo A} {d : Da} {post : A → Store → Prop} : Wp (one f [d]) st post ex ↔ Wp (f d) st post ex := Iff.rfl
@[simp] theorem wp_two {f : Da → Da → Mo A} {d e : Da} {post : A → Store → Prop} : Wp (two f [d, e]) st post ex ↔ Wp (f d e) st post ex := Iff.rfl
@[simp] theorem wp_add_i {i j : Int} : Wp (addD (.int i) (.int j)) st post ex ↔ post (.int (i + j)) st := Iff.rfl
@[simp] theorem wp_sub_i {i j : Int} : Wp (subD (.int i) (.int j)) st post ex ↔ post (.int (i - j)) st := Iff.rfl
@[simp] theorem wp_mul_i {i j : Int} : Wp (mulD (.int i) (.int j)) st post ex ↔ if CMul i j then post (.int (i * j)) st else False := by unfold mulD; simp only [wp_ite, wp_ret, wp_nop]
@[simp] theorem wp_fdiv_i {i j : Int} : Wp (fdivD (.int i) (.int j)) st post ex ↔ if CDivN i j then post (.int (i.fdiv j)) st else False := by unfold fdivD; simp only [wp_ite, wp_ret, wp_nop]
@[simp] theorem wp_mod_i {i j : Int} : Wp (modD (.int i) (.int j)) st post ex ↔ if j ≠ 0 then post (.int (i.fmod j)) st else False := by unfold modD; simp only [wp_ite, wp_ret, wp_nop]
@[simp] theorem wp_pow_i {i j : Int} : Wp (powD (.int i) (.int j)) st post ex ↔ if CPow i j then post (.int (i ^ j.toNat)) st else False := by unfold powD; simp only [wp_ite, wp_ret, wp_nop]
@[simp] theorem wp_lt_i {i j : Int} : Wp (ltD (.int i) (.int j)) st post ex ↔ post (.bl (decide (i < j))) st := Iff.rfl
@[simp] theorem wp_le_i {i j : Int} : Wp (leD (.int i) (.int j)) st post ex ↔ post (.bl (decide (i ≤ j))) st := Iff.rfl
@[simp] theorem wp_gt_i {i j : Int} : Wp (gtD (.int i) (.int j)) st post ex ↔ post (.bl (decide (j < i))) st := Iff.rfl
@[simp] theorem wp_ge_i {i j : Int} : Wp (geD (.int i) (.int j)) st post ex ↔ post (.bl (decide (j ≤ i))) st := Iff.rfl
@[simp] theorem wp_neg_i {i : Int} : Wp (negD (.int i)) st post ex ↔ post (.int (-i)) st := Iff.rfl
@[simp] theorem wp_max_i {i j : Int} : Wp (maxD (.int i) (.int j)) st post ex ↔ post (.int (if j > i then j else i)) st := Iff.rfl
@[simp] theorem wp_min_i {i j : Int} : Wp (minD (.int i) (.int j)) st post ex ↔ post (.int (if j < i then j else i)) st := Iff.rfl
theorem wp_isT {t u : Tn} {d : Da} (h : tyN st d = some u) : Wp (isT t d) st post ex ↔ post (.bl (isTn u t)) st := by unfold Wp isT; rw [h]
@[simp] theorem wp_isT_i {t : Tn} {i : Int} : Wp (isT t (.int i)) st post ex ↔ post (.bl (isTn .int t)) st := Iff.rfl
@[simp] theorem wp_isT_b {t : Tn} {i : Bool} : Wp (isT t (.bl i)) st post ex ↔ post (.bl (isTn .bool t)) st := Iff.rfl
@[simp] theorem wp_isT_s {t : Tn} {i : Str} : Wp (isT t (.str i)) st post ex ↔ post (.bl (isTn .str t)) st := Iff.rfl
@[simp] theorem wp_isT_n {t : Tn} : Wp (isT t .non) st post ex ↔ post (.bl (isTn .non t)) st := Iff.rfl
@[simp] theorem wp_isT_t {t : Tn} {xs : List Da} : Wp (isT t (.tup xs)) st post ex ↔ post (.bl (isTn .tuple t)) st := Iff.rfl
@[simp] theorem wp_isT_l {t : Tn} {xs : List Da} : Wp (isT t (.lst xs)) st post ex ↔ post (.bl (isTn .list t)) st := Iff.rfl
@[simp] theorem wp_is_non {b : Bool} : Wp (isB b .non .non) st post ex ↔ post (.bl (if b then false else true)) st := by cases b <;> exact Iff.rfl
@[simp] theorem wp_is_int {b : Bool} {i : Int} : Wp (isB b (.int i) .non) st post ex ↔ post (.bl (if b then true else false)) st := by cases b <;> exact Iff.rfl
@[simp] theorem wp_is_tup {b : Bool} {i : List Da} : Wp (isB b (.tup i) .non) st post ex ↔ post (.bl (if b then true else false)) st := by cases b <;> exact Iff.rfl
@[simp] theorem wp_is_lst {b : Bool} {i : List Da} : Wp (isB b (.lst i) .non) st post ex ↔ post (.bl (if b then true else false)) st := by cases b <;> exact Iff.rfl
@[simp] theorem wp_is_bl {b x y : Bool} : Wp (isB b (.bl x) (.bl y)) st post ex ↔ post (.bl (if b then !decide (x = y) else decide (x = y))) st := Iff.rfl
theorem wp_len {d : Da} {xs : List Da} (h : sqOf st d = some xs) : Wp (lenD d) st post ex ↔ post (.int xs.length) st := by
  unfold Wp lenD
  cases d <;> first | (dsimp only; rw [h]) | (cases h)
@[simp] theorem wp_len_l {xs : List Da} : Wp (lenD (.lst xs)) st post ex ↔ post (.int xs.length) st := Iff.rfl
@[simp] theorem wp_len_t {xs : List Da} : Wp (lenD (.tup xs)) st post ex ↔ post (.int xs.length) st := Iff.rfl
theorem wp_ix {d x : Da} {xs : List Da} {i : Int} (hf : ∀ ys, d ≠ .fro ys) (h : sqOf st d = some xs) (hx : atI xs i = some x) : Wp (ixD d (.int i)) st post ex ↔ post x st := by
  unfold Wp ixD
  cases d with
  | fro ys => exact absurd rfl (hf ys)
  | str s => cases h
  | non => cases h
  | bl b => cases h
  | int i => cases h
  | tup ys => dsimp only; rw [h]; dsimp only; rw [hx]
  | lst ys => dsimp only; rw [h]; dsimp only; rw [hx]
  | han n => dsimp only; rw [h]; dsimp only; rw [hx]
theorem wp_ix_t {x : Da} {xs : List Da} {i : Int} (hx : atI xs i = some x) : Wp (ixD (.tup xs) (.int i)) st post ex ↔ post x st := wp_ix (fun _ z => nomatch z) rfl hx
theorem wp_ix_l {x : Da} {xs : List Da} {i : Int} (hx : atI xs i = some x) : Wp (ixD (.lst xs) (.int i)) st post ex ↔ post x st := wp_ix (fun _ z => nomatch z) rfl hx
theorem wp_ix_h {n : Nat} {x : Da} {xs : List Da} {i : Int} (h : st[n]? = some (.lst xs)) (hx : atI xs i = some x) : Wp (ixD (.han n) (.int i)) st post ex ↔ post x st :=
  wp_ix (fun _ z => nomatch z) (by unfold sqOf lsOf; dsimp only; rw [h]) hx
@[simp] theorem wp_ix_t0 {x0 : Da} {r : List Da} : Wp (ixD (.tup (x0 :: r)) (.int 0)) st post ex ↔ post x0 st := wp_ix_t (atI_nat (j := 0) rfl)
@[simp] theorem wp_ix_t1 {x0 x1 : Da} {r : List Da} : Wp (ixD (.tup (x0 :: x1 :: r)) (.int 1)) st post ex ↔ post x1 st := wp_ix_t (atI_nat (j := 1) rfl)
@[simp] theorem wp_ix_t2 {x0 x1 x2 : Da} {r : List Da} : Wp (ixD (.tup (x0 :: x1 :: x2 :: r)) (.int 2)) st post ex ↔ post x2 st := wp_ix_t (atI_nat (j := 2) rfl)
@[simp] theorem wp_ix_t3 {x0 x1 x2 x3 : Da} {r : List Da} : Wp (ixD (.tup (x0 :: x1 :: x2 :: x3 :: r)) (.int 3)) st post ex ↔ post x3 st := wp_ix_t (atI_nat (j := 3) rfl)
@[simp] theorem wp_ix_l0 {x0 : Da} {r : List Da} : Wp (ixD (.lst (x0 :: r)) (.int 0)) st post ex ↔ post x0 st := wp_ix_l (atI_nat (j := 0) rfl)
theorem wp_list {d : Da} {xs : List Da} (h : sqOf st d = some xs) : Wp (listD d) st postL ex ↔ postL xs st := by unfold Wp listD; rw [h]
@[simp] theorem wp_list_l {xs : List Da} : Wp (listD (.lst xs)) st postL ex ↔ postL xs st := Iff.rfl
@[simp] theorem wp_list_t {xs : List Da} : Wp (listD (.tup xs)) st postL ex ↔ postL xs st := Iff.rfl
@[simp] theorem wp_list_f {xs : List Da} : Wp (listD (.fro xs)) st postL ex ↔ postL xs st := Iff.rfl
@[simp] theorem wp_tuple_l {xs : List Da} : Wp (tupleD (.lst xs)) st post ex ↔ post (.tup xs) st := Iff.rfl
theorem wp_tuple_h {n : Nat} {xs : List Da} (h : st[n]? = some (.lst xs)) : Wp (tupleD (.han n)) st post ex ↔ post (.tup xs) st := by
  unfold Wp tupleD sqOf lsOf; dsimp only; rw [h]
@[simp] theorem wp_catL_l {xs ys : List Da} : Wp (catL (.lst xs) (.lst ys)) st postL ex ↔ if xs.length + ys.length ≤ 1000000 then postL (xs ++ ys) st else False := by
  unfold Wp catL lsOf
  dsimp only
  by_cases h : xs.length + ys.length ≤ szD
  · rw [if_pos h, if_pos h]
  · rw [if_neg h, if_neg h]
theorem blsOf_map (bs : List Bool) : blsOf (bs.map Da.bl) = some bs := by
  induction bs with
  | nil => rfl
  | cons b r ih => show (blsOf (r.map Da.bl)).map (b :: ·) = _; rw [ih]; rfl
theorem wp_all {xs : List Da} {bs : List Bool} (h : xs = bs.map Da.bl) : Wp (allD (.lst xs)) st post ex ↔ post (.bl (bs.all id)) st := by
  unfold Wp allD lsOf; dsimp only; rw [h, blsOf_map]
@[simp] theorem wp_all1 {x : Bool} : Wp (allD (.lst [.bl x])) st post ex ↔ post (.bl x) st := (wp_all (xs := [.bl x]) (bs := [x]) rfl).trans (by simp)
@[simp] theorem wp_all2 {x y : Bool} : Wp (allD (.lst [.bl x, .bl y])) st post ex ↔ post (.bl (x && y)) st := (wp_all (xs := [.bl x, .bl y]) (bs := [x, y]) rfl).trans (by simp)
theorem wp_len_h {n : Nat} {xs : List Da} (h : st[n]? = some (.lst xs)) : Wp (lenD (.han n)) st post ex ↔ post (.int xs.length) st := wp_len (by unfold sqOf lsOf; dsimp only; rw [h])
theorem wp_setD {n : Nat} {k : Int} {x : Da} {xs : List Da} {j : Nat} {post : Unit → Store → Prop} (h : st[n]? = some (.lst xs)) (hj : ixN xs.length k = some j) : Wp (setD (.han n) (.int k) x) st post ex ↔ post () (st.set n (.lst (xs.set j x))) := by
  unfold Wp setD; dsimp only; rw [h]; dsimp only; rw [hj]
@[simp] theorem wp_eApp : Wp (eApp a b ro) st post ex ↔ Wp (a ro) st (fun d s1 => Wp (isLs d) s1 (fun _ s2 => Wp (b ro) s2 (fun x s3 => Wp (appD d x) s3 post ex) ex) ex) ex := by unfold eApp; simp only [wp_bnd]
theorem wp_isLs {d : Da} {xs : List Da} {post : Unit → Store → Prop} (h : lsOf st d = some xs) : Wp (isLs d) st post ex ↔ post () st := by unfold Wp isLs; rw [h]
theorem wp_isLs_h {n : Nat} {xs : List Da} {post : Unit → Store → Prop} (h : st[n]? = some (.lst xs)) : Wp (isLs (.han n)) st post ex ↔ post () st := wp_isLs (xs := xs) (by unfold lsOf; dsimp only; rw [h])
theorem wp_appD {n : Nat} {x : Da} {xs : List Da} (h : st[n]? = some (.lst xs)) (hl : xs.length < szD) : Wp (appD (.han n) x) st post ex ↔ post .non (st.set n (.lst (xs ++ [x]))) := by
  unfold Wp appD; dsimp only; rw [h]; dsimp only; rw [if_pos hl]
@[simp] theorem wp_ePopAt : Wp (ePopAt a b ro) st post ex ↔ Wp (a ro) st (fun d s1 => Wp (isLs d) s1 (fun _ s2 => Wp (b ro) s2 (fun x s3 => Wp (popAtD d x) s3 post ex) ex) ex) ex := by unfold ePopAt; simp only [wp_bnd]
@[simp] theorem wp_ePop : Wp (ePop a ro) st post ex ↔ Wp (a ro) st (fun d s1 => Wp (isLs d) s1 (fun _ s2 => Wp (popD d) s2 post ex) ex) ex := by unfold ePop; simp only [wp_bnd]
@[simp] theorem wp_mSetSl {lo hi : Sl → Mo (Option Int)} : Wp (mSetSl a b lo hi ro) st postF ex ↔ Wp (a ro) st (fun x s1 => Wp (b ro) s1 (fun d s2 => Wp (lo ro) s2 (fun l s3 => Wp (hi ro) s3 (fun h s4 => Wp (setSlD d l h x) s4 (fun _ s5 => postF (.nx ro) s5) ex) ex) ex) ex) ex := by unfold mSetSl; simp only [wp_bnd, wp_ret]
variable {m n : Sl → Mo Fl}
@[simp] theorem wp_mNil : Wp (mNil ro) st postF ex ↔ postF (.nx ro) st := Iff.rfl
def seqK (n : Sl → Mo Fl) (postF : Fl → Store → Prop) (ex : Str → List Da → Store → Prop) (f : Fl) (st : Store) : Prop := match f with
  | .nx ro => Wp (n ro) st postF ex
  | .rt d => postF (.rt d) st
  | .bk ro => postF (.bk ro) st
  | .ct ro => postF (.ct ro) st
@[simp] theorem seqK_nx : seqK n postF ex (.nx ro) st ↔ Wp (n ro) st postF ex := Iff.rfl
@[simp] theorem seqK_rt {d : Da} : seqK n postF ex (.rt d) st ↔ postF (.rt d) st := Iff.rfl
@[simp] theorem seqK_bk : seqK n postF ex (.bk ro) st ↔ postF (.bk ro) st := Iff.rfl
@[simp] theorem seqK_ct : seqK n postF ex (.ct ro) st ↔ postF (.ct ro) st := Iff.rfl
@[simp] theorem wp_mSeq : Wp (mSeq m n ro) st postF ex ↔ Wp (m ro) st (seqK n postF ex) ex := by
  unfold mSeq
  rw [wp_bnd]
  exact Wp.congr fun f s => by cases f <;> exact Iff.rfl
@[simp] theorem wp_mSet {i : Nat} : Wp (mSet i a ro) st postF ex ↔ Wp (a ro) st (fun d s1 => postF (.nx (ro.set i (some d))) s1) ex := by unfold mSet; simp only [wp_bnd, wp_ret]
@[simp] theorem wp_mTgt {t : Tg} : Wp (mTgt t a ro) st postF ex ↔ Wp (a ro) st (fun d s1 => ∃ ro', t d ro = some ro' ∧ postF (.nx ro') s1) ex := by
  unfold mTgt
  rw [wp_bnd]
  refine Wp.congr fun d s => ?_
  cases q : t d ro with
  | none => simp
  | some r => simp
def parK (i j : Nat) (ro : Sl) (postF : Fl → Store → Prop) (ds : List Da) (st : Store) : Prop := match ds with
  | [d, e] => postF (.nx ((ro.set i (some d)).set j (some e))) st
  | _ => False
@[simp] theorem parK_two {i j : Nat} {d e : Da} : parK i j ro postF [d, e] st ↔ postF (.nx ((ro.set i (some d)).set j (some e))) st := Iff.rfl
@[simp] theorem wp_mPar {i j : Nat} : Wp (mPar i j al ro) st postF ex ↔ Wp (al ro) st (parK i j ro postF) ex := by
  unfold mPar
  rw [wp_bnd]
  refine Wp.congr fun ds s => ?_
  match ds with
  | [] => exact Iff.rfl
  | [d] => exact Iff.rfl
  | [d, e] => exact Iff.rfl
  | d :: e :: f :: r => exact Iff.rfl
@[simp] theorem wp_mRet : Wp (mRet a ro) st postF ex ↔ Wp (a ro) st (fun d s1 => postF (.rt d) s1) ex := by unfold mRet; simp only [wp_bnd, wp_ret]
@[simp] theorem wp_mRetN : Wp (mRetN ro) st postF ex ↔ postF (.rt .non) st := Iff.rfl
@[simp] theorem wp_mExpr : Wp (mExpr a ro) st postF ex ↔ Wp (a ro) st (fun d s1 => postF (.nx ro) s1) ex := by unfold mExpr; simp only [wp_bnd, wp_ret]
@[simp] theorem wp_mIf : Wp (mIf p m n ro) st postF ex ↔ Wp (p ro) st (fun x s1 => if x = true then Wp (m ro) s1 postF ex else Wp (n ro) s1 postF ex) ex := by unfold mIf; simp only [wp_bnd, wp_ite]
@[simp] theorem wp_mBrk : Wp (mBrk ro) st postF ex ↔ postF (.bk ro) st := Iff.rfl
@[simp] theorem wp_mNever : Wp (mNever ro) st postF ex ↔ False := Iff.rfl
@[simp] theorem wp_mSetI : Wp (mSetI a b c ro) st postF ex ↔ Wp (a ro) st (fun x s1 => Wp (b ro) s1 (fun d s2 => Wp (c ro) s2 (fun k s3 => Wp (setD d k x) s3 (fun _ s4 => postF (.nx ro) s4) ex) ex) ex) ex := by unfold mSetI; simp only [wp_bnd, wp_ret]
def fnK (post : Da → Store → Prop) (f : Fl) (st : Store) : Prop := match f with
  | .nx _ => post .non st
  | .rt d => post d st
  | _ => False
@[simp] theorem fnK_nx : fnK post (.nx ro) st ↔ post .non st := Iff.rfl
@[simp] theorem fnK_rt {d : Da} : fnK post (.rt d) st ↔ post d st := Iff.rfl
@[simp] theorem wp_fnM {k : Nat} {ds : List Da} : Wp (fnM k m ds) st post ex ↔ Wp (m (startS k ds)) st (fnK post) ex := by
  unfold fnM
  rw [wp_bnd]
  exact Wp.congr fun f s => by cases f <;> exact Iff.rfl
def loopP (I : Sl → Store → Prop) (postF : Fl → Store → Prop) (f : Fl) (st : Store) : Prop := match f with
  | .nx ro => I ro st
  | .ct ro => I ro st
  | .bk ro => postF (.nx ro) st
  | .rt d => postF (.rt d) st
@[simp] theorem loopP_nx {I : Sl → Store → Prop} : loopP I postF (.nx ro) st ↔ I ro st := Iff.rfl
@[simp] theorem loopP_ct {I : Sl → Store → Prop} : loopP I postF (.ct ro) st ↔ I ro st := Iff.rfl
@[simp] theorem loopP_bk {I : Sl → Store → Prop} : loopP I postF (.bk ro) st ↔ postF (.nx ro) st := Iff.rfl
@[simp] theorem loopP_rt {I : Sl → Store → Prop} {d : Da} : loopP I postF (.rt d) st ↔ postF (.rt d) st := Iff.rfl
theorem wp_loopK {go : Sl → Mo Fl} {f : Fl} (h : loopP (fun ro st => Wp (go ro) st postF ex) postF f st) : Wp (loopK go f) st postF ex := by
  cases f <;> exact h
theorem wp_forGo {all : List Da} {t : Tg} {body : Sl → Mo Fl} (I : Nat → Sl → Store → Prop) {xs : List Da} (hs : ∀ (i : Nat) (x : Da) (ro : Sl) (st : Store), xs[i]? = some x → I i ro st → ∃ ro1, t x ro = some ro1 ∧ Wp (body ro1) st (loopP (I (i + 1)) postF) ex)
    (hd : ∀ ro st, I xs.length ro st → postF (.nx ro) st) : ∀ (k : Nat) (ro : Sl) (st : Store), k ≤ xs.length → I k ro st → Wp (forGo none all t body (xs.drop k) ro) st postF ex := by
  intro k
  induction hn : xs.length - k generalizing k with
  | zero =>
    intro ro st hk h
    have e : k = xs.length := by omega
    subst e
    rw [List.drop_length]
    exact hd ro st h
  | succ n ih =>
    intro ro st hk h
    have hlt : k < xs.length := by omega
    rw [List.drop_eq_getElem_cons hlt]
    obtain ⟨ro1, h1, h2⟩ := hs k _ ro st (List.getElem?_eq_getElem hlt) h
    show Wp (fun st => if chk none all st = true then (match t xs[k] ro with | some ro1 => bnd (body ro1) (loopK (forGo none all t body (xs.drop (k + 1)))) st | none => .bad) else .bad) st postF ex
    rw [h1]
    show Wp (bnd (body ro1) (loopK (forGo none all t body (xs.drop (k + 1))))) st postF ex
    rw [wp_bnd]
    refine h2.mono fun f st' hf => wp_loopK ?_
    cases f with
    | nx ro' => exact ih (k + 1) (by omega) ro' st' hlt hf
    | ct ro' => exact ih (k + 1) (by omega) ro' st' hlt hf
    | bk ro' => exact hf
    | rt d => exact hf
theorem wp_for {s : Sl → Mo Src} {t : Tg} {body : Sl → Mo Fl} : Wp (mFor s t body ro) st postF ex ↔ Wp (s ro) st (fun s st' => Wp (forGo s.o s.xs t body s.xs ro) st' postF ex) ex := by unfold mFor; rw [wp_bnd]
/-- a for over data: what holds between the turns -/
theorem wp_forI {all : List Da} {t : Tg} {body : Sl → Mo Fl} {xs : List Da} (I : Nat → Sl → Store → Prop) (h0 : I 0 ro st)
    (hs : ∀ (i : Nat) (x : Da) (ro : Sl) (st : Store), xs[i]? = some x → I i ro st → ∃ ro1, t x ro = some ro1 ∧ Wp (body ro1) st (loopP (I (i + 1)) postF) ex)
    (hd : ∀ ro st, I xs.length ro st → postF (.nx ro) st) : Wp (forGo none all t body xs ro) st postF ex := wp_forGo I hs hd 0 ro st (Nat.zero_le _) h0
theorem wp_whileI {body : Sl → Mo Fl} (I : Nat → Sl → Store → Prop) (hs : ∀ (k : Nat) (ro : Sl) (st : Store), I k ro st → Wp (p ro) st (fun c s1 => if c = true then Wp (body ro) s1 (loopP (fun ro' s2 => ∃ j, j < k ∧ I j ro' s2) postF) ex else postF (.nx ro) s1) ex) :
    ∀ (fuel k : Nat) (ro : Sl) (st : Store), k < fuel → I k ro st → Wp (whileF p body fuel ro) st postF ex := by
  intro fuel
  induction fuel with
  | zero => intro k ro st h; omega
  | succ n ih =>
    intro k ro st hk h
    unfold whileF
    rw [wp_bnd]
    refine (hs k ro st h).mono fun c s1 hc => ?_
    rw [wp_ite]
    cases c with
    | true =>
      rw [if_pos rfl] at hc ⊢
      rw [wp_bnd]
      refine hc.mono fun f s2 hf => wp_loopK ?_
      cases f with
      | nx ro' => obtain ⟨j, hj, hI⟩ := hf; exact ih j ro' s2 (by omega) hI
      | ct ro' => obtain ⟨j, hj, hI⟩ := hf; exact ih j ro' s2 (by omega) hI
      | bk ro' => exact hf
      | rt d => exact hf
    | false =>
      rw [if_neg Bool.false_ne_true] at hc ⊢
      exact hc
theorem wp_compGo {all : List Da} {t : Tg} {p : Sl → Mo Bool} {e : Sl → Mo Da} {xs : List Da} (I : Nat → List Da → Store → Prop) (hl : ∀ i acc st, I i acc st → acc.length ≤ i) (hx : xs.length < szD)
    (hs : ∀ (i : Nat) (x : Da) (acc : List Da) (st : Store), xs[i]? = some x → I i acc st → ∃ ro1, t x ro = some ro1 ∧ Wp (p ro1) st (fun c s1 => if c = true then Wp (e ro1) s1 (fun y s2 => I (i + 1) (acc ++ [y]) s2) noEx else I (i + 1) acc s1) noEx)
    (hd : ∀ acc st, I xs.length acc st → postL acc st) : ∀ (k : Nat) (acc : List Da) (st : Store), k ≤ xs.length → I k acc st → Wp (compGo none all t p e ro (xs.drop k) acc) st postL ex := by
  intro k
  induction hn : xs.length - k generalizing k with
  | zero =>
    intro acc st hk h
    have e : k = xs.length := by omega
    subst e
    rw [List.drop_length]
    exact hd acc st h
  | succ n ih =>
    intro acc st hk h
    have hlt : k < xs.length := by omega
    rw [List.drop_eq_getElem_cons hlt]
    obtain ⟨ro1, h1, h2⟩ := hs k _ acc st (List.getElem?_eq_getElem hlt) h
    have hacc := hl k acc st h
    show Wp (fun st => if chk none all st = true then (match t xs[k] ro with | some ro1 => bnd (noX (p ro1)) (fun c => if c = true then bnd (noX (e ro1)) (fun y => if acc.length < szD then compGo none all t p e ro (xs.drop (k + 1)) (acc ++ [y]) else nop) else compGo none all t p e ro (xs.drop (k + 1)) acc) st | none => .bad) else .bad) st postL ex
    rw [h1]
    show Wp (bnd (noX (p ro1)) _) st postL ex
    rw [wp_bnd, wp_noX]
    refine h2.mono fun c s1 hc => ?_
    rw [wp_ite]
    cases c with
    | true =>
      rw [if_pos rfl] at hc ⊢
      rw [wp_bnd, wp_noX]
      refine hc.mono fun y s2 hy => ?_
      rw [wp_ite, if_pos (show acc.length < szD by omega)]
      exact ih (k + 1) (by omega) _ s2 hlt hy
    | false =>
      rw [if_neg Bool.false_ne_true] at hc ⊢
      exact ih (k + 1) (by omega) _ s1 hlt hc
@[simp] theorem wp_comp_nil {all : List Da} {t : Tg} {p : Sl → Mo Bool} {e : Sl → Mo Da} {acc : List Da} : Wp (compGo none all t p e ro [] acc) st postL ex ↔ postL acc st := Iff.rfl
@[simp] theorem wp_comp_cons {all : List Da} {t : Tg} {p : Sl → Mo Bool} {e : Sl → Mo Da} {acc r : List Da} {x : Da} : Wp (compGo none all t p e ro (x :: r) acc) st postL ex ↔ ∃ ro1, t x ro = some ro1 ∧ Wp (p ro1) st (fun c s1 => if c = true then Wp (e ro1) s1 (fun y s2 => if acc.length < 1000000 then Wp (compGo none all t p e ro r (acc ++ [y])) s2 postL ex else False) noEx else Wp (compGo none all t p e ro r acc) s1 postL ex) noEx := by
  cases q : t x ro with
  | none =>
    refine ⟨fun h => ?_, fun ⟨_, h, _⟩ => nomatch h⟩
    have h' : Wp (fun st => if chk none all st = true then (match t x ro with | some ro1 => bnd (noX (p ro1)) (fun c => if c = true then bnd (noX (e ro1)) (fun y => if acc.length < szD then compGo none all t p e ro r (acc ++ [y]) else nop) else compGo none all t p e ro r acc) st | none => .bad) else .bad) st postL ex := h
    rw [q] at h'
    exact h'.elim
  | some ro1 =>
    have hh : Wp (compGo none all t p e ro (x :: r) acc) st postL ex ↔ Wp (fun st => if chk none all st = true then (match t x ro with | some ro1 => bnd (noX (p ro1)) (fun c => if c = true then bnd (noX (e ro1)) (fun y => if acc.length < szD then compGo none all t p e ro r (acc ++ [y]) else nop) else compGo none all t p e ro r acc) st | none => .bad) else .bad) st postL ex := Iff.rfl
    rw [hh, q]
    have hk : Wp (fun st => if chk none all st = true then (match some ro1 with | some ro1 => bnd (noX (p ro1)) (fun c => if c = true then bnd (noX (e ro1)) (fun y => if acc.length < szD then compGo none all t p e ro r (acc ++ [y]) else nop) else compGo none all t p e ro r acc) st | none => .bad) else .bad) st postL ex ↔ Wp (bnd (noX (p ro1)) (fun c => if c = true then bnd (noX (e ro1)) (fun y => if acc.length < szD then compGo none all t p e ro r (acc ++ [y]) else nop) else compGo none all t p e ro r acc)) st postL ex := Iff.rfl
    rw [hk]
    simp only [wp_bnd, wp_noX, wp_ite, wp_nop, Option.some.injEq, exists_eq_left']
@[simp] theorem wp_for_nil {all : List Da} {t : Tg} {body : Sl → Mo Fl} : Wp (forGo none all t body [] ro) st postF ex ↔ postF (.nx ro) st := Iff.rfl
@[simp] theorem wipe_nil : wipeS ro [] = ro := rfl
@[simp] theorem wipe_cons {v : Nat} {vs : List Nat} : wipeS ro (v :: vs) = (wipeS ro vs).set v none := rfl
@[simp] theorem cut_to2 {x y : Da} {r : List Da} : cutD (x :: y :: r) none (some 2) = [x, y] := by
  unfold cutD
  show List.take (min 2 (r.length + 1 + 1) - 0) (x :: y :: r) = [x, y]
  rw [show min 2 (r.length + 1 + 1) - 0 = 2 by omega]
  rfl
theorem wp_lComp {s : Sl → Mo Src} {t : Tg} {p : Sl → Mo Bool} {e : Sl → Mo Da} {vs : List Nat} : Wp (lComp s t p e vs ro) st postL ex ↔ Wp (s ro) st (fun s st' => Wp (compGo s.o s.xs t p e (wipeS ro vs) s.xs []) st' postL ex) ex := by unfold lComp; rw [wp_bnd]
theorem wp_compI {all : List Da} {t : Tg} {p : Sl → Mo Bool} {e : Sl → Mo Da} {xs : List Da} (I : Nat → List Da → Store → Prop) (h0 : I 0 [] st) (hl : ∀ i acc st, I i acc st → acc.length ≤ i) (hx : xs.length < szD)
    (hs : ∀ (i : Nat) (x : Da) (acc : List Da) (st : Store), xs[i]? = some x → I i acc st → ∃ ro1, t x ro = some ro1 ∧ Wp (p ro1) st (fun c s1 => if c = true then Wp (e ro1) s1 (fun y s2 => I (i + 1) (acc ++ [y]) s2) noEx else I (i + 1) acc s1) noEx)
    (hd : ∀ acc st, I xs.length acc st → postL acc st) : Wp (compGo none all t p e ro xs []) st postL ex := wp_compGo I hl hx hs hd 0 [] st (Nat.zero_le _) h0
/-- a comprehension that changes nothing -/
theorem wp_compF {α : Type} {all : List Da} {t : Tg} {p : Sl → Mo Bool} {e : Sl → Mo Da} {rs : List α} {f g : α → Da} {P : α → Bool} (hx : rs.length < 1000000)
    (h : ∀ x ∈ rs, ∃ ro1, t (f x) ro = some ro1 ∧ Wp (p ro1) st (fun c s => c = P x ∧ s = st) noEx ∧ (P x = true → Wp (e ro1) st (fun d s => d = g x ∧ s = st) noEx))
    (hp : postL ((rs.filter P).map g) st) : Wp (compGo none all t p e ro (rs.map f) []) st postL ex := by
  refine wp_compI (fun i acc s => s = st ∧ acc = ((rs.take i).filter P).map g) ⟨rfl, rfl⟩ (fun i acc s q => ?_) (by simpa using hx) ?_ ?_
  · rw [q.2, List.length_map]
    exact Nat.le_trans (List.length_filter_le _ _) (by simp; omega)
  · rintro i x acc s hq ⟨rfl, rfl⟩
    rw [List.getElem?_map] at hq
    obtain ⟨y, hy, rfl⟩ := Option.map_eq_some_iff.mp hq
    obtain ⟨ro1, h1, h2, h3⟩ := h y (List.mem_of_getElem? hy)
    refine ⟨ro1, h1, h2.mono ?_⟩
    rintro c s1 ⟨rfl, rfl⟩
    have ht : rs.take (i + 1) = rs.take i ++ [y] := by rw [List.take_add_one, hy]; rfl
    cases q : P y with
    | true =>
      rw [if_pos rfl]
      refine (h3 q).mono ?_
      rintro d s2 ⟨rfl, rfl⟩
      refine ⟨rfl, ?_⟩
      rw [ht, List.filter_append, List.map_append]
      simp [q]
    | false =>
      rw [if_neg Bool.false_ne_true]
      refine ⟨rfl, ?_⟩
      rw [ht, List.filter_append, List.map_append]
      simp [q]
  · rintro acc s ⟨rfl, rfl⟩
    rw [List.take_of_length_le (by simp)]
    exact hp
variable {postS : Src → Store → Prop}
@[simp] theorem wp_iV : Wp (iV a ro) st postS ex ↔ Wp (a ro) st (fun d s1 => Wp (srcV d) s1 postS ex) ex := by unfold iV; rw [wp_bnd]
@[simp] theorem wp_srcV_l {xs : List Da} : Wp (srcV (.lst xs)) st postS ex ↔ postS ⟨xs, none⟩ st := Iff.rfl
@[simp] theorem wp_srcV_t {xs : List Da} : Wp (srcV (.tup xs)) st postS ex ↔ postS ⟨xs, none⟩ st := Iff.rfl
@[simp] theorem wp_iR1 : Wp (iR1 al ro) st postS ex ↔ Wp (al ro) st (fun d s1 => Wp (srcR1 d) s1 postS ex) ex := by unfold iR1; rw [wp_bnd]
@[simp] theorem wp_iR2 : Wp (iR2 al ro) st postS ex ↔ Wp (al ro) st (fun d s1 => Wp (srcR2 d) s1 postS ex) ex := by unfold iR2; rw [wp_bnd]
@[simp] theorem wp_srcR1 {j : Int} : Wp (srcR1 [.int j]) st postS ex ↔ if big j then postS ⟨rngL 0 j.toNat, none⟩ st else False := by unfold srcR1; simp only [wp_ite, wp_ret, wp_nop]
@[simp] theorem wp_srcR2 {i j : Int} : Wp (srcR2 [.int i, .int j]) st postS ex ↔ if big i ∧ big j then postS ⟨rngL i (j - i).toNat, none⟩ st else False := by unfold srcR2; simp only [wp_ite, wp_ret, wp_nop]
@[simp] theorem wp_yes : Wp (tYes_ ro) st postB ex ↔ postB true st := Iff.rfl
@[simp] theorem gN_eq {i : Nat} {d : Da} : gN i d ro = some (ro.set i (some d)) := rfl
@[simp] theorem gsN_eq : gsN [] ro = some ro := rfl
@[simp] theorem gsC_eq {t : Tg} {u : Tgs} {d : Da} {r : List Da} : gsC t u (d :: r) ro = (t d ro).bind fun ro1 => u r ro1 := rfl
@[simp] theorem gT_eq {k : Nat} {t : Tgs} {xs : List Da} : gT k t (.tup xs) ro = if xs.length = k then t xs ro else none := rfl
variable {postP : Option Int → Store → Prop}
@[simp] theorem wp_noP : Wp (noP ro) st postP ex ↔ postP none st := Iff.rfl
@[simp] theorem wp_soP : Wp (soP a ro) st postP ex ↔ Wp (a ro) st (fun d s1 => ∃ i, d = .int i ∧ postP (some i) s1) ex := by
  unfold soP
  rw [wp_bnd]
  refine Wp.congr fun d s => ?_
  cases d <;> simp
@[simp] theorem wp_eSl {f : Da → Option Int → Option Int → Mo Da} {lo hi : Sl → Mo (Option Int)} : Wp (eSl f a lo hi ro) st post ex ↔ Wp (a ro) st (fun d s1 => Wp (lo ro) s1 (fun l s2 => Wp (hi ro) s2 (fun h s3 => Wp (f d l h) s3 post ex) ex) ex) ex := by unfold eSl; simp only [wp_bnd]
@[simp] theorem wp_slA_t {xs : List Da} {lo hi : Option Int} : Wp (slA (.tup xs) lo hi) st post ex ↔ post (.tup (cutD xs lo hi)) st := Iff.rfl
@[simp] theorem wp_slA_l {xs : List Da} {lo hi : Option Int} : Wp (slA (.lst xs) lo hi) st post ex ↔ post (.lst (cutD xs lo hi)) st := Iff.rfl
end
theorem wp_eqB {neg : Bool} {d e : Da} {p q : PyData} {st : Store} {ex : Str → List Da → Store → Prop} {post : Da → Store → Prop} (h1 : pyD st d = some p) (h2 : pyD st e = some q) (s1 : SeqAt.shaped p = true) (s2 : SeqAt.shaped q = true) :
    Wp (eqB neg d e) st post ex ↔ post (.bl (if neg then !PyData.eqv p q else PyData.eqv p q)) st := by
  unfold Wp eqB
  rw [h1, h2]
  dsimp only
  rw [if_pos (by rw [s1, s2]; rfl)]
end CL
namespace CL
open PySem L2
mutual
def toPy : Da → PyData
  | .non => .none
  | .bl b => .bool b
  | .int i => .int i
  | .str s => .str s
  | .tup xs => .tuple (toPyL xs)
  | .lst xs => .list (toPyL xs)
  | .fro xs => .list (toPyL xs)
  | .han _ => .none
def toPyL : List Da → List PyData
  | [] => []
  | x :: xs => toPy x :: toPyL xs
end
mutual
def pl : Nat → Da → Bool
  | _, .non => true
  | _, .bl _ => true
  | _, .int _ => true
  | _, .str s => PyData.strOk s
  | 0, .tup _ => false
  | n + 1, .tup xs => plL n xs
  | 0, .lst _ => false
  | n + 1, .lst xs => plL n xs
  | 0, .fro _ => false
  | n + 1, .fro xs => plL n xs
  | _, .han _ => false
def plL : Nat → List Da → Bool
  | _, [] => true
  | n, x :: xs => pl n x && plL n xs
end
section
variable {hf : Nat → Option PyData}
mutual
theorem pl_py : ∀ (n : Nat) (d : Da), pl n d = true → pyW hf d = some (toPy d) ∧ (toPy d).canLay0 = true ∧ (toPy d).depth ≤ n
  | n, .non, h => by simp [pyW, toPy, PyData.canLay0, PyData.depth]
  | n, .bl b, h => by simp [pyW, toPy, PyData.canLay0, PyData.depth]
  | n, .int i, h => by simp [pyW, toPy, PyData.canLay0, PyData.depth]
  | n, .str s, h => by
    have h' : PyData.strOk s = true := by simpa [pl] using h
    simp [pyW, toPy, PyData.canLay0, PyData.depth, h']
  | 0, .tup xs, h => by simp [pl] at h
  | n + 1, .tup xs, h => by
    obtain ⟨h1, h2, h3⟩ := plL_py n xs (by simpa [pl] using h)
    simp [pyW, toPy, PyData.canLay0, PyData.depth, h1, h2, h3]
  | 0, .lst xs, h => by simp [pl] at h
  | n + 1, .lst xs, h => by
    obtain ⟨h1, h2, h3⟩ := plL_py n xs (by simpa [pl] using h)
    simp [pyW, toPy, PyData.canLay0, PyData.depth, h1, h2, h3]
  | 0, .fro xs, h => by simp [pl] at h
  | n + 1, .fro xs, h => by
    obtain ⟨h1, h2, h3⟩ := plL_py n xs (by simpa [pl] using h)
    simp [pyW, toPy, PyData.canLay0, PyData.depth, h1, h2, h3]
  | n, .han k, h => by simp [pl] at h
theorem plL_py : ∀ (n : Nat) (ds : List Da), plL n ds = true → pyWL hf ds = some (toPyL ds) ∧ PyData.canLayAll0 (toPyL ds) = true ∧ PyData.depthAll (toPyL ds) ≤ n
  | n, [], h => by simp [pyWL, toPyL, PyData.canLayAll0, PyData.depthAll]
  | n, x :: xs, h => by
    have h' : pl n x = true ∧ plL n xs = true := by simpa [plL] using h
    obtain ⟨a1, a2, a3⟩ := pl_py n x h'.1
    obtain ⟨b1, b2, b3⟩ := plL_py n xs h'.2
    simp only [pyWL, toPyL, PyData.canLayAll0, PyData.depthAll, a1, a2, b1, b2]
    refine ⟨trivial, rfl, ?_⟩
    omega
end
end
theorem plL_all : ∀ (n : Nat) (ds : List Da), plL n ds = ds.all (pl n)
  | n, [] => by simp [plL]
  | n, x :: xs => by simp [plL, plL_all n xs]
mutual
theorem pl_le : ∀ (n m : Nat) (d : Da), n ≤ m → pl n d = true → pl m d = true
  | _, _, .non, _, _ => by simp [pl]
  | _, _, .bl _, _, _ => by simp [pl]
  | _, _, .int _, _, _ => by simp [pl]
  | _, _, .str _, _, h => by simpa [pl] using h
  | 0, _, .tup _, _, h => by simp [pl] at h
  | 0, _, .lst _, _, h => by simp [pl] at h
  | 0, _, .fro _, _, h => by simp [pl] at h
  | n + 1, 0, _, hl, _ => by omega
  | n + 1, m + 1, .tup xs, hl, h => by simp only [pl] at h ⊢; exact plL_le n m xs (by omega) h
  | n + 1, m + 1, .lst xs, hl, h => by simp only [pl] at h ⊢; exact plL_le n m xs (by omega) h
  | n + 1, m + 1, .fro xs, hl, h => by simp only [pl] at h ⊢; exact plL_le n m xs (by omega) h
  | _, _, .han _, _, h => by simp [pl] at h
theorem plL_le : ∀ (n m : Nat) (d : List Da), n ≤ m → plL n d = true → plL m d = true
  | _, _, [], _, _ => by simp [plL]
  | n, m, x :: xs, hl, h => by
    have h' : pl n x = true ∧ plL n xs = true := by simpa [plL] using h
    simp only [plL, pl_le n m x hl h'.1, plL_le n m xs hl h'.2]
    rfl
end
/-- how two data compare -/
def deq (d e : Da) : Bool := PyData.eqv (toPy d) (toPy e)
def deqL (d e : List Da) : Bool := PyData.eqvAll (toPyL d) (toPyL e)
structure PyIs (st : Store) (d : Da) (p : PyData) : Prop where
  py : pyD st d = some p
  sh : SeqAt.shaped p = true
theorem pl_is {st : Store} {d : Da} {n : Nat} (hn : n ≤ 64) (h : pl n d = true) : PyIs st d (toPy d) := by
  obtain ⟨h1, h2, h3⟩ := pl_py (hf := hfOf st) n d h
  refine ⟨h1, ?_⟩
  unfold SeqAt.shaped
  rw [h2, decide_eq_true (by omega)]
  rfl
theorem han_is {st : Store} {k n : Nat} {xs : List Da} (hn : n ≤ 63) (h : st[k]? = some (.lst xs)) (hp : plL n xs = true) : PyIs st (.han k) (.list (toPyL xs)) := by
  obtain ⟨h1, h2, h3⟩ := plL_py (hf := fun _ => none) n xs hp
  refine ⟨?_, ?_⟩
  · show pyW (hfOf st) (.han k) = _
    unfold pyW hfOf
    rw [h]
    dsimp only
    rw [show py0L xs = some (toPyL xs) from h1]
    rfl
  · unfold SeqAt.shaped
    rw [show PyData.canLay0 (.list (toPyL xs)) = true by simpa [PyData.canLay0] using h2, decide_eq_true (by simp only [PyData.depth]; omega)]
    rfl
theorem deq_refl {d : Da} {n : Nat} (h : pl n d = true) : deq d d = true := SeqAt.eqv_refl _ (pl_py (hf := fun _ => none) n d h).2.1
section
variable {st : Store} {ex : Str → List Da → Store → Prop} {post : Da → Store → Prop}
theorem wp_eqI {neg : Bool} {d e : Da} {p q : PyData} (h1 : PyIs st d p) (h2 : PyIs st e q) : Wp (eqB neg d e) st post ex ↔ post (.bl (if neg then !PyData.eqv p q else PyData.eqv p q)) st := wp_eqB h1.py h2.py h1.sh h2.sh
theorem wp_eq {d e : Da} (h1 : pl 60 d = true) (h2 : pl 60 e = true) : Wp (eqB false d e) st post ex ↔ post (.bl (deq d e)) st := wp_eqI (pl_is (by decide) h1) (pl_is (by decide) h2)
theorem wp_ne {d e : Da} (h1 : pl 60 d = true) (h2 : pl 60 e = true) : Wp (eqB true d e) st post ex ↔ post (.bl (!deq d e)) st := wp_eqI (pl_is (by decide) h1) (pl_is (by decide) h2)
@[simp] theorem wp_eq_i {i j : Int} : Wp (eqB false (.int i) (.int j)) st post ex ↔ post (.bl (decide (i = j))) st := by
  rw [wp_eq (by simp [pl]) (by simp [pl])]
  simp [deq, toPy, PyData.eqv, BEq.beq]
@[simp] theorem wp_ne_i {i j : Int} : Wp (eqB true (.int i) (.int j)) st post ex ↔ post (.bl (!decide (i = j))) st := by
  rw [wp_ne (by simp [pl]) (by simp [pl])]
  simp [deq, toPy, PyData.eqv, BEq.beq]
end
@[simp] theorem deq_int {i j : Int} : deq (.int i) (.int j) = decide (i = j) := by simp [deq, toPy, PyData.eqv, BEq.beq]
@[simp] theorem deq_non_int {j : Int} : deq .non (.int j) = false := by simp [deq, toPy, PyData.eqv]
@[simp] theorem deq_int_non {j : Int} : deq (.int j) .non = false := by simp [deq, toPy, PyData.eqv]
@[simp] theorem deq_non : deq .non .non = true := by simp [deq, toPy, PyData.eqv]
@[simp] theorem deq_bl {i j : Bool} : deq (.bl i) (.bl j) = (i == j) := by simp [deq, toPy, PyData.eqv]
@[simp] theorem deq_tup {i j : List Da} : deq (.tup i) (.tup j) = deqL i j := by simp [deq, deqL, toPy, PyData.eqv]
@[simp] theorem deq_lst {i j : List Da} : deq (.lst i) (.lst j) = deqL i j := by simp [deq, deqL, toPy, PyData.eqv]
@[simp] theorem deq_fro {i j : List Da} : deq (.fro i) (.lst j) = deqL i j := by simp [deq, deqL, toPy, PyData.eqv]
@[simp] theorem deq_tup_lst {i j : List Da} : deq (.tup i) (.lst j) = false := by simp [deq, toPy, PyData.eqv]
@[simp] theorem deq_lst_tup {i j : List Da} : deq (.lst i) (.tup j) = false := by simp [deq, toPy, PyData.eqv]
@[simp] theorem deqL_nil : deqL [] [] = true := by simp [deqL, toPyL, PyData.eqvAll]
@[simp] theorem deqL_cons {x y : Da} {xs ys : List Da} : deqL (x :: xs) (y :: ys) = (deq x y && deqL xs ys) := by simp [deqL, deq, toPyL, PyData.eqvAll]
@[simp] theorem deqL_nc {y : Da} {ys : List Da} : deqL [] (y :: ys) = false := by simp [deqL, toPyL, PyData.eqvAll]
@[simp] theorem deqL_cn {y : Da} {ys : List Da} : deqL (y :: ys) [] = false := by simp [deqL, toPyL, PyData.eqvAll]
theorem deqL_ne {xs : List Da} : deqL xs [] = decide (xs = []) := by cases xs <;> simp
section
variable {st : Store} {ex : Str → List Da → Store → Prop} {post : Da → Store → Prop}
@[simp] theorem wp_ne_nil : Wp (eqB true (.lst []) (.lst [])) st post ex ↔ post (.bl false) st := by
  rw [wp_ne (by simp [pl, plL]) (by simp [pl, plL])]; simp
@[simp] theorem wp_eq_nil : Wp (eqB false (.lst []) (.lst [])) st post ex ↔ post (.bl true) st := by
  rw [wp_eq (by simp [pl, plL]) (by simp [pl, plL])]; simp
end
theorem plL_ints (n : Nat) : ∀ ns : List Int, plL n (ns.map Da.int) = true
  | [] => by simp [plL]
  | x :: xs => by simp [plL, pl, plL_ints n xs]
end CL
namespace CL
open PySem L2
/-- the town of a law: its row and its count -/
def Tw (t r : Nat) (st : Store) : Prop := t ≠ r ∧ (∃ (k : Int) (rest : List Da), (rest = [] ∨ ∃ c : Int, rest = [.int c]) ∧ st[t]? = some (.lst (.han r :: .int k :: rest))) ∧ ∃ xs : List Int, xs ≠ [] ∧ st[r]? = some (.lst (xs.map .int))
/-- all but the town stays -/
def Kp (t r : Nat) (st st' : Store) : Prop := st.length ≤ st'.length ∧ ∀ n, n ≠ t → n ≠ r → n < st.length → st'[n]? = st[n]?
structure Dr (t r : Nat) (st st' : Store) : Prop where
  tw : Tw t r st'
  kp : Kp t r st st'
theorem Kp.trans {t r : Nat} {a b c : Store} (h : Kp t r a b) (k : Kp t r b c) : Kp t r a c :=
  ⟨Nat.le_trans h.1 k.1, fun n h1 h2 h3 => (k.2 n h1 h2 (Nat.lt_of_lt_of_le h3 h.1)).trans (h.2 n h1 h2 h3)⟩
theorem Dr.trans {t r : Nat} {a b c : Store} (h : Dr t r a b) (k : Dr t r b c) : Dr t r a c := ⟨k.tw, h.kp.trans k.kp⟩
theorem Dr.refl {t r : Nat} {a : Store} (h : Tw t r a) : Dr t r a a := ⟨h, Nat.le_refl _, fun _ _ _ _ => rfl⟩
theorem some_lt {st : Store} {n : Nat} {c : Cell} (h : st[n]? = some c) : n < st.length := by
  by_cases z : n < st.length
  · exact z
  · rw [List.getElem?_eq_none (by omega)] at h; cases h
theorem fmod_rng (i : Int) {m : Int} (h : 1 ≤ m) : 0 ≤ i.fmod m ∧ i.fmod m < m := ⟨Int.fmod_nonneg_of_pos _ (by omega), Int.fmod_lt_of_pos _ (by omega)⟩
theorem atI_int {α : Type} {xs : List α} {i : Int} {v : α} (h0 : 0 ≤ i) (h : xs[i.toNat]? = some v) : atI xs i = some v := by
  have := atI_nat h
  rwa [Int.toNat_of_nonneg h0] at this
theorem ixN_int {n : Nat} {i : Int} (h0 : 0 ≤ i) (h : i < n) : ixN n i = some i.toNat := by
  unfold ixN
  rw [if_pos h0, if_pos h]
theorem draw_ok {t r : Nat} {st : Store} {m : Int} (h : Tw t r st) (h1 : 1 ≤ m) (h2 : m < 1073741824) :
    Wp (f__law_draw [.han t, .int m]) st (fun d st' => ∃ v, d = .int v ∧ 0 ≤ v ∧ v < m ∧ Dr t r st st') noEx := by
  obtain ⟨hne, ⟨k, rest, hrest, hk⟩, xs, hx, hr⟩ := h
  have hlt := some_lt hk
  have hrlt := some_lt hr
  obtain ⟨st1, hs1⟩ : ∃ st1, st1 = st.set t (.lst (.han r :: .int (k + 1) :: rest)) := ⟨_, rfl⟩
  have a1 : st1[t]? = some (.lst (.han r :: .int (k + 1) :: rest)) := by subst hs1; simp [hlt]
  have a2 : st1[r]? = some (.lst (xs.map .int)) := by subst hs1; rw [List.getElem?_set_ne hne]; exact hr
  have hpos : (1 : Int) ≤ xs.length := by
    cases xs with
    | nil => exact absurd rfl hx
    | cons x r => simp; omega
  obtain ⟨f0, f1⟩ := fmod_rng (k + 1) hpos
  generalize hat : (k + 1).fmod xs.length = at' at f0 f1
  have hj : at'.toNat < xs.length := by omega
  obtain ⟨c, hc⟩ : ∃ c, xs[at'.toNat]? = some c := ⟨_, List.getElem?_eq_getElem hj⟩
  have a3 : atI (xs.map Da.int) at' = some (.int c) := atI_int f0 (by rw [List.getElem?_map, hc]; rfl)
  have hl0 : (xs.length : Int) ≠ 0 := by omega
  have e1 : ∀ {post : Da → Store → Prop} {ex : Str → List Da → Store → Prop}, Wp (ixD (.han t) (.int 0)) st post ex ↔ post (.han r) st := wp_ix_h hk (atI_nat (j := 0) rfl)
  have e2 : ∀ {post : Da → Store → Prop} {ex : Str → List Da → Store → Prop}, Wp (ixD (.han t) (.int 1)) st post ex ↔ post (.int k) st := wp_ix_h hk (atI_nat (j := 1) rfl)
  have e3 : ∀ {post : Unit → Store → Prop} {ex : Str → List Da → Store → Prop}, Wp (setD (.han t) (.int 1) (.int (k + 1))) st post ex ↔ post () st1 := by subst hs1; exact wp_setD hk (j := 1) (ixN_int (n := (Da.han r :: Da.int k :: rest).length) (i := 1) (by decide) (by simp; omega))
  have e4 : ∀ {post : Da → Store → Prop} {ex : Str → List Da → Store → Prop}, Wp (ixD (.han t) (.int 1)) st1 post ex ↔ post (.int (k + 1)) st1 := wp_ix_h a1 (atI_nat (j := 1) rfl)
  have e5 : ∀ {post : Da → Store → Prop} {ex : Str → List Da → Store → Prop}, Wp (lenD (.han r)) st1 post ex ↔ post (.int xs.length) st1 := by
    intro post ex
    rw [wp_len (xs := xs.map .int) (by unfold sqOf lsOf; dsimp only; rw [a2]), List.length_map]
  have e6 : ∀ {post : Da → Store → Prop} {ex : Str → List Da → Store → Prop}, Wp (ixD (.han r) (.int at')) st1 post ex ↔ post (.int c) st1 := wp_ix_h a2 a3
  have e7 : ∀ {post : Unit → Store → Prop} {ex : Str → List Da → Store → Prop} {y : Da}, Wp (setD (.han r) (.int at') y) st1 post ex ↔ post () (st1.set r (.lst ((xs.map .int).set at'.toNat y))) := wp_setD a2 (ixN_int f0 (by simpa using f1))
  unfold f__law_draw m__law_draw
  simp [startS, e1, e2, e3, e4, e5, e6, e7, hat, hl0]
  refine ⟨hx, ?_⟩
  have kp1 : Kp t r st st1 := by
    subst hs1
    refine ⟨by simp, fun n h3 h4 _ => by rw [List.getElem?_set_ne (Ne.symm h3)]⟩
  split
  · refine ⟨⟨by omega, by omega⟩, by omega, (fmod_rng c h1).1, (fmod_rng c h1).2, ⟨hne, ⟨k + 1, rest, hrest, by rw [List.getElem?_set_ne (Ne.symm hne)]; exact a1⟩, xs.set at'.toNat (c.fdiv m), by simpa using hx, ?_⟩, by rw [List.length_set]; exact kp1.1, fun n h3 h4 h5 => by rw [List.getElem?_set_ne (Ne.symm h4)]; exact kp1.2 n h3 h4 h5⟩
    rw [List.getElem?_set_self (some_lt a2), List.map_set]
  · obtain ⟨g1, g2⟩ := fmod_rng (c + 104729 * (k + 1)) (show (1 : Int) ≤ 4294967291 by decide)
    refine ⟨.inl ⟨by decide, by decide⟩, ⟨by decide, by decide, by omega⟩, ⟨by decide, by decide⟩, .inr ⟨by decide, by decide⟩, ⟨by decide, by decide⟩, by omega, (fmod_rng _ h1).1, (fmod_rng _ h1).2, ⟨hne, ⟨k + 1, rest, hrest, a1⟩, xs, hx, a2⟩, kp1⟩
theorem atI_mem {α : Type} {xs : List α} {i : Int} (h0 : 0 ≤ i) (h : i < xs.length) : ∃ x, atI xs i = some x ∧ x ∈ xs := by
  have hl : i.toNat < xs.length := by omega
  exact ⟨_, atI_int h0 (List.getElem?_eq_getElem hl), List.getElem_mem hl⟩
theorem new_at (st : Store) (c : Cell) : (st ++ [c])[st.length]? = some c := by simp
theorem old_at {st : Store} {c d : Cell} {n : Nat} (h : st[n]? = some d) : (st ++ [c])[n]? = some d := by
  rw [List.getElem?_append_left (some_lt h)]; exact h
theorem Tw.push {t r : Nat} {st : Store} {c : Cell} (h : Tw t r st) : Tw t r (st ++ [c]) := by
  obtain ⟨hne, ⟨k, rest, hrest, hk⟩, xs, hx, hr⟩ := h
  exact ⟨hne, ⟨k, rest, hrest, old_at hk⟩, xs, hx, old_at hr⟩
theorem Dr.push {t r : Nat} {st st' : Store} {c : Cell} (h : Dr t r st st') : Dr t r st (st' ++ [c]) :=
  ⟨h.tw.push, by simp; have := h.kp.1; omega, fun n h1 h2 h3 => by
    rw [List.getElem?_append_left (Nat.lt_of_lt_of_le h3 h.kp.1)]
    exact h.kp.2 n h1 h2 h3⟩
theorem Tw.set {t r n : Nat} {st : Store} {c : Cell} (h : Tw t r st) (h1 : n ≠ t) (h2 : n ≠ r) : Tw t r (st.set n c) := by
  obtain ⟨hne, ⟨k, rest, hrest, hk⟩, xs, hx, hr⟩ := h
  exact ⟨hne, ⟨k, rest, hrest, by rw [List.getElem?_set_ne h1]; exact hk⟩, xs, hx, by rw [List.getElem?_set_ne h2]; exact hr⟩
theorem Tw.lt {t r : Nat} {st : Store} (h : Tw t r st) : t < st.length ∧ r < st.length := by
  obtain ⟨hne, ⟨k, rest, hrest, hk⟩, xs, hx, hr⟩ := h
  exact ⟨some_lt hk, some_lt hr⟩
/-- a cell of one's own, beyond the store one began with -/
theorem Dr.set {t r n : Nat} {st st' : Store} {c : Cell} (h : Dr t r st st') (hn : st.length ≤ n) (ht : Tw t r st) : Dr t r st (st'.set n c) := by
  have := ht.lt
  exact ⟨h.tw.set (by omega) (by omega), by rw [List.length_set]; exact h.kp.1, fun m h1 h2 h3 => by
    rw [List.getElem?_set_ne (by omega)]
    exact h.kp.2 m h1 h2 h3⟩
theorem Dr.at {t r n : Nat} {st st' : Store} {c : Cell} (h : Dr t r st st') (hn : st[n]? = some c) (h1 : n ≠ t) (h2 : n ≠ r) : st'[n]? = some c := by
  rw [h.kp.2 n h1 h2 (some_lt hn)]; exact hn
theorem town_ok (ns : List Int) : Wp (f__law_town [.fro (ns.map Da.int)]) [] (fun d st' => d = .han 1 ∧ Tw 1 0 st') noEx := by
  unfold f__law_town m__law_town
  simp [startS]
  rw [wp_ne (by simp [pl, plL_ints]) (by simp [pl, plL])]
  simp
  rw [deqL_ne]
  by_cases h : ns = []
  · subst h
    simp
    exact ⟨by decide, ⟨0, [], .inl rfl, rfl⟩, [0], by simp, rfl⟩
  · simp [h]
    exact ⟨by decide, ⟨0, [], .inl rfl, rfl⟩, ns, h, rfl⟩
end CL
namespace CL
open PySem L2
section
variable {st : Store} {ex : Str → List Da → Store → Prop} {post : Da → Store → Prop}
@[simp] theorem wp_whole {i lo hi : Int} : Wp (f_is_whole [.int i, .int lo, .int hi]) st post ex ↔ post (.bl (decide (lo ≤ i ∧ i ≤ hi))) st := by
  unfold f_is_whole m_is_whole
  simp [startS, isTn]
  by_cases h1 : lo ≤ i
  · by_cases h2 : i ≤ hi <;> simp [h1, h2]
  · simp [h1]
end
def IsLink (d : Da) : Prop := ∃ (a : Da) (b : Int) (c : Bool), d = .tup [a, .int b, .bl c] ∧ (a = .non ∨ ∃ k : Int, a = .int k ∧ 0 ≤ k ∧ k ≤ 4) ∧ 0 ≤ b ∧ b ≤ 100000
def Thin (d : Da) : Prop := ∃ xs : List Da, d = .tup xs ∧ xs.length ≤ 3
def IsCh (d : Da) : Prop := ∃ xs : List Da, d = .tup xs ∧ xs ≠ [] ∧ xs.length ≤ 1000 ∧ ∀ x ∈ xs, IsLink x
abbrev Row := Int × Int × Da
def rowD (r : Row) : Da := .tup [.int r.1, .int r.2.1, r.2.2]
def Rows : Int → List Row → Prop
  | _, [] => True
  | at_, (b, e, c) :: r => at_ ≤ b ∧ b < e ∧ e ≤ 100000 ∧ IsCh c ∧ Rows e r
section
variable {st : Store} {ex : Str → List Da → Store → Prop} {post : Da → Store → Prop}
theorem Rows.mem : ∀ {at_ : Int} {rs : List Row}, Rows at_ rs → 0 ≤ at_ → ∀ r ∈ rs, 0 ≤ r.1 ∧ r.1 < r.2.1 ∧ r.2.1 ≤ 100000 ∧ IsCh r.2.2
  | _, [], _, _, r, hr => nomatch hr
  | at_, (b, e, c) :: rs, h, h0, r, hr => by
    obtain ⟨h1, h2, h3, h4, h5⟩ := h
    rcases List.mem_cons.mp hr with rfl | hr
    · exact ⟨by simp; omega, h2, h3, h4⟩
    · exact Rows.mem h5 (by omega) r hr
theorem Rows.drop : ∀ {at_ : Int} {rs : List Row}, Rows at_ rs → ∀ (i : Nat), ∃ at2, Rows at2 (rs.drop i) ∧ (at2 = if i = 0 then at_ else match rs[i - 1]? with | some r => r.2.1 | none => at2)
  | at_, rs, h, 0 => ⟨at_, h, rfl⟩
  | at_, [], h, i + 1 => ⟨0, trivial, by simp⟩
  | at_, (b, e, c) :: rs, h, i + 1 => by
    obtain ⟨a2, h1, h2⟩ := Rows.drop h.2.2.2.2 i
    refine ⟨a2, h1, ?_⟩
    cases i with
    | zero => simpa using h2
    | succ i => simpa using h2
end
section
end
end CL
namespace CL
open PySem L2
section
variable {st : Store} {ex : Str → List Da → Store → Prop} {post : Da → Store → Prop} {postF : Fl → Store → Prop} {postS : Src → Store → Prop} {a b : Sl → Mo Da} {al kl : Sl → Mo (List Da)} {ro : Sl} {cs : List Str} {f c m : Str}
@[simp] theorem wp_eFld : Wp (eFld cs f a ro) st post ex ↔ Wp (a ro) st (fun d s1 => Wp (fldD cs f d) s1 post ex) ex := by unfold eFld; simp only [wp_bnd]
theorem wp_fldD {n : Nat} {c : Str} {fs : List (Str × Da)} {x : Da} (h : st[n]? = some (.ins c fs)) (hc : c ∈ cs) (hx : fs.lookup f = some x) : Wp (fldD cs f (.han n)) st post ex ↔ post x st := by
  unfold Wp fldD; dsimp only; rw [h]; dsimp only; rw [if_pos hc, hx]
@[simp] theorem wp_mFld : Wp (mFld cs f a b ro) st postF ex ↔ Wp (a ro) st (fun x s1 => Wp (b ro) s1 (fun d s2 => Wp (setFD cs f d x) s2 (fun _ s3 => postF (.nx ro) s3) ex) ex) ex := by unfold mFld; simp only [wp_bnd, wp_ret]
theorem wp_setFD {n : Nat} {c : Str} {fs : List (Str × Da)} {x : Da} {post : Unit → Store → Prop} (h : st[n]? = some (.ins c fs)) (hc : c ∈ cs) (hl : fs.length < 1000) : Wp (setFD cs f (.han n) x) st post ex ↔ post () (st.set n (.ins c (putD f x fs))) := by
  unfold Wp setFD; dsimp only; rw [h]; dsimp only; rw [if_pos ⟨hc, hl⟩]
@[simp] theorem wp_eMeth {g : List Da → Mo Da} : Wp (eMeth c m g a al ro) st post ex ↔ Wp (a ro) st (fun d s1 => Wp (isIns c m d) s1 (fun _ s2 => Wp (al ro) s2 (fun ds s3 => Wp (g (d :: ds)) s3 post ex) ex) ex) ex := by unfold eMeth; simp only [wp_bnd]
theorem wp_isIns {n : Nat} {fs : List (Str × Da)} {post : Unit → Store → Prop} (h : st[n]? = some (.ins c fs)) (hl : fs.lookup m = none) : Wp (isIns c m (.han n)) st post ex ↔ post () st := by
  unfold Wp isIns; dsimp only; rw [h]; dsimp only; rw [if_pos ⟨rfl, hl⟩]
@[simp] theorem wp_eMake {g : List Da → Mo Da} : Wp (eMake c g al ro) st post ex ↔ Wp (al ro) st (fun ds s1 => Wp (makeD c g ds) s1 post ex) ex := by unfold eMake; simp only [wp_bnd]
@[simp] theorem wp_isNon {post : Unit → Store → Prop} : Wp (isNon .non) st post ex ↔ post () st := Iff.rfl
@[simp] theorem wp_iR3 : Wp (iR3 al ro) st postS ex ↔ Wp (al ro) st (fun d s1 => Wp (srcR3 d) s1 postS ex) ex := by unfold iR3; rw [wp_bnd]
@[simp] theorem wp_srcR3 {i j c : Int} : Wp (srcR3 [.int i, .int j, .int c]) st postS ex ↔ if rgOk i j c then postS ⟨rngC i c (rgN i j c), none⟩ st else False := by unfold srcR3; simp only [wp_ite, wp_ret, wp_nop]
end
theorem char_inj {a b : Char} (h : a.toNat = b.toNat) : a = b := by
  apply Char.ext
  apply UInt32.toNat_inj.mp
  exact h
@[simp] theorem str_inj {a b : String} : Str.ofString a = Str.ofString b ↔ a = b := by
  refine ⟨fun h => ?_, fun h => by rw [h]⟩
  rw [Str.ofString_eq_toList, Str.ofString_eq_toList] at h
  have h1 : a.toList.map Char.toNat = b.toList.map Char.toNat := by
    have := congrArg (fun s => s.cps.toList) h
    simpa using this
  have h2 : a.toList = b.toList := by
    have : ∀ x y : List Char, x.map Char.toNat = y.map Char.toNat → x = y := by
      intro x
      induction x with
      | nil => intro y e; cases y with
        | nil => rfl
        | cons c r => simp at e
      | cons c r ih => intro y e; cases y with
        | nil => simp at e
        | cons d s => simp at e; rw [char_inj e.1, ih s e.2]
    exact this _ _ h1
  exact String.toList_inj.mp h2
@[simp] theorem str_beq {a b : String} : (Str.ofString a == Str.ofString b) = (a == b) := by
  by_cases h : a = b
  · subst h; simp
  · rw [beq_eq_false_iff_ne.mpr h, beq_eq_false_iff_ne.mpr fun z => h (str_inj.mp z)]
theorem beqD_refl_all : (∀ d : Da, beqD d d = true) ∧ ∀ ds : List Da, beqL ds ds = true := by
  have h : ∀ n, (∀ d : Da, sizeOf d < n → beqD d d = true) ∧ ∀ ds : List Da, sizeOf ds < n → beqL ds ds = true := by
    intro n
    induction n with
    | zero => exact ⟨fun d h => by omega, fun d h => by omega⟩
    | succ n ih =>
      refine ⟨fun d h => ?_, fun ds h => ?_⟩
      · cases d with
        | non => rfl
        | bl b => simp [beqD]
        | int i => simp [beqD]
        | str s => simp [beqD]
        | tup xs => unfold beqD; exact ih.2 xs (by simp at h; omega)
        | lst xs => unfold beqD; exact ih.2 xs (by simp at h; omega)
        | fro xs => unfold beqD; exact ih.2 xs (by simp at h; omega)
        | han n => simp [beqD]
      · cases ds with
        | nil => rfl
        | cons x r =>
          unfold beqL
          rw [ih.1 x (by simp at h; omega), ih.2 r (by simp at h; omega)]
          rfl
  exact ⟨fun d => (h (sizeOf d + 1)).1 d (by omega), fun ds => (h (sizeOf ds + 1)).2 ds (by omega)⟩
theorem beqL_refl (ds : List Da) : beqL ds ds = true := beqD_refl_all.2 ds
theorem chk_han {st : Store} {n : Nat} {xs : List Da} (h : st[n]? = some (.lst xs)) : chk (some n) xs st = true := by
  unfold chk; dsimp only; rw [h]; exact beqL_refl xs
section
variable {ex : Str → List Da → Store → Prop} {postF : Fl → Store → Prop}
theorem wp_forGoH {n : Nat} {all : List Da} {t : Tg} {body : Sl → Mo Fl} (I : Nat → Sl → Store → Prop) {xs : List Da} (hk : ∀ i ro st, I i ro st → st[n]? = some (.lst all)) (hs : ∀ (i : Nat) (x : Da) (ro : Sl) (st : Store), xs[i]? = some x → I i ro st → ∃ ro1, t x ro = some ro1 ∧ Wp (body ro1) st (loopP (I (i + 1)) postF) ex)
    (hd : ∀ ro st, I xs.length ro st → postF (.nx ro) st) : ∀ (k : Nat) (ro : Sl) (st : Store), k ≤ xs.length → I k ro st → Wp (forGo (some n) all t body (xs.drop k) ro) st postF ex := by
  intro k
  induction hn : xs.length - k generalizing k with
  | zero =>
    intro ro st hle h
    have e : k = xs.length := by omega
    subst e
    rw [List.drop_length]
    have hc := chk_han (hk _ _ _ h)
    show Wp (fun st => if chk (some n) all st = true then .ok (.nx ro) st else .bad) st postF ex
    unfold Wp
    dsimp only
    rw [if_pos hc]
    exact hd ro st h
  | succ m ih =>
    intro ro st hle h
    have hlt : k < xs.length := by omega
    rw [List.drop_eq_getElem_cons hlt]
    have hc := chk_han (hk _ _ _ h)
    obtain ⟨ro1, h1, h2⟩ := hs k _ ro st (List.getElem?_eq_getElem hlt) h
    have e : Wp (forGo (some n) all t body (xs[k] :: xs.drop (k + 1)) ro) st postF ex ↔ Wp (bnd (body ro1) (loopK (forGo (some n) all t body (xs.drop (k + 1))))) st postF ex := by
      show Wp (fun st => if chk (some n) all st = true then (match t xs[k] ro with | some ro1 => bnd (body ro1) (loopK (forGo (some n) all t body (xs.drop (k + 1)))) st | none => .bad) else .bad) st postF ex ↔ _
      unfold Wp
      dsimp only
      rw [if_pos hc, h1]
    rw [e, wp_bnd]
    refine h2.mono fun f st' hf => wp_loopK ?_
    cases f with
    | nx ro' => exact ih (k + 1) (by omega) ro' st' hlt hf
    | ct ro' => exact ih (k + 1) (by omega) ro' st' hlt hf
    | bk ro' => exact hf
    | rt d => exact hf
/-- a for over a thing that stands still -/
theorem wp_forIh {n : Nat} {t : Tg} {body : Sl → Mo Fl} {xs : List Da} {ro : Sl} {st : Store} (I : Nat → Sl → Store → Prop) (h0 : I 0 ro st) (hk : ∀ i ro st, I i ro st → st[n]? = some (.lst xs))
    (hs : ∀ (i : Nat) (x : Da) (ro : Sl) (st : Store), xs[i]? = some x → I i ro st → ∃ ro1, t x ro = some ro1 ∧ Wp (body ro1) st (loopP (I (i + 1)) postF) ex)
    (hd : ∀ ro st, I xs.length ro st → postF (.nx ro) st) : Wp (forGo (some n) xs t body xs ro) st postF ex := wp_forGoH I hk hs hd 0 ro st (Nat.zero_le _) h0
theorem wp_srcV_h {n : Nat} {xs : List Da} {st : Store} {postS : Src → Store → Prop} (h : st[n]? = some (.lst xs)) : Wp (srcV (.han n)) st postS ex ↔ postS ⟨xs, some n⟩ st := by
  unfold Wp srcV; dsimp only; rw [h]
end
/-- a comprehension over a thing, that changes nothing -/
theorem wp_compFh {α : Type} {n : Nat} {t : Tg} {p : Sl → Mo Bool} {e : Sl → Mo Da} {rs : List α} {f g : α → Da} {P : α → Bool} {ro : Sl} {st : Store} {ex : Str → List Da → Store → Prop} {postL : List Da → Store → Prop} (hn : st[n]? = some (.lst (rs.map f))) (hx : rs.length < 1000000)
    (h : ∀ x ∈ rs, ∃ ro1, t (f x) ro = some ro1 ∧ Wp (p ro1) st (fun c s => c = P x ∧ s = st) noEx ∧ (P x = true → Wp (e ro1) st (fun d s => d = g x ∧ s = st) noEx))
    (hp : postL ((rs.filter P).map g) st) : Wp (compGo (some n) (rs.map f) t p e ro (rs.map f) []) st postL ex := by
  have hc := chk_han hn
  have go : ∀ (r2 r1 : List α), r1 ++ r2 = rs → Wp (compGo (some n) (rs.map f) t p e ro (r2.map f) ((r1.filter P).map g)) st postL ex := by
    intro r2
    induction r2 with
    | nil =>
      intro r1 h1
      rw [List.append_nil] at h1
      subst h1
      show Wp (fun st => if chk (some n) _ st = true then .ok _ st else .bad) st postL ex
      unfold Wp
      dsimp only
      rw [if_pos hc]
      exact hp
    | cons y r2 ih =>
      intro r1 h1
      obtain ⟨ro1, q1, q2, q3⟩ := h y (by rw [← h1]; simp)
      have hl : ((r1.filter P).map g).length < szD := by
        have := List.length_filter_le P r1
        have : rs.length = r1.length + (r2.length + 1) := by rw [← h1]; simp
        show _ < 1000000
        rw [List.length_map]
        omega
      have e1 : Wp (compGo (some n) (rs.map f) t p e ro (f y :: r2.map f) ((r1.filter P).map g)) st postL ex ↔ Wp (bnd (noX (p ro1)) (fun c => if c = true then bnd (noX (e ro1)) (fun z => if ((r1.filter P).map g).length < szD then compGo (some n) (rs.map f) t p e ro (r2.map f) ((r1.filter P).map g ++ [z]) else nop) else compGo (some n) (rs.map f) t p e ro (r2.map f) ((r1.filter P).map g))) st postL ex := by
        show Wp (fun st => if chk (some n) (rs.map f) st = true then (match t (f y) ro with | some ro1 => bnd (noX (p ro1)) (fun c => if c = true then bnd (noX (e ro1)) (fun z => if ((r1.filter P).map g).length < szD then compGo (some n) (rs.map f) t p e ro (r2.map f) ((r1.filter P).map g ++ [z]) else nop) else compGo (some n) (rs.map f) t p e ro (r2.map f) ((r1.filter P).map g)) st | none => .bad) else .bad) st postL ex ↔ _
        unfold Wp
        dsimp only
        rw [if_pos hc, q1]
      rw [List.map_cons, e1, wp_bnd, wp_noX]
      refine q2.mono ?_
      rintro c s1 ⟨rfl, rfl⟩
      rw [wp_ite]
      have hh := ih (r1 ++ [y]) (by simpa using h1)
      rw [List.filter_append, List.map_append] at hh
      cases q : P y with
      | true =>
        rw [if_pos rfl, wp_bnd, wp_noX]
        refine (q3 q).mono ?_
        rintro d s2 ⟨rfl, rfl⟩
        rw [wp_ite, if_pos hl]
        simpa [q] using hh
      | false =>
        rw [if_neg Bool.false_ne_true]
        simpa [q] using hh
  exact go rs [] rfl
end CL
namespace CL
open PySem L2
structure Wq {A : Type} (m : Mo A) (st : Store) (post : A → Store → Prop) (ex : Str → List Da → Store → Prop) : Prop where
  p : Wp m st post ex
def kb {A B : Type} (f : A → Mo B) (post : B → Store → Prop) (ex : Str → List Da → Store → Prop) (a : A) (st : Store) : Prop := Wq (f a) st post ex
section
variable {A B : Type} {st : Store} {ex : Str → List Da → Store → Prop}
theorem wq_iff {m : Mo A} {post : A → Store → Prop} : Wq m st post ex ↔ Wp m st post ex := ⟨fun h => h.p, fun h => ⟨h⟩⟩
@[simp] theorem kb_app {f : A → Mo B} {post : B → Store → Prop} {a : A} : kb f post ex a st ↔ Wq (f a) st post ex := Iff.rfl
@[simp] theorem wq_bnd {m : Mo A} {f : A → Mo B} {post : B → Store → Prop} : Wq (bnd m f) st post ex ↔ Wq m st (kb f post ex) ex := by
  rw [wq_iff, wq_iff, wp_bnd]
  exact Wp.congr fun a s => wq_iff.symm
@[simp] theorem wq_ret {a : A} {post : A → Store → Prop} : Wq (ret a) st post ex ↔ post a st := wq_iff
@[simp] theorem wq_nop {post : A → Store → Prop} : Wq (nop : Mo A) st post ex ↔ False := wq_iff
@[simp] theorem wq_noX {m : Mo A} {post : A → Store → Prop} : Wq (noX m) st post ex ↔ Wq m st post noEx := wq_iff.trans (wp_noX.trans wq_iff.symm)
theorem Wq.mono {m : Mo A} {post post' : A → Store → Prop} (h : Wq m st post ex) (hp : ∀ a st', post a st' → post' a st') : Wq m st post' ex := ⟨Wp.mono h.p hp⟩
theorem Wp.q {m : Mo A} {post : A → Store → Prop} (h : Wp m st post ex) : Wq m st post ex := ⟨h⟩
/-- a spec in the old word, taken at a step -/
theorem Wp.go {m : Mo A} {post post' : A → Store → Prop} (h : Wp m st post noEx) (hp : ∀ a st', post a st' → post' a st') : Wq m st post' ex := ⟨Wp.ofNo h hp⟩
theorem Wq.go {m : Mo A} {post post' : A → Store → Prop} (h : Wq m st post noEx) (hp : ∀ a st', post a st' → post' a st') : Wq m st post' ex := ⟨Wp.ofNo h.p hp⟩
/-- with what is raised -/
theorem Wq.con {m : Mo A} {post post' : A → Store → Prop} {ex' : Str → List Da → Store → Prop} (h : Wq m st post ex') (hp : ∀ a st', post a st' → post' a st') (he : ∀ c as st', ex' c as st' → ex c as st') : Wq m st post' ex := by
  have h := h.p
  refine ⟨?_⟩
  unfold Wp at h ⊢
  cases q : m st with
  | ok a st' => rw [q] at h; exact hp a st' h
  | exc c as st' => rw [q] at h; exact he c as st' h
  | bad => rw [q] at h; exact h
theorem Wq.of {m : Mo A} {post : A → Store → Prop} {a : A} {st' : Store} (h : m st = .ok a st') (hp : post a st') : Wq m st post ex := ⟨Wp.of h hp⟩
@[simp] theorem wq_ar {n : Nat} {f : List Da → Mo A} {ds : List Da} {post : A → Store → Prop} (h : ds.length = n) : Wq (ar n f ds) st post ex ↔ Wq (f ds) st post ex := by
  unfold ar; rw [if_pos h]
@[simp] theorem wq_one {f : Da → Mo A} {d : Da} {post : A → Store → Prop} : Wq (one f [d]) st post ex ↔ Wq (f d) st post ex := wq_iff.trans (wq_iff (m := f d)).symm
@[simp] theorem wq_two {f : Da → Da → Mo A} {d e : Da} {post : A → Store → Prop} : Wq (two f [d, e]) st post ex ↔ Wq (f d e) st post ex := wq_iff.trans (wq_iff (m := f d e)).symm
variable {a b c v o i' : Sl → Mo Da} {p q : Sl → Mo Bool} {al kl : Sl → Mo (List Da)} {ro : Sl} {post : Da → Store → Prop} {postB : Bool → Store → Prop} {postL : List Da → Store → Prop} {postF : Fl → Store → Prop} {postS : Src → Store → Prop} {postU : Unit → Store → Prop} {m n : Sl → Mo Fl}
theorem wq_var {i : Nat} {d : Da} (h : ro[i]? = some (some d)) : Wq (eVar i ro) st post ex ↔ post d st := wq_iff.trans (wp_var h)
@[simp] theorem wq_var0 {d : Da} {r : Sl} : Wq (eVar 0 (some d :: r)) st post ex ↔ post d st := wq_iff
@[simp] theorem wq_varS {i : Nat} {o : Option Da} {r : Sl} : Wq (eVar (i + 1) (o :: r)) st post ex ↔ Wq (eVar i r) st post ex := wq_iff.trans (wq_iff (m := eVar i r)).symm
@[simp] theorem wq_var1 {o0 : Option Da} {d : Da} {r : Sl} : Wq (eVar 1 (o0 :: some d :: r)) st post ex ↔ post d st := wq_iff
@[simp] theorem wq_var2 {o0 o1 : Option Da} {d : Da} {r : Sl} : Wq (eVar 2 (o0 :: o1 :: some d :: r)) st post ex ↔ post d st := wq_iff
@[simp] theorem wq_var3 {o0 o1 o2 : Option Da} {d : Da} {r : Sl} : Wq (eVar 3 (o0 :: o1 :: o2 :: some d :: r)) st post ex ↔ post d st := wq_iff
@[simp] theorem wq_var4 {o0 o1 o2 o3 : Option Da} {d : Da} {r : Sl} : Wq (eVar 4 (o0 :: o1 :: o2 :: o3 :: some d :: r)) st post ex ↔ post d st := wq_iff
@[simp] theorem wq_var5 {o0 o1 o2 o3 o4 : Option Da} {d : Da} {r : Sl} : Wq (eVar 5 (o0 :: o1 :: o2 :: o3 :: o4 :: some d :: r)) st post ex ↔ post d st := wq_iff
@[simp] theorem wq_var6 {o0 o1 o2 o3 o4 o5 : Option Da} {d : Da} {r : Sl} : Wq (eVar 6 (o0 :: o1 :: o2 :: o3 :: o4 :: o5 :: some d :: r)) st post ex ↔ post d st := wq_iff
@[simp] theorem wq_var7 {o0 o1 o2 o3 o4 o5 o6 : Option Da} {d : Da} {r : Sl} : Wq (eVar 7 (o0 :: o1 :: o2 :: o3 :: o4 :: o5 :: o6 :: some d :: r)) st post ex ↔ post d st := wq_iff
@[simp] theorem wq_var8 {o0 o1 o2 o3 o4 o5 o6 o7 : Option Da} {d : Da} {r : Sl} : Wq (eVar 8 (o0 :: o1 :: o2 :: o3 :: o4 :: o5 :: o6 :: o7 :: some d :: r)) st post ex ↔ post d st := wq_iff
@[simp] theorem wq_var9 {o0 o1 o2 o3 o4 o5 o6 o7 o8 : Option Da} {d : Da} {r : Sl} : Wq (eVar 9 (o0 :: o1 :: o2 :: o3 :: o4 :: o5 :: o6 :: o7 :: o8 :: some d :: r)) st post ex ↔ post d st := wq_iff
@[simp] theorem wq_var10 {o0 o1 o2 o3 o4 o5 o6 o7 o8 o9 : Option Da} {d : Da} {r : Sl} : Wq (eVar 10 (o0 :: o1 :: o2 :: o3 :: o4 :: o5 :: o6 :: o7 :: o8 :: o9 :: some d :: r)) st post ex ↔ post d st := wq_iff
@[simp] theorem wq_var11 {o0 o1 o2 o3 o4 o5 o6 o7 o8 o9 o10 : Option Da} {d : Da} {r : Sl} : Wq (eVar 11 (o0 :: o1 :: o2 :: o3 :: o4 :: o5 :: o6 :: o7 :: o8 :: o9 :: o10 :: some d :: r)) st post ex ↔ post d st := wq_iff
@[simp] theorem wq_var12 {o0 o1 o2 o3 o4 o5 o6 o7 o8 o9 o10 o11 : Option Da} {d : Da} {r : Sl} : Wq (eVar 12 (o0 :: o1 :: o2 :: o3 :: o4 :: o5 :: o6 :: o7 :: o8 :: o9 :: o10 :: o11 :: some d :: r)) st post ex ↔ post d st := wq_iff
@[simp] theorem wq_var13 {o0 o1 o2 o3 o4 o5 o6 o7 o8 o9 o10 o11 o12 : Option Da} {d : Da} {r : Sl} : Wq (eVar 13 (o0 :: o1 :: o2 :: o3 :: o4 :: o5 :: o6 :: o7 :: o8 :: o9 :: o10 :: o11 :: o12 :: some d :: r)) st post ex ↔ post d st := wq_iff
@[simp] theorem wq_var14 {o0 o1 o2 o3 o4 o5 o6 o7 o8 o9 o10 o11 o12 o13 : Option Da} {d : Da} {r : Sl} : Wq (eVar 14 (o0 :: o1 :: o2 :: o3 :: o4 :: o5 :: o6 :: o7 :: o8 :: o9 :: o10 :: o11 :: o12 :: o13 :: some d :: r)) st post ex ↔ post d st := wq_iff
@[simp] theorem wq_var15 {o0 o1 o2 o3 o4 o5 o6 o7 o8 o9 o10 o11 o12 o13 o14 : Option Da} {d : Da} {r : Sl} : Wq (eVar 15 (o0 :: o1 :: o2 :: o3 :: o4 :: o5 :: o6 :: o7 :: o8 :: o9 :: o10 :: o11 :: o12 :: o13 :: o14 :: some d :: r)) st post ex ↔ post d st := wq_iff
@[simp] theorem wq_var16 {o0 o1 o2 o3 o4 o5 o6 o7 o8 o9 o10 o11 o12 o13 o14 o15 : Option Da} {d : Da} {r : Sl} : Wq (eVar 16 (o0 :: o1 :: o2 :: o3 :: o4 :: o5 :: o6 :: o7 :: o8 :: o9 :: o10 :: o11 :: o12 :: o13 :: o14 :: o15 :: some d :: r)) st post ex ↔ post d st := wq_iff
@[simp] theorem wq_var17 {o0 o1 o2 o3 o4 o5 o6 o7 o8 o9 o10 o11 o12 o13 o14 o15 o16 : Option Da} {d : Da} {r : Sl} : Wq (eVar 17 (o0 :: o1 :: o2 :: o3 :: o4 :: o5 :: o6 :: o7 :: o8 :: o9 :: o10 :: o11 :: o12 :: o13 :: o14 :: o15 :: o16 :: some d :: r)) st post ex ↔ post d st := wq_iff
@[simp] theorem wq_var18 {o0 o1 o2 o3 o4 o5 o6 o7 o8 o9 o10 o11 o12 o13 o14 o15 o16 o17 : Option Da} {d : Da} {r : Sl} : Wq (eVar 18 (o0 :: o1 :: o2 :: o3 :: o4 :: o5 :: o6 :: o7 :: o8 :: o9 :: o10 :: o11 :: o12 :: o13 :: o14 :: o15 :: o16 :: o17 :: some d :: r)) st post ex ↔ post d st := wq_iff
@[simp] theorem wq_var19 {o0 o1 o2 o3 o4 o5 o6 o7 o8 o9 o10 o11 o12 o13 o14 o15 o16 o17 o18 : Option Da} {d : Da} {r : Sl} : Wq (eVar 19 (o0 :: o1 :: o2 :: o3 :: o4 :: o5 :: o6 :: o7 :: o8 :: o9 :: o10 :: o11 :: o12 :: o13 :: o14 :: o15 :: o16 :: o17 :: o18 :: some d :: r)) st post ex ↔ post d st := wq_iff
@[simp] theorem wq_var20 {o0 o1 o2 o3 o4 o5 o6 o7 o8 o9 o10 o11 o12 o13 o14 o15 o16 o17 o18 o19 : Option Da} {d : Da} {r : Sl} : Wq (eVar 20 (o0 :: o1 :: o2 :: o3 :: o4 :: o5 :: o6 :: o7 :: o8 :: o9 :: o10 :: o11 :: o12 :: o13 :: o14 :: o15 :: o16 :: o17 :: o18 :: o19 :: some d :: r)) st post ex ↔ post d st := wq_iff
@[simp] theorem wq_var21 {o0 o1 o2 o3 o4 o5 o6 o7 o8 o9 o10 o11 o12 o13 o14 o15 o16 o17 o18 o19 o20 : Option Da} {d : Da} {r : Sl} : Wq (eVar 21 (o0 :: o1 :: o2 :: o3 :: o4 :: o5 :: o6 :: o7 :: o8 :: o9 :: o10 :: o11 :: o12 :: o13 :: o14 :: o15 :: o16 :: o17 :: o18 :: o19 :: o20 :: some d :: r)) st post ex ↔ post d st := wq_iff
@[simp] theorem wq_var22 {o0 o1 o2 o3 o4 o5 o6 o7 o8 o9 o10 o11 o12 o13 o14 o15 o16 o17 o18 o19 o20 o21 : Option Da} {d : Da} {r : Sl} : Wq (eVar 22 (o0 :: o1 :: o2 :: o3 :: o4 :: o5 :: o6 :: o7 :: o8 :: o9 :: o10 :: o11 :: o12 :: o13 :: o14 :: o15 :: o16 :: o17 :: o18 :: o19 :: o20 :: o21 :: some d :: r)) st post ex ↔ post d st := wq_iff
@[simp] theorem wq_var23 {o0 o1 o2 o3 o4 o5 o6 o7 o8 o9 o10 o11 o12 o13 o14 o15 o16 o17 o18 o19 o20 o21 o22 : Option Da} {d : Da} {r : Sl} : Wq (eVar 23 (o0 :: o1 :: o2 :: o3 :: o4 :: o5 :: o6 :: o7 :: o8 :: o9 :: o10 :: o11 :: o12 :: o13 :: o14 :: o15 :: o16 :: o17 :: o18 :: o19 :: o20 :: o21 :: o22 :: some d :: r)) st post ex ↔ post d st := wq_iff
@[simp] theorem wq_var24 {o0 o1 o2 o3 o4 o5 o6 o7 o8 o9 o10 o11 o12 o13 o14 o15 o16 o17 o18 o19 o20 o21 o22 o23 : Option Da} {d : Da} {r : Sl} : Wq (eVar 24 (o0 :: o1 :: o2 :: o3 :: o4 :: o5 :: o6 :: o7 :: o8 :: o9 :: o10 :: o11 :: o12 :: o13 :: o14 :: o15 :: o16 :: o17 :: o18 :: o19 :: o20 :: o21 :: o22 :: o23 :: some d :: r)) st post ex ↔ post d st := wq_iff
@[simp] theorem wq_var25 {o0 o1 o2 o3 o4 o5 o6 o7 o8 o9 o10 o11 o12 o13 o14 o15 o16 o17 o18 o19 o20 o21 o22 o23 o24 : Option Da} {d : Da} {r : Sl} : Wq (eVar 25 (o0 :: o1 :: o2 :: o3 :: o4 :: o5 :: o6 :: o7 :: o8 :: o9 :: o10 :: o11 :: o12 :: o13 :: o14 :: o15 :: o16 :: o17 :: o18 :: o19 :: o20 :: o21 :: o22 :: o23 :: o24 :: some d :: r)) st post ex ↔ post d st := wq_iff
@[simp] theorem wq_c {d : Da} : Wq (eC d ro) st post ex ↔ Wq (ret d) st post ex := wq_iff.trans (wq_iff (m := (ret d))).symm
@[simp] theorem wq_e2 {f : Da → Da → Mo Da} : Wq (e2 f a b ro) st post ex ↔ Wq (a ro) st (kb (fun x => bnd (b ro) fun y => f x y) post ex) ex := wq_bnd
@[simp] theorem wq_e1 {f : Da → Mo Da} : Wq (e1 f a ro) st post ex ↔ Wq (a ro) st (kb f post ex) ex := wq_bnd
@[simp] theorem wq_tst  : Wq (tst a ro) st postB ex ↔ Wq (a ro) st (kb toB postB ex) ex := wq_bnd
@[simp] theorem wq_and  : Wq (tAnd_ p q ro) st postB ex ↔ Wq (p ro) st (kb (fun c => if c = true then q ro else ret false) postB ex) ex := wq_bnd
@[simp] theorem wq_or  : Wq (tOr_ p q ro) st postB ex ↔ Wq (p ro) st (kb (fun c => if c = true then ret true else q ro) postB ex) ex := wq_bnd
@[simp] theorem wq_not  : Wq (tNot_ p ro) st postB ex ↔ Wq (p ro) st (kb (fun c => ret (!c)) postB ex) ex := wq_bnd
@[simp] theorem wq_vAnd  : Wq (vAnd a b ro) st post ex ↔ Wq (tst a ro) st (kb (fun c => if c = true then b ro else ret (.bl false)) post ex) ex := wq_bnd
@[simp] theorem wq_vOr  : Wq (vOr a b ro) st post ex ↔ Wq (tst a ro) st (kb (fun c => if c = true then ret (.bl true) else b ro) post ex) ex := wq_bnd
@[simp] theorem wq_vNot  : Wq (vNot a ro) st post ex ↔ Wq (tst a ro) st (kb (fun c => ret (.bl (!c))) post ex) ex := wq_bnd
@[simp] theorem wq_eIf  : Wq (eIf p a b ro) st post ex ↔ Wq (p ro) st (kb (fun c => if c = true then a ro else b ro) post ex) ex := wq_bnd
@[simp] theorem wq_aNil  : Wq (aNil ro) st postL ex ↔ Wq (ret []) st postL ex := wq_iff.trans (wq_iff (m := (ret []))).symm
@[simp] theorem wq_aCons  : Wq (aCons a al ro) st postL ex ↔ Wq (a ro) st (kb (fun x => bnd (al ro) fun xs => ret (x :: xs)) postL ex) ex := wq_bnd
@[simp] theorem wq_eTup  : Wq (eTup al ro) st post ex ↔ Wq (al ro) st (kb (fun xs => if xs.length ≤ 1000 then ret (.tup xs) else nop) post ex) ex := wq_bnd
@[simp] theorem wq_lDisp  : Wq (lDisp al ro) st postL ex ↔ Wq (al ro) st (kb (fun xs => if xs.length ≤ 1000 then ret xs else nop) postL ex) ex := wq_bnd
@[simp] theorem wq_eL  : Wq (eL al ro) st post ex ↔ Wq (al ro) st (kb (fun xs => ret (.lst xs)) post ex) ex := wq_bnd
@[simp] theorem wq_eF  : Wq (eF a ro) st post ex ↔ Wq (a ro) st (kb fz post ex) ex := wq_bnd
@[simp] theorem wq_eCall {f : List Da → Mo Da} : Wq (eCall f al ro) st post ex ↔ Wq (al ro) st (kb f post ex) ex := wq_bnd
@[simp] theorem wq_lCall {f : List Da → Mo (List Da)} : Wq (lCall f al ro) st postL ex ↔ Wq (al ro) st (kb f postL ex) ex := wq_bnd
@[simp] theorem wq_l2 {f : Da → Da → Mo (List Da)} : Wq (l2 f a b ro) st postL ex ↔ Wq (a ro) st (kb (fun x => bnd (b ro) fun y => f x y) postL ex) ex := wq_bnd
@[simp] theorem wq_chain {f g : Da → Da → Mo Da} : Wq (eChain f g a b c ro) st post ex ↔ Wq (a ro) st (kb (fun x => bnd (b ro) fun y => bnd (bnd (f x y) toB) fun k => if k = true then bnd (c ro) fun z => g y z else ret (.bl false)) post ex) ex := wq_bnd
@[simp] theorem wq_eApp  : Wq (eApp a b ro) st post ex ↔ Wq (a ro) st (kb (fun d => bnd (isLs d) fun _ => bnd (b ro) fun x => appD d x) post ex) ex := wq_bnd
@[simp] theorem wq_ePop  : Wq (ePop a ro) st post ex ↔ Wq (a ro) st (kb (fun d => bnd (isLs d) fun _ => popD d) post ex) ex := wq_bnd
@[simp] theorem wq_ePopAt  : Wq (ePopAt a b ro) st post ex ↔ Wq (a ro) st (kb (fun d => bnd (isLs d) fun _ => bnd (b ro) fun x => popAtD d x) post ex) ex := wq_bnd
@[simp] theorem wq_eIndex  : Wq (eIndex a b ro) st post ex ↔ Wq (a ro) st (kb (fun d => bnd (isLs d) fun _ => bnd (b ro) fun x => indexD d x) post ex) ex := wq_bnd
@[simp] theorem wq_mNil  : Wq (mNil ro) st postF ex ↔ Wq (ret (Fl.nx ro)) st postF ex := wq_iff.trans (wq_iff (m := (ret (Fl.nx ro)))).symm
@[simp] theorem wq_mSet {i : Nat} : Wq (mSet i a ro) st postF ex ↔ Wq (a ro) st (kb (fun d => ret (Fl.nx (ro.set i (some d)))) postF ex) ex := wq_bnd
@[simp] theorem wq_mRet  : Wq (mRet a ro) st postF ex ↔ Wq (a ro) st (kb (fun d => ret (Fl.rt d)) postF ex) ex := wq_bnd
@[simp] theorem wq_mRetN  : Wq (mRetN ro) st postF ex ↔ Wq (ret (Fl.rt .non)) st postF ex := wq_iff.trans (wq_iff (m := (ret (Fl.rt .non)))).symm
@[simp] theorem wq_mExpr  : Wq (mExpr a ro) st postF ex ↔ Wq (a ro) st (kb (fun _ => ret (Fl.nx ro)) postF ex) ex := wq_bnd
@[simp] theorem wq_mIf  : Wq (mIf p m n ro) st postF ex ↔ Wq (p ro) st (kb (fun c => if c = true then m ro else n ro) postF ex) ex := wq_bnd
@[simp] theorem wq_mBrk  : Wq (mBrk ro) st postF ex ↔ Wq (ret (Fl.bk ro)) st postF ex := wq_iff.trans (wq_iff (m := (ret (Fl.bk ro)))).symm
@[simp] theorem wq_mCnt  : Wq (mCnt ro) st postF ex ↔ Wq (ret (Fl.ct ro)) st postF ex := wq_iff.trans (wq_iff (m := (ret (Fl.ct ro)))).symm
@[simp] theorem wq_mNever  : Wq (mNever ro) st postF ex ↔ Wq (nop) st postF ex := wq_iff.trans (wq_iff (m := (nop))).symm
@[simp] theorem wq_mSetI  : Wq (mSetI v o i' ro) st postF ex ↔ Wq (v ro) st (kb (fun x => bnd (o ro) fun d => bnd (i' ro) fun k => bnd (setD d k x) fun _ => ret (Fl.nx ro)) postF ex) ex := wq_bnd
@[simp] theorem wq_mFor {s : Sl → Mo Src} {t : Tg} : Wq (mFor s t m ro) st postF ex ↔ Wq (s ro) st (kb (fun s => forGo s.o s.xs t m s.xs ro) postF ex) ex := wq_bnd
@[simp] theorem wq_fnM {k : Nat} {ds : List Da} : Wq (fnM k m ds) st post ex ↔ Wq (m (startS k ds)) st (kb fnE post ex) ex := wq_bnd
@[simp] theorem wq_lComp {s : Sl → Mo Src} {t : Tg} {vs : List Nat} : Wq (lComp s t p a vs ro) st postL ex ↔ Wq (s ro) st (kb (fun s => compGo s.o s.xs t p a (wipeS ro vs) s.xs []) postL ex) ex := wq_bnd
@[simp] theorem wq_iV  : Wq (iV a ro) st postS ex ↔ Wq (a ro) st (kb srcV postS ex) ex := wq_bnd
@[simp] theorem wq_iR1  : Wq (iR1 al ro) st postS ex ↔ Wq (al ro) st (kb srcR1 postS ex) ex := wq_bnd
@[simp] theorem wq_iR2  : Wq (iR2 al ro) st postS ex ↔ Wq (al ro) st (kb srcR2 postS ex) ex := wq_bnd
@[simp] theorem wq_iR3  : Wq (iR3 al ro) st postS ex ↔ Wq (al ro) st (kb srcR3 postS ex) ex := wq_bnd
@[simp] theorem wq_yes  : Wq (tYes_ ro) st postB ex ↔ Wq (ret true) st postB ex := wq_iff.trans (wq_iff (m := (ret true))).symm
@[simp] theorem wq_eFld {cs : List Str} {f : Str} : Wq (eFld cs f a ro) st post ex ↔ Wq (a ro) st (kb (fldD cs f) post ex) ex := wq_bnd
@[simp] theorem wq_mFld {cs : List Str} {f : Str} : Wq (mFld cs f v o ro) st postF ex ↔ Wq (v ro) st (kb (fun x => bnd (o ro) fun d => bnd (setFD cs f d x) fun _ => ret (Fl.nx ro)) postF ex) ex := wq_bnd
@[simp] theorem wq_eMeth {c m : Str} {f : List Da → Mo Da} : Wq (eMeth c m f a al ro) st post ex ↔ Wq (a ro) st (kb (fun d => bnd (isIns c m d) fun _ => bnd (al ro) fun ds => f (d :: ds)) post ex) ex := wq_bnd
@[simp] theorem wq_eMake {c : Str} {f : List Da → Mo Da} : Wq (eMake c f al ro) st post ex ↔ Wq (al ro) st (kb (makeD c f) post ex) ex := wq_bnd
@[simp] theorem wq_eH : Wq (eH al ro) st post ex ↔ Wq (al ro) st (kb (fun xs st => .ok (.han st.length) (st ++ [.lst xs])) post ex) ex := wq_bnd
@[simp] theorem wq_okf {f : Store → A} {g : Store → Store} {post : A → Store → Prop} : Wq (fun st => Res.ok (f st) (g st)) st post ex ↔ post (f st) (g st) := wq_iff
@[simp] theorem wq_mSeq : Wq (mSeq m n ro) st postF ex ↔ Wq (m ro) st (kb (fun f => match f with | .nx ro' => n ro' | f => ret f) postF ex) ex := wq_bnd
theorem Wq.seq (Q : Fl → Store → Prop) (h1 : Wq (m ro) st Q ex) (h2 : ∀ f st', Q f st' → kb (fun f => match f with | .nx ro' => n ro' | f => ret f) postF ex f st') : Wq (mSeq m n ro) st postF ex := wq_mSeq.mpr (h1.mono h2)
@[simp] theorem wq_mTgt {t : Tg} : Wq (mTgt t a ro) st postF ex ↔ Wq (a ro) st (kb (fun d => match t d ro with | some ro' => ret (Fl.nx ro') | none => nop) postF ex) ex := wq_bnd
@[simp] theorem wq_mPar {i j : Nat} : Wq (mPar i j al ro) st postF ex ↔ Wq (al ro) st (kb (fun ds => match ds with | [d, e] => ret (Fl.nx ((ro.set i (some d)).set j (some e))) | _ => nop) postF ex) ex := wq_bnd
@[simp] theorem wq_mAug {i : Nat} {f : Int → Int → Int} : Wq (mAug i f a ro) st postF ex ↔ Wq (eVar i ro) st (kb (fun x => bnd (a ro) fun y => match x, y with | .int p, .int q => ret (Fl.nx (ro.set i (some (.int (f p q))))) | _, _ => nop) postF ex) ex := wq_bnd
@[simp] theorem wq_toB {k : Bool} : Wq (toB (.bl k)) st postB ex ↔ postB k st := wq_iff
@[simp] theorem fnE_nx {ro : Sl} : fnE (.nx ro) = ret .non := rfl
@[simp] theorem fnE_rt {d : Da} : fnE (.rt d) = ret d := rfl
theorem wq_fz {n : Nat} {ds : List Da} (h : st[n]? = some (.lst ds)) : Wq (fz (.han n)) st post ex ↔ post (.lst ds) (st.set n .dead) := wq_iff.trans (wp_fz h)
@[simp] theorem wq_noP {postP : Option Int → Store → Prop} : Wq (noP ro) st postP ex ↔ postP none st := wq_iff
@[simp] theorem wq_soP {postP : Option Int → Store → Prop} : Wq (soP a ro) st postP ex ↔ Wq (a ro) st (kb (fun d => match d with | .int i => ret (some i) | _ => nop) postP ex) ex := wq_bnd
@[simp] theorem wq_eSl {f : Da → Option Int → Option Int → Mo Da} {lo hi : Sl → Mo (Option Int)} : Wq (eSl f a lo hi ro) st post ex ↔ Wq (a ro) st (kb (fun d => bnd (lo ro) fun l => bnd (hi ro) fun h => f d l h) post ex) ex := wq_bnd
@[simp] theorem wq_lSl {lo hi : Sl → Mo (Option Int)} : Wq (lSl a lo hi ro) st postL ex ↔ Wq (a ro) st (kb (fun d => bnd (lo ro) fun l => bnd (hi ro) fun h => slL d l h) postL ex) ex := wq_bnd
@[simp] theorem wq_add_i {i j : Int} : Wq (addD (.int i) (.int j)) st post ex ↔ post (.int (i + j)) st := wq_iff
@[simp] theorem wq_sub_i {i j : Int} : Wq (subD (.int i) (.int j)) st post ex ↔ post (.int (i - j)) st := wq_iff
@[simp] theorem wq_lt_i {i j : Int} : Wq (ltD (.int i) (.int j)) st post ex ↔ post (.bl (decide (i < j))) st := wq_iff
@[simp] theorem wq_le_i {i j : Int} : Wq (leD (.int i) (.int j)) st post ex ↔ post (.bl (decide (i ≤ j))) st := wq_iff
@[simp] theorem wq_gt_i {i j : Int} : Wq (gtD (.int i) (.int j)) st post ex ↔ post (.bl (decide (j < i))) st := wq_iff
@[simp] theorem wq_ge_i {i j : Int} : Wq (geD (.int i) (.int j)) st post ex ↔ post (.bl (decide (j ≤ i))) st := wq_iff
@[simp] theorem wq_neg_i {i : Int} : Wq (negD (.int i)) st post ex ↔ post (.int (-i)) st := wq_iff
@[simp] theorem wq_max_i {i j : Int} : Wq (maxD (.int i) (.int j)) st post ex ↔ post (.int (if j > i then j else i)) st := wq_iff
@[simp] theorem wq_min_i {i j : Int} : Wq (minD (.int i) (.int j)) st post ex ↔ post (.int (if j < i then j else i)) st := wq_iff
@[simp] theorem wq_isT_i {t : Tn} {i : Int} : Wq (isT t (.int i)) st post ex ↔ post (.bl (isTn .int t)) st := wq_iff
@[simp] theorem wq_isT_b {t : Tn} {i : Bool} : Wq (isT t (.bl i)) st post ex ↔ post (.bl (isTn .bool t)) st := wq_iff
@[simp] theorem wq_isT_s {t : Tn} {i : Str} : Wq (isT t (.str i)) st post ex ↔ post (.bl (isTn .str t)) st := wq_iff
@[simp] theorem wq_isT_n {t : Tn} : Wq (isT t .non) st post ex ↔ post (.bl (isTn .non t)) st := wq_iff
@[simp] theorem wq_isT_t {t : Tn} {xs : List Da} : Wq (isT t (.tup xs)) st post ex ↔ post (.bl (isTn .tuple t)) st := wq_iff
@[simp] theorem wq_isT_l {t : Tn} {xs : List Da} : Wq (isT t (.lst xs)) st post ex ↔ post (.bl (isTn .list t)) st := wq_iff
@[simp] theorem wq_is_bl {b x y : Bool} : Wq (isB b (.bl x) (.bl y)) st post ex ↔ post (.bl (if b then !decide (x = y) else decide (x = y))) st := wq_iff
@[simp] theorem wq_len_l {xs : List Da} : Wq (lenD (.lst xs)) st post ex ↔ post (.int xs.length) st := wq_iff
@[simp] theorem wq_len_t {xs : List Da} : Wq (lenD (.tup xs)) st post ex ↔ post (.int xs.length) st := wq_iff
@[simp] theorem wq_list_l {xs : List Da} : Wq (listD (.lst xs)) st postL ex ↔ postL xs st := wq_iff
@[simp] theorem wq_list_t {xs : List Da} : Wq (listD (.tup xs)) st postL ex ↔ postL xs st := wq_iff
@[simp] theorem wq_list_f {xs : List Da} : Wq (listD (.fro xs)) st postL ex ↔ postL xs st := wq_iff
@[simp] theorem wq_tuple_l {xs : List Da} : Wq (tupleD (.lst xs)) st post ex ↔ post (.tup xs) st := wq_iff
@[simp] theorem wq_srcV_l {xs : List Da} : Wq (srcV (.lst xs)) st postS ex ↔ postS ⟨xs, none⟩ st := wq_iff
@[simp] theorem wq_srcV_t {xs : List Da} : Wq (srcV (.tup xs)) st postS ex ↔ postS ⟨xs, none⟩ st := wq_iff
@[simp] theorem wq_slA_t {xs : List Da} {lo hi : Option Int} : Wq (slA (.tup xs) lo hi) st post ex ↔ post (.tup (cutD xs lo hi)) st := wq_iff
@[simp] theorem wq_slA_l {xs : List Da} {lo hi : Option Int} : Wq (slA (.lst xs) lo hi) st post ex ↔ post (.lst (cutD xs lo hi)) st := wq_iff
@[simp] theorem wq_slL_l {xs : List Da} {lo hi : Option Int} : Wq (slL (.lst xs) lo hi) st postL ex ↔ postL (cutD xs lo hi) st := wq_iff
@[simp] theorem wq_isLs_l {xs : List Da} : Wq (isLs (.lst xs)) st postU ex ↔ postU () st := wq_iff
@[simp] theorem wq_isNon_n : Wq (isNon .non) st postU ex ↔ postU () st := wq_iff
@[simp] theorem wq_is_non {b : Bool}  : Wq (isB b (.non) .non) st post ex ↔ post (.bl (if b then false else true)) st := by cases b <;> exact wq_iff
@[simp] theorem wq_is_int {b : Bool} {i : Int} : Wq (isB b (.int i) .non) st post ex ↔ post (.bl b) st := by cases b <;> exact wq_iff
@[simp] theorem wq_is_tup {b : Bool} {l : List Da} : Wq (isB b (.tup l) .non) st post ex ↔ post (.bl b) st := by cases b <;> exact wq_iff
@[simp] theorem wq_is_lst {b : Bool} {l : List Da} : Wq (isB b (.lst l) .non) st post ex ↔ post (.bl b) st := by cases b <;> exact wq_iff
@[simp] theorem wq_is_str {b : Bool} {s : Str} : Wq (isB b (.str s) .non) st post ex ↔ post (.bl b) st := by cases b <;> exact wq_iff
@[simp] theorem wq_mul_i {i j : Int} (h : CMul i j) : Wq (mulD (.int i) (.int j)) st post ex ↔ post (.int (i * j)) st := by unfold mulD; dsimp only; rw [if_pos h]; exact wq_iff
@[simp] theorem wq_fdiv_i {i j : Int} (h : CDivN i j) : Wq (fdivD (.int i) (.int j)) st post ex ↔ post (.int (i.fdiv j)) st := by unfold fdivD; dsimp only; rw [if_pos h]; exact wq_iff
@[simp] theorem wq_mod_i {i j : Int} (h : j ≠ 0) : Wq (modD (.int i) (.int j)) st post ex ↔ post (.int (i.fmod j)) st := by unfold modD; dsimp only; rw [if_pos h]; exact wq_iff
@[simp] theorem wq_pow_i {i j : Int} (h : CPow i j) : Wq (powD (.int i) (.int j)) st post ex ↔ post (.int (i ^ j.toNat)) st := by unfold powD; dsimp only; rw [if_pos h]; exact wq_iff
@[simp] theorem wq_srcR1 {j : Int} (h : big j) : Wq (srcR1 [.int j]) st postS ex ↔ postS ⟨rngL 0 j.toNat, none⟩ st := by unfold srcR1; dsimp only; rw [if_pos h]; exact wq_iff
@[simp] theorem wq_srcR2 {i j : Int} (h : big i ∧ big j) : Wq (srcR2 [.int i, .int j]) st postS ex ↔ postS ⟨rngL i (j - i).toNat, none⟩ st := by unfold srcR2; dsimp only; rw [if_pos h]; exact wq_iff
@[simp] theorem wq_srcR3 {i j c : Int} (h : rgOk i j c) : Wq (srcR3 [.int i, .int j, .int c]) st postS ex ↔ postS ⟨rngC i c (rgN i j c), none⟩ st := by unfold srcR3; dsimp only; rw [if_pos h]; exact wq_iff
@[simp] theorem wq_catL_l {xs ys : List Da} (h : xs.length + ys.length ≤ 1000000) : Wq (catL (.lst xs) (.lst ys)) st postL ex ↔ postL (xs ++ ys) st := wq_iff.trans ((wp_catL_l).trans (by rw [if_pos h]))
@[simp] theorem wq_add_l {xs ys : List Da} (h : xs.length + ys.length ≤ 1000000) : Wq (addD (.tup xs) (.tup ys)) st post ex ↔ post (.tup (xs ++ ys)) st := by
  rw [wq_iff]; unfold Wp addD; dsimp only; rw [if_pos h]; exact Iff.rfl
theorem wq_isT {t u : Tn} {d : Da} (h : tyN st d = some u) : Wq (isT t d) st post ex ↔ post (.bl (isTn u t)) st := wq_iff.trans (wp_isT h)
theorem wq_isT_h {n : Nat} {xs : List Da} {t : Tn} (h : st[n]? = some (.lst xs)) : Wq (isT t (.han n)) st post ex ↔ post (.bl (isTn .list t)) st := wq_iff.trans (wp_isT (by unfold tyN; dsimp only; rw [h]))
theorem wq_ix_l {x : Da} {xs : List Da} {i : Int} (hx : atI xs i = some x) : Wq (ixD (.lst xs) (.int i)) st post ex ↔ post x st := wq_iff.trans (wp_ix_l hx)
theorem wq_ix_h {n : Nat} {x : Da} {xs : List Da} {i : Int} (h : st[n]? = some (.lst xs)) (hx : atI xs i = some x) : Wq (ixD (.han n) (.int i)) st post ex ↔ post x st := wq_iff.trans (wp_ix_h h hx)
@[simp] theorem wq_ix_t0 {x0 : Da} {r : List Da} : Wq (ixD (.tup (x0 :: r)) (.int 0)) st post ex ↔ post x0 st := wq_iff.trans (wp_ix_t0)
@[simp] theorem wq_ix_t1 {x0 x1 : Da} {r : List Da} : Wq (ixD (.tup (x0 :: x1 :: r)) (.int 1)) st post ex ↔ post x1 st := wq_iff.trans (wp_ix_t1)
@[simp] theorem wq_ix_t2 {x0 x1 x2 : Da} {r : List Da} : Wq (ixD (.tup (x0 :: x1 :: x2 :: r)) (.int 2)) st post ex ↔ post x2 st := wq_iff.trans (wp_ix_t2)
@[simp] theorem wq_ix_t3 {x0 x1 x2 x3 : Da} {r : List Da} : Wq (ixD (.tup (x0 :: x1 :: x2 :: x3 :: r)) (.int 3)) st post ex ↔ post x3 st := wq_iff.trans (wp_ix_t3)
@[simp] theorem wq_ix_l0 {x0 : Da} {r : List Da} : Wq (ixD (.lst (x0 :: r)) (.int 0)) st post ex ↔ post x0 st := wq_iff.trans (wp_ix_l0)
@[simp] theorem wq_ix_l1 {x0 x1 : Da} {r : List Da} : Wq (ixD (.lst (x0 :: x1 :: r)) (.int 1)) st post ex ↔ post x1 st := wq_iff.trans (wp_ix_l (atI_nat (j := 1) rfl))
@[simp] theorem wq_ix_l2 {x0 x1 x2 : Da} {r : List Da} : Wq (ixD (.lst (x0 :: x1 :: x2 :: r)) (.int 2)) st post ex ↔ post x2 st := wq_iff.trans (wp_ix_l (atI_nat (j := 2) rfl))
theorem wq_len_h {n : Nat} {xs : List Da} (h : st[n]? = some (.lst xs)) : Wq (lenD (.han n)) st post ex ↔ post (.int xs.length) st := wq_iff.trans (wp_len_h h)
theorem wq_list_h {n : Nat} {xs : List Da} (h : st[n]? = some (.lst xs)) : Wq (listD (.han n)) st postL ex ↔ postL xs st := wq_iff.trans (wp_list (by unfold sqOf lsOf; dsimp only; rw [h]))
theorem wq_tuple_h {n : Nat} {xs : List Da} (h : st[n]? = some (.lst xs)) : Wq (tupleD (.han n)) st post ex ↔ post (.tup xs) st := wq_iff.trans (wp_tuple_h h)
theorem wq_all {xs : List Da} {bs : List Bool} (h : xs = bs.map Da.bl) : Wq (allD (.lst xs)) st post ex ↔ post (.bl (bs.all id)) st := wq_iff.trans (wp_all h)
@[simp] theorem wq_all1 {x : Bool} : Wq (allD (.lst [.bl x])) st post ex ↔ post (.bl x) st := wq_iff.trans (wp_all1)
@[simp] theorem wq_all2 {x y : Bool} : Wq (allD (.lst [.bl x, .bl y])) st post ex ↔ post (.bl (x && y)) st := wq_iff.trans (wp_all2)
theorem wq_isLs_h {n : Nat} {xs : List Da} (h : st[n]? = some (.lst xs)) : Wq (isLs (.han n)) st postU ex ↔ postU () st := wq_iff.trans (wp_isLs_h h)
theorem wq_appD {n : Nat} {x : Da} {xs : List Da} (h : st[n]? = some (.lst xs)) (hl : xs.length < 1000000) : Wq (appD (.han n) x) st post ex ↔ post .non (st.set n (.lst (xs ++ [x]))) := wq_iff.trans (wp_appD h hl)
theorem wq_fldD {cs : List Str} {f : Str} {n : Nat} {c : Str} {fs : List (Str × Da)} {x : Da} (h : st[n]? = some (.ins c fs)) (hc : c ∈ cs) (hx : fs.lookup f = some x) : Wq (fldD cs f (.han n)) st post ex ↔ post x st := wq_iff.trans (wp_fldD h hc hx)
theorem wq_setFD {cs : List Str} {f : Str} {n : Nat} {c : Str} {fs : List (Str × Da)} {x : Da} (h : st[n]? = some (.ins c fs)) (hc : c ∈ cs) (hl : fs.length < 1000) : Wq (setFD cs f (.han n) x) st postU ex ↔ postU () (st.set n (.ins c (putD f x fs))) := wq_iff.trans (wp_setFD h hc hl)
theorem wq_isIns {c m : Str} {n : Nat} {fs : List (Str × Da)} (h : st[n]? = some (.ins c fs)) (hl : fs.lookup m = none) : Wq (isIns c m (.han n)) st postU ex ↔ postU () st := wq_iff.trans (wp_isIns h hl)
@[simp] theorem wq_makeD {c : Str} {g : List Da → Mo Da} {ds : List Da} : Wq (makeD c g ds) st post ex ↔ Wq (g (.han st.length :: ds)) (st ++ [.ins c []]) (kb (fun r => bnd (isNon r) fun _ => ret (.han st.length)) post ex) ex := by
  rw [← wq_bnd]
  refine wq_iff.trans (Iff.trans ?_ (wq_iff (m := bnd (g (Da.han st.length :: ds)) fun r => bnd (isNon r) fun _ => ret (Da.han st.length))).symm)
  exact Iff.rfl
def makeK (c : Str) (g : List Da → Mo Da) (n1 k : Nat) (gD : List Da → List Da → List Da) (ds es : List Da) : Mo Da := fun st => if ds.length = n1 ∧ es.length = k then bnd (newI c) (fun _ => bnd (g (gD (.han st.length :: ds) es)) fun r => bnd (isNon r) fun _ => ret (.han st.length)) st else .bad
@[simp] theorem wq_eMakeK {c : Str} {g : List Da → Mo Da} {n1 k : Nat} {gD : List Da → List Da → List Da} : Wq (eMakeK c g n1 k gD al kl ro) st post ex ↔ Wq (al ro) st (kb (fun ds => bnd (kl ro) fun es => makeK c g n1 k gD ds es) post ex) ex := wq_bnd
@[simp] theorem wq_makeK {c : Str} {g : List Da → Mo Da} {n1 k : Nat} {gD : List Da → List Da → List Da} {ds es : List Da} (h : ds.length = n1 ∧ es.length = k) : Wq (makeK c g n1 k gD ds es) st post ex ↔ Wq (g (gD (.han st.length :: ds) es)) (st ++ [.ins c []]) (kb (fun r => bnd (isNon r) fun _ => ret (.han st.length)) post ex) ex := by
  rw [← wq_bnd]
  refine wq_iff.trans (Iff.trans ?_ (wq_iff (m := bnd (g (gD (Da.han st.length :: ds) es)) fun r => bnd (isNon r) fun _ => ret (Da.han st.length))).symm)
  unfold makeK Wp
  dsimp only
  rw [if_pos h]
  exact Iff.rfl
theorem wq_eqI {neg : Bool} {d e : Da} {p q : PyData} (h1 : PyIs st d p) (h2 : PyIs st e q) : Wq (eqB neg d e) st post ex ↔ post (.bl (if neg then !PyData.eqv p q else PyData.eqv p q)) st := wq_iff.trans (wp_eqI h1 h2)
@[simp] theorem wq_eq {d e : Da} (h1 : pl 60 d = true) (h2 : pl 60 e = true) : Wq (eqB false d e) st post ex ↔ post (.bl (deq d e)) st := wq_iff.trans (wp_eq h1 h2)
@[simp] theorem wq_ne {d e : Da} (h1 : pl 60 d = true) (h2 : pl 60 e = true) : Wq (eqB true d e) st post ex ↔ post (.bl (!deq d e)) st := wq_iff.trans (wp_ne h1 h2)
@[simp] theorem wq_eq_i {i j : Int} : Wq (eqB false (.int i) (.int j)) st post ex ↔ post (.bl (decide (i = j))) st := wq_iff.trans (wp_eq_i)
@[simp] theorem wq_ne_i {i j : Int} : Wq (eqB true (.int i) (.int j)) st post ex ↔ post (.bl (!decide (i = j))) st := wq_iff.trans (wp_ne_i)
theorem wq_srcV_h {n : Nat} {xs : List Da} (h : st[n]? = some (.lst xs)) : Wq (srcV (.han n)) st postS ex ↔ postS ⟨xs, some n⟩ st := wq_iff.trans (wp_srcV_h h)
theorem wq_forI {all : List Da} {t : Tg} {body : Sl → Mo Fl} {xs : List Da} (I : Nat → Sl → Store → Prop) (h0 : I 0 ro st)
    (hs : ∀ (i : Nat) (x : Da) (ro : Sl) (st : Store), xs[i]? = some x → I i ro st → ∃ ro1, t x ro = some ro1 ∧ Wq (body ro1) st (loopP (I (i + 1)) postF) ex)
    (hd : ∀ ro st, I xs.length ro st → postF (.nx ro) st) : Wq (forGo none all t body xs ro) st postF ex := ⟨wp_forI I h0 (fun i x ro st h1 h2 => let ⟨r, a, b⟩ := hs i x ro st h1 h2; ⟨r, a, b.p⟩) hd⟩
theorem wq_forIh {n : Nat} {t : Tg} {body : Sl → Mo Fl} {xs : List Da} (I : Nat → Sl → Store → Prop) (h0 : I 0 ro st) (hk : ∀ i ro st, I i ro st → st[n]? = some (.lst xs))
    (hs : ∀ (i : Nat) (x : Da) (ro : Sl) (st : Store), xs[i]? = some x → I i ro st → ∃ ro1, t x ro = some ro1 ∧ Wq (body ro1) st (loopP (I (i + 1)) postF) ex)
    (hd : ∀ ro st, I xs.length ro st → postF (.nx ro) st) : Wq (forGo (some n) xs t body xs ro) st postF ex := ⟨wp_forIh I h0 hk (fun i x ro st h1 h2 => let ⟨r, a, b⟩ := hs i x ro st h1 h2; ⟨r, a, b.p⟩) hd⟩
theorem wq_whileI {body : Sl → Mo Fl} (I : Nat → Sl → Store → Prop) (hs : ∀ (k : Nat) (ro : Sl) (st : Store), I k ro st → Wq (p ro) st (fun c s1 => if c = true then Wq (body ro) s1 (loopP (fun ro' s2 => ∃ j, j < k ∧ I j ro' s2) postF) ex else postF (.nx ro) s1) ex)
    (fuel k : Nat) (hk : k < fuel) (h0 : I k ro st) : Wq (whileF p body fuel ro) st postF ex := ⟨wp_whileI I (fun k ro st h => (hs k ro st h).p.mono fun c s1 hc => by
    cases c with
    | true => rw [if_pos rfl] at hc ⊢; exact hc.p
    | false => rw [if_neg Bool.false_ne_true] at hc ⊢; exact hc) fuel k ro st hk h0⟩
theorem wq_compI {all : List Da} {t : Tg} {p : Sl → Mo Bool} {e : Sl → Mo Da} {xs : List Da} (I : Nat → List Da → Store → Prop) (h0 : I 0 [] st) (hl : ∀ i acc st, I i acc st → acc.length ≤ i) (hx : xs.length < 1000000)
    (hs : ∀ (i : Nat) (x : Da) (acc : List Da) (st : Store), xs[i]? = some x → I i acc st → ∃ ro1, t x ro = some ro1 ∧ Wq (p ro1) st (fun c s1 => if c = true then Wq (e ro1) s1 (fun y s2 => I (i + 1) (acc ++ [y]) s2) noEx else I (i + 1) acc s1) noEx)
    (hd : ∀ acc st, I xs.length acc st → postL acc st) : Wq (compGo none all t p e ro xs []) st postL ex := ⟨wp_compI I h0 hl hx (fun i x acc st h1 h2 => let ⟨r, a, b⟩ := hs i x acc st h1 h2; ⟨r, a, b.p.mono fun c s1 hc => by
    cases c with
    | true => rw [if_pos rfl] at hc ⊢; exact hc.p
    | false => rw [if_neg Bool.false_ne_true] at hc ⊢; exact hc⟩) hd⟩
theorem wq_compF {α : Type} {all : List Da} {t : Tg} {p : Sl → Mo Bool} {e : Sl → Mo Da} {rs : List α} {f g : α → Da} {P : α → Bool} (hx : rs.length < 1000000)
    (h : ∀ x ∈ rs, ∃ ro1, t (f x) ro = some ro1 ∧ Wq (p ro1) st (fun c s => c = P x ∧ s = st) noEx ∧ (P x = true → Wq (e ro1) st (fun d s => d = g x ∧ s = st) noEx))
    (hp : postL ((rs.filter P).map g) st) : Wq (compGo none all t p e ro (rs.map f) []) st postL ex := ⟨wp_compF hx (fun x hx => let ⟨r, a, b, c⟩ := h x hx; ⟨r, a, b.p, fun z => (c z).p⟩) hp⟩
/-- without a test -/
theorem wq_compM {α : Type} {all : List Da} {t : Tg} {e : Sl → Mo Da} {rs : List α} {f g : α → Da} (hx : rs.length < 1000000)
    (h : ∀ x ∈ rs, ∃ ro1, t (f x) ro = some ro1 ∧ Wq (e ro1) st (fun d s => d = g x ∧ s = st) noEx)
    (hp : postL (rs.map g) st) : Wq (compGo none all t tYes_ e ro (rs.map f) []) st postL ex := by
  refine wq_compF (P := fun _ => true) (g := g) hx (fun x hm => ?_) ?_
  · obtain ⟨ro1, h1, h2⟩ := h x hm
    exact ⟨ro1, h1, by simp, fun _ => h2⟩
  · rw [List.filter_eq_self.mpr (by simp)]
    exact hp
theorem wq_compFh {α : Type} {n : Nat} {t : Tg} {p : Sl → Mo Bool} {e : Sl → Mo Da} {rs : List α} {f g : α → Da} {P : α → Bool} (hn : st[n]? = some (.lst (rs.map f))) (hx : rs.length < 1000000)
    (h : ∀ x ∈ rs, ∃ ro1, t (f x) ro = some ro1 ∧ Wq (p ro1) st (fun c s => c = P x ∧ s = st) noEx ∧ (P x = true → Wq (e ro1) st (fun d s => d = g x ∧ s = st) noEx))
    (hp : postL ((rs.filter P).map g) st) : Wq (compGo (some n) (rs.map f) t p e ro (rs.map f) []) st postL ex := ⟨wp_compFh hn hx (fun x hx => let ⟨r, a, b, c⟩ := h x hx; ⟨r, a, b.p, fun z => (c z).p⟩) hp⟩
@[simp] theorem wq_comp_nil {all : List Da} {t : Tg} {p : Sl → Mo Bool} {e : Sl → Mo Da} {acc : List Da} : Wq (compGo none all t p e ro [] acc) st postL ex ↔ postL acc st := wq_iff
@[simp] theorem loopK_nx {go : Sl → Mo Fl} : loopK go (.nx ro) = go ro := rfl
@[simp] theorem loopK_ct {go : Sl → Mo Fl} : loopK go (.ct ro) = go ro := rfl
@[simp] theorem loopK_bk {go : Sl → Mo Fl} : loopK go (.bk ro) = ret (Fl.nx ro) := rfl
@[simp] theorem loopK_rt {go : Sl → Mo Fl} {d : Da} : loopK go (.rt d) = ret (Fl.rt d) := rfl
@[simp] theorem wq_for_nil {all : List Da} {t : Tg} {body : Sl → Mo Fl} : Wq (forGo none all t body [] ro) st postF ex ↔ postF (.nx ro) st := wq_iff
end
end CL
namespace CL
open PySem L2
theorem strOk_of (s : String) : PyData.strOk (Str.ofString s) = true := by
  unfold PyData.strOk
  rw [Str.ofString_eq_toList]
  simp only [List.all_toArray, List.all_map, List.all_eq_true]
  intro c _
  have h : c.toNat < 0x110000 := by
    rcases c.valid with h | h
    · exact Nat.lt_trans h (by decide)
    · exact h.2
  simpa using h
@[simp] theorem pl_str {n : Nat} {s : String} : pl n (.str (Str.ofString s)) = true := by
  cases n <;> simp [pl, strOk_of]
@[simp] theorem pl_int {n : Nat} {i : Int} : pl n (.int i) = true := by cases n <;> simp [pl]
@[simp] theorem pl_non {n : Nat} : pl n .non = true := by cases n <;> simp [pl]
@[simp] theorem pl_bl {n : Nat} {b : Bool} : pl n (.bl b) = true := by cases n <;> simp [pl]
@[simp] theorem pl_tup {n : Nat} {xs : List Da} : pl (n + 1) (.tup xs) = plL n xs := by simp [pl]
@[simp] theorem pl_lst {n : Nat} {xs : List Da} : pl (n + 1) (.lst xs) = plL n xs := by simp [pl]
@[simp] theorem plL_nil {n : Nat} : plL n [] = true := by simp [plL]
@[simp] theorem plL_cons {n : Nat} {x : Da} {xs : List Da} : plL n (x :: xs) = (pl n x && plL n xs) := by simp [plL]
@[simp] theorem pl_tup60 {xs : List Da} : pl 60 (.tup xs) = plL 59 xs := pl_tup
@[simp] theorem pl_lst60 {xs : List Da} : pl 60 (.lst xs) = plL 59 xs := pl_lst
@[simp] theorem pl_tup59 {xs : List Da} : pl 59 (.tup xs) = plL 58 xs := pl_tup
@[simp] theorem pl_lst59 {xs : List Da} : pl 59 (.lst xs) = plL 58 xs := pl_lst
@[simp] theorem deq_str {a b : String} : deq (.str (Str.ofString a)) (.str (Str.ofString b)) = decide (a = b) := by
  simp [deq, toPy, PyData.eqv]
  by_cases h : a = b <;> simp [h]
@[simp] theorem deq_int_str {i : Int} {b : Str} : deq (.int i) (.str b) = false := by simp [deq, toPy, PyData.eqv]
@[simp] theorem deq_str_int {i : Int} {b : Str} : deq (.str b) (.int i) = false := by simp [deq, toPy, PyData.eqv]
@[simp] theorem deq_non_str {b : Str} : deq .non (.str b) = false := by simp [deq, toPy, PyData.eqv]
@[simp] theorem deq_str_non {b : Str} : deq (.str b) .non = false := by simp [deq, toPy, PyData.eqv]
@[simp] theorem deq_tup_int {i : Int} {l : List Da} : deq (.tup l) (.int i) = false := by simp [deq, toPy, PyData.eqv]
@[simp] theorem deq_int_tup {i : Int} {l : List Da} : deq (.int i) (.tup l) = false := by simp [deq, toPy, PyData.eqv]
@[simp] theorem deq_tup_str {i : Str} {l : List Da} : deq (.tup l) (.str i) = false := by simp [deq, toPy, PyData.eqv]
@[simp] theorem deq_str_tup {i : Str} {l : List Da} : deq (.str i) (.tup l) = false := by simp [deq, toPy, PyData.eqv]
@[simp] theorem deq_tup_non {l : List Da} : deq (.tup l) .non = false := by simp [deq, toPy, PyData.eqv]
@[simp] theorem deq_non_tup {l : List Da} : deq .non (.tup l) = false := by simp [deq, toPy, PyData.eqv]
section
variable {st : Store} {ex : Str → List Da → Store → Prop} {post : Da → Store → Prop} {a : Sl → Mo Da} {al kl : Sl → Mo (List Da)} {ro : Sl}
theorem any_py {d : Da} : ∀ xs : List Da, (toPyL xs).any (fun z => PyData.eqv z (toPy d)) = xs.any fun z => deq z d
  | [] => by simp [toPyL]
  | x :: xs => by simp [toPyL, any_py xs, deq]
theorem wq_inI {neg : Bool} {d e : Da} {p : PyData} {qs : List PyData} (h1 : PyIs st d p) (h2 : PyIs st e (.tuple qs) ∨ PyIs st e (.list qs)) : Wq (inU neg d e) st post ex ↔ post (.bl (if neg then !qs.any (fun z => PyData.eqv z p) else qs.any fun z => PyData.eqv z p)) st := by
  rw [wq_iff]
  unfold Wp inU
  rw [h1.py]
  rcases h2 with h2 | h2
  · rw [h2.py]
    dsimp only
    rw [if_pos (by rw [h1.sh, h2.sh]; rfl)]
  · rw [h2.py]
    dsimp only
    rw [if_pos (by rw [h1.sh, h2.sh]; rfl)]
@[simp] theorem wq_inU_t {neg : Bool} {d : Da} {xs : List Da} (h1 : pl 60 d = true) (h2 : plL 59 xs = true) : Wq (inU neg d (.tup xs)) st post ex ↔ post (.bl (if neg then !xs.any (fun z => deq z d) else xs.any fun z => deq z d)) st := by
  rw [wq_inI (pl_is (n := 60) (by decide) h1) (qs := toPyL xs) (.inl ?_), any_py]
  have := pl_is (st := st) (n := 60) (by decide) (d := .tup xs) (by simpa using h2)
  simpa [toPy] using this
@[simp] theorem wq_inU_l {neg : Bool} {d : Da} {xs : List Da} (h1 : pl 60 d = true) (h2 : plL 59 xs = true) : Wq (inU neg d (.lst xs)) st post ex ↔ post (.bl (if neg then !xs.any (fun z => deq z d) else xs.any fun z => deq z d)) st := by
  rw [wq_inI (pl_is (n := 60) (by decide) h1) (qs := toPyL xs) (.inr ?_), any_py]
  have := pl_is (st := st) (n := 60) (by decide) (d := .lst xs) (by simpa using h2)
  simpa [toPy] using this
theorem wq_isTT {ts : List Tn} {u : Tn} {d : Da} (h : tyN st d = some u) : Wq (isTT ts d) st post ex ↔ post (.bl (ts.any (isTn u))) st := by
  rw [wq_iff]; unfold Wp isTT; rw [h]
@[simp] theorem wq_isTT_t {ts : List Tn} {xs : List Da} : Wq (isTT ts (.tup xs)) st post ex ↔ post (.bl (ts.any (isTn .tuple))) st := wq_isTT rfl
@[simp] theorem wq_isTT_l {ts : List Tn} {xs : List Da} : Wq (isTT ts (.lst xs)) st post ex ↔ post (.bl (ts.any (isTn .list))) st := wq_isTT rfl
@[simp] theorem wq_eCallK {f : List Da → Mo Da} {n1 k : Nat} {gD : List Da → List Da → List Da} : Wq (eCallK f n1 k gD al kl ro) st post ex ↔ Wq (al ro) st (kb (fun ds => bnd (kl ro) fun es => if ds.length = n1 ∧ es.length = k then f (gD ds es) else nop) post ex) ex := wq_bnd
@[simp] theorem wq_eMethK {c m : Str} {f : List Da → Mo Da} {n1 k : Nat} {gD : List Da → List Da → List Da} : Wq (eMethK c m f n1 k gD a al kl ro) st post ex ↔ Wq (a ro) st (kb (fun d => bnd (isIns c m d) fun _ => bnd (al ro) fun ds => bnd (kl ro) fun es => if ds.length = n1 ∧ es.length = k then f (gD (d :: ds) es) else nop) post ex) ex := wq_bnd
end
end CL
namespace CL
open PySem L2
section
variable {st : Store} {ro : Sl} {a : Sl → Mo Da} {postF : Fl → Store → Prop} {post : Da → Store → Prop} {ex : Str → List Da → Store → Prop}
@[simp] theorem wq_mExt {i : Nat} : Wq (mExt i a ro) st postF ex ↔ Wq (eVar i ro) st (kb (fun x => bnd (a ro) fun y => bnd (extD x y) fun z => ret (Fl.nx (ro.set i (some z)))) postF ex) ex := wq_bnd
@[simp] theorem wq_mFldExt {c f : Str} {o v : Sl → Mo Da} : Wq (mFldExt c f o v ro) st postF ex ↔ Wq (o ro) st (kb (fun d => bnd (fldD [c] f d) fun x => bnd (v ro) fun y => bnd (extD x y) fun z => bnd (setFD [c] f d z) fun _ => ret (Fl.nx ro)) postF ex) ex := wq_bnd
@[simp] theorem wq_lComp2 {s s1 : Sl → Mo Src} {t t1 : Tg} {p p1 : Sl → Mo Bool} {e : Sl → Mo Da} {vs vs1 : List Nat} {postL : List Da → Store → Prop} : Wq (lComp2 s t p s1 t1 p1 e vs vs1 ro) st postL ex ↔ Wq (s ro) st (kb (fun s => compGo2 s.o s.xs t p s1 t1 p1 e vs1 (wipeS ro vs) s.xs []) postL ex) ex := wq_bnd
@[simp] theorem wq_comp2_nil {all : List Da} {t : Tg} {p : Sl → Mo Bool} {s1 : Sl → Mo Src} {t1 : Tg} {p1 : Sl → Mo Bool} {e : Sl → Mo Da} {vs1 : List Nat} {acc : List Da} {postL : List Da → Store → Prop} : Wq (compGo2 none all t p s1 t1 p1 e vs1 ro [] acc) st postL ex ↔ postL acc st := wq_iff
end
end CL
namespace CL
open PySem L2
section
variable {st : Store} {ro : Sl} {a : Sl → Mo Da} {postF : Fl → Store → Prop} {post : Da → Store → Prop} {postL : List Da → Store → Prop} {ex : Str → List Da → Store → Prop}
@[simp] theorem wq_mAug2 {i : Nat} {f : Da → Da → Mo Da} : Wq (mAug2 i f a ro) st postF ex ↔ Wq (eVar i ro) st (kb (fun x => bnd (a ro) fun y => bnd (f x y) fun z => ret (Fl.nx (ro.set i (some z)))) postF ex) ex := wq_bnd
theorem wq_fdivA {i j : Int} (h : CDiv i j) : Wq (fdivA (.int i) (.int j)) st post ex ↔ post (.int (i / j)) st := by unfold fdivA; dsimp only; rw [if_pos h]; exact wq_iff
theorem wq_catL_g {d e : Da} {xs ys : List Da} (h1 : lsOf st d = some xs) (h2 : lsOf st e = some ys) (h : xs.length + ys.length ≤ 1000000) : Wq (catL d e) st postL ex ↔ postL (xs ++ ys) st := by
  rw [wq_iff]
  unfold Wp catL
  rw [h1, h2]
  dsimp only
  have : xs.length + ys.length ≤ szD := h
  rw [if_pos this]
theorem lsOf_han {n : Nat} {xs : List Da} (h : st[n]? = some (.lst xs)) : lsOf st (.han n) = some xs := by unfold lsOf; dsimp only; rw [h]
theorem wq_extG {n : Nat} {e : Da} {xs ys : List Da} (h : st[n]? = some (.lst xs)) (h2 : lsOf st e = some ys) (hl : xs.length + ys.length ≤ 1000000) : Wq (extD (.han n) e) st post ex ↔ post (.han n) (st.set n (.lst (xs ++ ys))) := by
  rw [wq_iff]
  unfold Wp extD
  rw [h2]
  dsimp only
  rw [h]
  dsimp only
  have : xs.length + ys.length ≤ szD := hl
  rw [if_pos this]
end
end CL
namespace CL
open PySem L2
inductive Sg where
  | add | sub | mul | div
  deriving DecidableEq
def Sg.str : Sg → String
  | .add => "+"
  | .sub => "-"
  | .mul => "*"
  | .div => "/"
inductive Ex where
  | num (n : Int) | box (k : Nat) | op (s : Sg) (a b : Ex)
mutual
inductive Rw where
  | set (b : Nat) (e : Ex) | out (e : Ex) | thr (k : Nat) (e : Ex) | call (b g : Nat) (es : List Ex) | ifs (e : Ex) (a b : Bd) | loop (n : Nat) (a : Bd) | brk | ret (e : Ex) | tri (a : Bd) (hs : Hs) (l : Lo)
inductive Bd where
  | nil | cons (r : Rw) (b : Bd)
inductive Hs where
  | nil | cons (k : Option Nat) (b : Nat) (a : Bd) (h : Hs)
inductive Lo where
  | non | som (a : Bd)
end
def onD : Option Nat → Da
  | none => .non
  | some k => .int k
/-- a function: how many parameters, its body -/
abbrev Fn := Nat × Bd
abbrev Pg := List Fn
def Bd.len : Bd → Nat
  | .nil => 0
  | .cons _ b => b.len + 1
def Hs.len : Hs → Nat
  | .nil => 0
  | .cons _ _ _ h => h.len + 1
inductive Ed where
  | on | brk | ret (v : Int) | thr (k : Nat) (v : Int)
  deriving DecidableEq
def Ed.da : Ed → Da
  | .on => .tup [.str "on"]
  | .brk => .tup [.str "break"]
  | .ret v => .tup [.str "return", .int v]
  | .thr k v => .tup [.str "throw", .int k, .int v]
@[simp] theorem ed_on : Ed.da .on = .tup [.str "on"] := rfl
@[simp] theorem ed_brk : Ed.da .brk = .tup [.str "break"] := rfl
@[simp] theorem ed_ret {v : Int} : Ed.da (.ret v) = .tup [.str "return", .int v] := rfl
@[simp] theorem ed_thr {k : Nat} {v : Int} : Ed.da (.thr k v) = .tup [.str "throw", .int k, .int v] := rfl
inductive Vl where
  | ok (v : Int) | flt (v : Int)
def Vl.da : Vl → Da
  | .ok v => .tup [.str "on", .int v]
  | .flt v => .tup [.str "throw", .int 0, .int v]
@[simp] theorem vl_ok {v : Int} : Vl.da (.ok v) = .tup [.str "on", .int v] := rfl
@[simp] theorem vl_flt {v : Int} : Vl.da (.flt v) = .tup [.str "throw", .int 0, .int v] := rfl
def rk : Sg → Int → Int → Option Int
  | .add, a, b => some ((a + b) % 1000)
  | .sub, a, b => some ((a - b) % 1000)
  | .mul, a, b => some (a * b % 1000)
  | .div, a, b => if b = 0 then none else some (a / b)
def Ex.ev (bx : List Int) : Ex → Vl
  | .num n => .ok n
  | .box k => .ok (bx.getD k 0)
  | .op s a b => match a.ev bx with
    | .flt v => .flt v
    | .ok x => match b.ev bx with
      | .flt v => .flt v
      | .ok y => match rk s x y with
        | some z => .ok z
        | none => .flt x
/-- expressions one behind another: their numbers, or the first fault -/
def evs (bx : List Int) : List Ex → List Int × Option Int
  | [] => ([], none)
  | e :: es => match e.ev bx with
    | .flt v => ([], some v)
    | .ok x => ((x :: (evs bx es).1), (evs bx es).2)
structure Sx where
  bx : List Int
  told : List Int
  cnt : Nat
abbrev Cl := Nat → List Int → List Int → Nat → Ed × List Int × Nat
def loopN (f : Sx → Ed × Sx) : Nat → Sx → Ed × Sx
  | 0, s => (.on, s)
  | n + 1, s => match f s with
    | (.on, s') => loopN f n s'
    | (.brk, s') => (.on, s')
    | (e, s') => (e, s')
mutual
def Rw.ev (cal : Cl) : Rw → Sx → Ed × Sx
  | .set b e, s => match e.ev s.bx with
    | .ok v => (.on, ⟨s.bx.set b v, s.told, s.cnt⟩)
    | .flt v => (.thr 0 v, s)
  | .out e, s => match e.ev s.bx with
    | .ok v => (.on, ⟨s.bx, s.told ++ [v], s.cnt⟩)
    | .flt v => (.thr 0 v, s)
  | .thr k e, s => match e.ev s.bx with
    | .ok v => (.thr k v, s)
    | .flt v => (.thr 0 v, s)
  | .call b g es, s => match (evs s.bx es).2 with
    | some v => (.thr 0 v, s)
    | none => match cal g (evs s.bx es).1 s.told s.cnt with
      | (.ret v, t, c) => (.on, ⟨s.bx.set b v, t, c⟩)
      | (e, t, c) => (e, ⟨s.bx, t, c⟩)
  | .ifs e a b, s => match e.ev s.bx with
    | .ok v => if v ≠ 0 then a.ev cal s else b.ev cal s
    | .flt v => (.thr 0 v, s)
  | .loop n a, s => loopN (fun s => a.ev cal s) n s
  | .brk, s => (.brk, s)
  | .ret e, s => match e.ev s.bx with
    | .ok v => (.ret v, s)
    | .flt v => (.thr 0 v, s)
  | .tri a hs l, s => l.ev cal (hs.ev cal (a.ev cal s))
def Bd.ev (cal : Cl) : Bd → Sx → Ed × Sx
  | .nil, s => (.on, s)
  | .cons r b, s => match r.ev cal ⟨s.bx, s.told, s.cnt + 1⟩ with
    | (.on, s') => b.ev cal s'
    | (e, s') => (e, s')
def Hs.ev (cal : Cl) : Hs → Ed × Sx → Ed × Sx
  | .nil, x => x
  | .cons k b a h, x => match x.1 with
    | .thr j v => if k = none ∨ k = some j then a.ev cal ⟨x.2.bx.set b v, x.2.told, x.2.cnt⟩ else h.ev cal x
    | _ => x
def Lo.ev (cal : Cl) : Lo → Ed × Sx → Ed × Sx
  | .non, x => x
  | .som a, x => match a.ev cal x.2 with
    | (.on, s') => (x.1, s')
    | (e, s') => (e, s')
end
/-- from s to s': more told (no more than counted, and j), more counted, as many boxes -/
structure Le (j : Nat) (s s' : Sx) : Prop where
  cnt : s.cnt ≤ s'.cnt
  told : ∃ x, s'.told = s.told ++ x ∧ x.length ≤ s'.cnt - s.cnt + j
  len : s'.bx.length = s.bx.length
theorem Le.refl (s : Sx) : Le 0 s s := ⟨Nat.le_refl _, ⟨[], by simp⟩, rfl⟩
theorem Le.more {i j : Nat} {a b : Sx} (x : Le i a b) (h : i ≤ j) : Le j a b := by
  obtain ⟨t1, e1, l1⟩ := x.told
  exact ⟨x.cnt, ⟨t1, e1, by omega⟩, x.len⟩
theorem Le.trans {i j : Nat} {a b c : Sx} (x : Le i a b) (y : Le j b c) : Le (i + j) a c := by
  obtain ⟨t1, e1, l1⟩ := x.told
  obtain ⟨t2, e2, l2⟩ := y.told
  have h1 := x.cnt
  have h2 := y.cnt
  exact ⟨by omega, ⟨t1 ++ t2, by rw [e2, e1, List.append_assoc], by rw [List.length_append]; omega⟩, y.len.trans x.len⟩
theorem Le.box {j : Nat} {a b : Sx} {k : Nat} {v : Int} (x : Le j a b) : Le j a ⟨b.bx.set k v, b.told, b.cnt⟩ := ⟨x.cnt, x.told, by simpa using x.len⟩
def ClLe (cal : Cl) : Prop := ∀ g a t c, c ≤ (cal g a t c).2.2 ∧ ∃ x, (cal g a t c).2.1 = t ++ x ∧ x.length ≤ (cal g a t c).2.2 - c
theorem loopN_le {f : Sx → Ed × Sx} (h : ∀ s, Le 0 s (f s).2) : ∀ (n : Nat) (s : Sx), Le 0 s (loopN f n s).2
  | 0, s => Le.refl s
  | n + 1, s => by
    unfold loopN
    have h1 := h s
    split
    · rename_i s' e; rw [e] at h1; exact h1.trans (loopN_le h n s')
    · rename_i s' e; rw [e] at h1; exact h1
    · rename_i e' s' _ _ e; rw [e] at h1; exact h1
mutual
theorem Rw.le {cal : Cl} (hc : ClLe cal) : ∀ (r : Rw) (s : Sx), Le 1 s (r.ev cal s).2
  | .set b e, s => by
    unfold Rw.ev
    split
    · exact ((Le.refl s).more (by omega)).box
    · exact (Le.refl s).more (by omega)
  | .out e, s => by
    unfold Rw.ev
    split
    · exact ⟨Nat.le_refl _, ⟨[_], rfl, by simp⟩, rfl⟩
    · exact (Le.refl s).more (by omega)
  | .thr k e, s => by unfold Rw.ev; split <;> exact (Le.refl s).more (by omega)
  | .call b g es, s => by
    unfold Rw.ev
    split
    · exact (Le.refl s).more (by omega)
    · have h := hc g (evs s.bx es).1 s.told s.cnt
      split
      · rename_i v t c e
        rw [e] at h
        obtain ⟨h1, x, h2, h3⟩ := h
        exact ⟨h1, ⟨x, h2, by simp at h3 ⊢; omega⟩, by simp⟩
      · rename_i e' t c _ e
        rw [e] at h
        obtain ⟨h1, x, h2, h3⟩ := h
        exact ⟨h1, ⟨x, h2, by simp at h3 ⊢; omega⟩, rfl⟩
  | .ifs e a b, s => by
    unfold Rw.ev
    split
    · split
      · exact (Bd.le hc a s).more (by omega)
      · exact (Bd.le hc b s).more (by omega)
    · exact (Le.refl s).more (by omega)
  | .loop n a, s => by unfold Rw.ev; exact (loopN_le (fun s => Bd.le hc a s) n s).more (by omega)
  | .brk, s => by unfold Rw.ev; exact (Le.refl s).more (by omega)
  | .ret e, s => by unfold Rw.ev; split <;> exact (Le.refl s).more (by omega)
  | .tri a hs l, s => by
    unfold Rw.ev
    exact (((Bd.le hc a s).trans (Hs.le hc hs (a.ev cal s))).trans (Lo.le hc l (hs.ev cal (a.ev cal s)))).more (by omega)
theorem Bd.le {cal : Cl} (hc : ClLe cal) : ∀ (r : Bd) (s : Sx), Le 0 s (r.ev cal s).2
  | .nil, s => by unfold Bd.ev; exact Le.refl s
  | .cons r b, s => by
    unfold Bd.ev
    have h := Rw.le hc r ⟨s.bx, s.told, s.cnt + 1⟩
    have h' : Le 0 s (r.ev cal ⟨s.bx, s.told, s.cnt + 1⟩).2 := by
      obtain ⟨x, h1, h2⟩ := h.told
      have := h.cnt
      exact ⟨by simp at this; omega, ⟨x, h1, by simp at h2 this ⊢; omega⟩, h.len⟩
    split
    · rename_i s' e
      rw [e] at h'
      exact h'.trans (Bd.le hc b s')
    · rename_i e' s' _ e
      rw [e] at h'
      exact h'
theorem Hs.le {cal : Cl} (hc : ClLe cal) : ∀ (h : Hs) (x : Ed × Sx), Le 0 x.2 (h.ev cal x).2
  | .nil, x => by unfold Hs.ev; exact Le.refl _
  | .cons k b a h, x => by
    unfold Hs.ev
    split
    · split
      · exact ((Le.refl x.2).box (k := b)).trans (Bd.le hc a _)
      · exact Hs.le hc h x
    · exact Le.refl _
theorem Lo.le {cal : Cl} (hc : ClLe cal) : ∀ (l : Lo) (x : Ed × Sx), Le 0 x.2 (l.ev cal x).2
  | .non, x => by unfold Lo.ev; exact Le.refl _
  | .som a, x => by
    unfold Lo.ev
    have h := Bd.le hc a x.2
    split
    · rename_i s' e; rw [e] at h; exact h
    · rename_i e' s' _ e; rw [e] at h; exact h
end
end CL
namespace CL
open PySem L2
abbrev Rg (v : Int) : Prop := 0 ≤ v ∧ v ≤ 999
def Ex.ok : Nat → Ex → Prop
  | d, .num n => d ≤ 6 ∧ Rg n
  | d, .box k => d ≤ 6 ∧ k < 8
  | d, .op _ a b => d ≤ 6 ∧ a.ok (d + 1) ∧ b.ok (d + 1)
mutual
def Rw.ok (ix : Nat) (many : List Nat) : Nat → Bool → Rw → Prop
  | _, _, .set b e => b < 8 ∧ e.ok 0
  | _, _, .out e => e.ok 0
  | _, _, .thr k e => (1 ≤ k ∧ k ≤ 4) ∧ e.ok 0
  | _, _, .call b g es => b < 8 ∧ ix < g ∧ many[g]? = some es.length ∧ ∀ e ∈ es, e.ok 0
  | d, lp, .ifs e a b => e.ok 0 ∧ (d + 1 ≤ 6 ∧ a.len ≤ 8 ∧ a.rows ix many (d + 1) lp) ∧ (b.len ≤ 8 ∧ b.rows ix many (d + 1) lp)
  | d, _, .loop n a => (1 ≤ n ∧ n ≤ 4) ∧ d + 1 ≤ 6 ∧ a.len ≤ 8 ∧ a.rows ix many (d + 1) true
  | _, lp, .brk => lp = true
  | _, _, .ret e => e.ok 0
  | d, lp, .tri a hs l => (d + 1 ≤ 6 ∧ a.len ≤ 8 ∧ a.rows ix many (d + 1) lp) ∧ (hs.len ≤ 4 ∧ hs.ok ix many (d + 1) lp) ∧ l.ok ix many (d + 1) lp
def Bd.rows (ix : Nat) (many : List Nat) : Nat → Bool → Bd → Prop
  | _, _, .nil => True
  | d, lp, .cons r b => r.ok ix many d lp ∧ b.rows ix many d lp
def Hs.ok (ix : Nat) (many : List Nat) : Nat → Bool → Hs → Prop
  | _, _, .nil => True
  | d, lp, .cons k b a h => (∀ j, k = some j → j < 5) ∧ b < 8 ∧ (a.len ≤ 8 ∧ a.rows ix many d lp) ∧ h.ok ix many d lp
def Lo.ok (ix : Nat) (many : List Nat) : Nat → Bool → Lo → Prop
  | _, _, .non => True
  | d, lp, .som a => a.len ≤ 8 ∧ a.rows ix many d lp
end
structure Bd.ok (ix : Nat) (many : List Nat) (d : Nat) (lp : Bool) (b : Bd) : Prop where
  dp : d ≤ 6
  len : b.len ≤ 8
  rows : b.rows ix many d lp
structure Pg.ok (P : Pg) : Prop where
  l1 : 1 ≤ P.length
  l5 : P.length ≤ 5
  par : ∀ f ∈ P, f.1 ≤ 3
  fst : ∀ f, P[0]? = some f → f.1 = 0
  bod : ∀ (k : Nat) (f : Fn), P[k]? = some f → f.2.ok k (P.map (·.1)) 0 false
structure Sx.ok (s : Sx) : Prop where
  len : s.bx.length = 8
  rg : ∀ v ∈ s.bx, Rg v
def Vl.fine : Vl → Prop
  | .ok v => Rg v
  | .flt v => Rg v
def Ed.ok (lp : Bool) : Ed → Prop
  | .on => True
  | .brk => lp = true
  | .ret v => Rg v
  | .thr k v => k < 5 ∧ Rg v
theorem rk_rg {s : Sg} {a b z : Int} (ha : Rg a) (hb : Rg b) (h : rk s a b = some z) : Rg z := by
  cases s with
  | add => simp [rk] at h; constructor <;> omega
  | sub => simp [rk] at h; constructor <;> omega
  | mul => simp [rk] at h; constructor <;> omega
  | div =>
    have h' : (if b = 0 then none else some (a / b)) = some z := h
    split at h'
    · cases h'
    · cases h'
      exact ⟨Int.ediv_nonneg ha.1 hb.1, Int.le_trans (Int.ediv_le_self _ ha.1) ha.2⟩
theorem getD_rg {bx : List Int} {k : Nat} (hk : k < bx.length) (h : ∀ v ∈ bx, Rg v) : Rg (bx.getD k 0) := by
  rw [List.getD_eq_getElem?_getD, List.getElem?_eq_getElem hk]
  exact h _ (List.getElem_mem hk)
theorem Ex.ev_ok {bx : List Int} (hl : bx.length = 8) (hb : ∀ v ∈ bx, Rg v) : ∀ (e : Ex) (d : Nat), e.ok d → (e.ev bx).fine
  | .num n, d, h => h.2
  | .box k, d, h => getD_rg (by have := h.2; omega) hb
  | .op s a b, d, h => by
    have h1 := Ex.ev_ok hl hb a (d + 1) h.2.1
    have h2 := Ex.ev_ok hl hb b (d + 1) h.2.2
    unfold Ex.ev
    split
    · rename_i v e; rw [e] at h1; exact h1
    · rename_i x e
      rw [e] at h1
      split
      · rename_i v e2; rw [e2] at h2; exact h2
      · rename_i y e2
        rw [e2] at h2
        split
        · rename_i z e3; exact rk_rg h1 h2 e3
        · exact h1
theorem evs_ok {bx : List Int} (hl : bx.length = 8) (hb : ∀ v ∈ bx, Rg v) : ∀ (es : List Ex), (∀ e ∈ es, e.ok 0) → (∀ v ∈ (evs bx es).1, Rg v) ∧ (∀ v, (evs bx es).2 = some v → Rg v) ∧ ((evs bx es).2 = none → (evs bx es).1.length = es.length)
  | [], _ => ⟨by simp [evs], by simp [evs], by simp [evs]⟩
  | e :: es, h => by
    have h1 := Ex.ev_ok hl hb e 0 (h e (by simp))
    obtain ⟨h2, h3, h4⟩ := evs_ok hl hb es fun x hx => h x (List.mem_cons_of_mem _ hx)
    unfold evs
    split
    · rename_i v q
      rw [q] at h1
      exact ⟨by simp, fun z hz => by cases hz; exact h1, by simp⟩
    · rename_i x q
      rw [q] at h1
      refine ⟨fun z hz => ?_, h3, fun hz => by simp [h4 hz]⟩
      rcases List.mem_cons.mp hz with rfl | hz
      · exact h1
      · exact h2 z hz
theorem Sx.ok.set {s : Sx} {b : Nat} {v : Int} {t : List Int} {c : Nat} (h : s.ok) (hv : Rg v) : Sx.ok ⟨s.bx.set b v, t, c⟩ :=
  ⟨by simpa using h.len, fun z hz => by
    rcases List.mem_or_eq_of_mem_set hz with hz | rfl
    · exact h.rg z hz
    · exact hv⟩
theorem Sx.ok.same {s : Sx} {t : List Int} {c : Nat} (h : s.ok) : Sx.ok ⟨s.bx, t, c⟩ := ⟨h.len, h.rg⟩
/-- calls of functions beyond ix that have as many parameters as told -/
def ClOk (ix : Nat) (many : List Nat) (cal : Cl) : Prop := ∀ g a t c, ix < g → many[g]? = some a.length → (∀ v ∈ a, Rg v) → Ed.ok false (cal g a t c).1 ∧ (cal g a t c).1 ≠ .on
theorem loopN_ok {f : Sx → Ed × Sx} {lp : Bool} (h : ∀ s, s.ok → Ed.ok true (f s).1 ∧ (f s).2.ok) : ∀ (n : Nat) (s : Sx), s.ok → Ed.ok lp (loopN f n s).1 ∧ (loopN f n s).2.ok
  | 0, s, hs => ⟨trivial, hs⟩
  | n + 1, s, hs => by
    unfold loopN
    have h1 := h s hs
    split
    · rename_i s' e; rw [e] at h1; exact loopN_ok h n s' h1.2
    · rename_i s' e; rw [e] at h1; exact ⟨trivial, h1.2⟩
    · rename_i e' s' n1 n2 e
      rw [e] at h1
      refine ⟨?_, h1.2⟩
      cases e' with
      | on => trivial
      | brk => exact absurd rfl n2
      | ret v => exact h1.1
      | thr k v => exact h1.1
mutual
theorem Rw.ev_ok {ix : Nat} {many : List Nat} {cal : Cl} (hc : ClOk ix many cal) : ∀ (r : Rw) (d : Nat) (lp : Bool) (s : Sx), r.ok ix many d lp → s.ok → Ed.ok lp (r.ev cal s).1 ∧ (r.ev cal s).2.ok
  | .set b e, d, lp, s, h, hs => by
    have h1 := Ex.ev_ok hs.len hs.rg e 0 h.2
    unfold Rw.ev
    split
    · rename_i v q; rw [q] at h1; exact ⟨trivial, hs.set h1⟩
    · rename_i v q; rw [q] at h1; exact ⟨⟨by decide, h1⟩, hs⟩
  | .out e, d, lp, s, h, hs => by
    have h1 := Ex.ev_ok hs.len hs.rg e 0 h
    unfold Rw.ev
    split
    · exact ⟨trivial, hs.same⟩
    · rename_i v q; rw [q] at h1; exact ⟨⟨by decide, h1⟩, hs⟩
  | .thr k e, d, lp, s, h, hs => by
    have h1 := Ex.ev_ok hs.len hs.rg e 0 h.2
    unfold Rw.ev
    split
    · rename_i v q; rw [q] at h1; exact ⟨⟨by have := h.1; omega, h1⟩, hs⟩
    · rename_i v q; rw [q] at h1; exact ⟨⟨by decide, h1⟩, hs⟩
  | .call b g es, d, lp, s, h, hs => by
    obtain ⟨h1, h2, h3, h4⟩ := h
    obtain ⟨k1, k2, k3⟩ := evs_ok hs.len hs.rg es h4
    unfold Rw.ev
    split
    · rename_i v q; exact ⟨⟨by decide, k2 v q⟩, hs⟩
    · rename_i q
      have hh := hc g (evs s.bx es).1 s.told s.cnt h2 (by rw [k3 q]; exact h3) k1
      split
      · rename_i v t c e
        rw [e] at hh
        exact ⟨trivial, hs.set hh.1⟩
      · rename_i e' t c _ e
        rw [e] at hh
        refine ⟨?_, hs.same⟩
        cases e' with
        | on => trivial
        | brk => exact nomatch hh.1
        | ret v => exact hh.1
        | thr k v => exact hh.1
  | .ifs e a b, d, lp, s, h, hs => by
    have h1 := Ex.ev_ok hs.len hs.rg e 0 h.1
    unfold Rw.ev
    split
    · split
      · exact Bd.ev_ok hc a (d + 1) lp s h.2.1.2.2 hs
      · exact Bd.ev_ok hc b (d + 1) lp s h.2.2.2 hs
    · rename_i v q; rw [q] at h1; exact ⟨⟨by decide, h1⟩, hs⟩
  | .loop n a, d, lp, s, h, hs => by
    unfold Rw.ev
    exact loopN_ok (fun s hs => Bd.ev_ok hc a (d + 1) true s h.2.2.2 hs) n s hs
  | .brk, d, lp, s, h, hs => by unfold Rw.ev; exact ⟨h, hs⟩
  | .ret e, d, lp, s, h, hs => by
    have h1 := Ex.ev_ok hs.len hs.rg e 0 h
    unfold Rw.ev
    split
    · rename_i v q; rw [q] at h1; exact ⟨h1, hs⟩
    · rename_i v q; rw [q] at h1; exact ⟨⟨by decide, h1⟩, hs⟩
  | .tri a hs l, d, lp, s, h, hs' => by
    unfold Rw.ev
    have h1 := Bd.ev_ok hc a (d + 1) lp s h.1.2.2 hs'
    have h2 := Hs.ev_ok hc hs (d + 1) lp _ h.2.1.2 h1.1 h1.2
    exact Lo.ev_ok hc l (d + 1) lp _ h.2.2 h2.1 h2.2
theorem Bd.ev_ok {ix : Nat} {many : List Nat} {cal : Cl} (hc : ClOk ix many cal) : ∀ (r : Bd) (d : Nat) (lp : Bool) (s : Sx), r.rows ix many d lp → s.ok → Ed.ok lp (r.ev cal s).1 ∧ (r.ev cal s).2.ok
  | .nil, d, lp, s, h, hs => by unfold Bd.ev; exact ⟨trivial, hs⟩
  | .cons r b, d, lp, s, h, hs => by
    unfold Bd.ev
    have h1 := Rw.ev_ok hc r d lp ⟨s.bx, s.told, s.cnt + 1⟩ h.1 hs.same
    split
    · rename_i s' e; rw [e] at h1; exact Bd.ev_ok hc b d lp s' h.2 h1.2
    · rename_i e' s' _ e; rw [e] at h1; exact h1
theorem Hs.ev_ok {ix : Nat} {many : List Nat} {cal : Cl} (hc : ClOk ix many cal) : ∀ (r : Hs) (d : Nat) (lp : Bool) (x : Ed × Sx), r.ok ix many d lp → Ed.ok lp x.1 → x.2.ok → Ed.ok lp (r.ev cal x).1 ∧ (r.ev cal x).2.ok
  | .nil, d, lp, x, h, h1, h2 => by unfold Hs.ev; exact ⟨h1, h2⟩
  | .cons k b a h, d, lp, x, hh, h1, h2 => by
    unfold Hs.ev
    split
    · rename_i j v e
      split
      · rw [e] at h1
        exact Bd.ev_ok hc a d lp _ hh.2.2.1.2 (h2.set h1.2)
      · exact Hs.ev_ok hc h d lp x hh.2.2.2 h1 h2
    · exact ⟨h1, h2⟩
theorem Lo.ev_ok {ix : Nat} {many : List Nat} {cal : Cl} (hc : ClOk ix many cal) : ∀ (r : Lo) (d : Nat) (lp : Bool) (x : Ed × Sx), r.ok ix many d lp → Ed.ok lp x.1 → x.2.ok → Ed.ok lp (r.ev cal x).1 ∧ (r.ev cal x).2.ok
  | .non, d, lp, x, h, h1, h2 => by unfold Lo.ev; exact ⟨h1, h2⟩
  | .som a, d, lp, x, h, h1, h2 => by
    unfold Lo.ev
    have h3 := Bd.ev_ok hc a d lp x.2 h.2 h2
    split
    · rename_i s' e; rw [e] at h3; exact ⟨h1, h3.2⟩
    · rename_i e' s' _ e; rw [e] at h3; exact h3
end
mutual
def Rw.nd (c : Nat) : Rw → Nat
  | .call _ _ _ => c + 2
  | .ifs _ a b => max (a.nd c) (b.nd c) + 1
  | .loop _ a => a.nd c + 2
  | .tri a hs l => max (a.nd c) (max (hs.nd c) (l.nd c)) + 2
  | _ => 1
def Bd.nd (c : Nat) : Bd → Nat
  | .nil => 1
  | .cons r b => max (r.nd c + 1) (b.nd c)
def Hs.nd (c : Nat) : Hs → Nat
  | .nil => 1
  | .cons _ _ a h => max (a.nd c) (h.nd c)
def Lo.nd (c : Nat) : Lo → Nat
  | .non => 1
  | .som a => a.nd c
end
/-- what k functions, called one by another, need -/
def Pg.nd (P : Pg) : Nat → Nat
  | 0 => 0
  | k + 1 => (P.map fun f => f.2.nd (P.nd k)).foldr max 0 + 1
end CL
namespace CL
open PySem L2
abbrev Ct := Option Nat × Nat × Bool
inductive Ins where
  | push (v : Int) | load (b : Nat) | sign (s : Sg) | store (b : Nat) | out | throw (k : Nat) | call (g n : Nat) | ret | jump (l : Nat) | unless (l : Nat) | count (b : Nat) | keep (b k : Nat) | rethrow (b k : Nat)
def Ins.chg : Ins → Int
  | .push _ => 1
  | .load _ => 1
  | .call _ n => 1 - n
  | .store _ => -1
  | .sign _ => -1
  | .out => -1
  | .unless _ => -1
  | .keep _ _ => -1
  | .throw _ => -1
  | .ret => -1
  | _ => 0
structure Rc where
  ins : Ins
  ch : List Ct
  path : List Nat
  tall : Int
structure Blk where
  lab : Nat
  cold : Bool
  goal : Nat
  rows : List Rc
/-- the maker: blocks that are done, the one that is begun, labels and boxes that are free, the height -/
structure Ms where
  pre : List Blk
  cur : Blk
  lab : Nat
  spare : Nat
  tall : Int
def Ms.bs (s : Ms) : List Blk := s.pre ++ [s.cur]
def Ms.put (s : Ms) (ch : List Ct) (p : List Nat) (i : Ins) : Ms := ⟨s.pre, ⟨s.cur.lab, s.cur.cold, s.cur.goal, s.cur.rows ++ [⟨i, ch, p, s.tall⟩]⟩, s.lab, s.spare, s.tall + i.chg⟩
def Ms.beg (s : Ms) (l : Nat) (c : Bool) (t : Int) : Ms := ⟨s.pre ++ [s.cur], ⟨l, c, s.cur.goal, []⟩, s.lab, s.spare, t⟩
/-- a block with a new label -/
def Ms.begN (s : Ms) : Ms := ⟨s.pre ++ [s.cur], ⟨s.lab, s.cur.cold, s.cur.goal, []⟩, s.lab + 1, s.spare, 0⟩
def Ms.labs (s : Ms) (n : Nat) : Ms := ⟨s.pre, s.cur, s.lab + n, s.spare, s.tall⟩
def Ms.boxs (s : Ms) (n : Nat) : Ms := ⟨s.pre, s.cur, s.lab, s.spare + n, s.tall⟩
/-- what is left on the way out, the innermost first -/
inductive Lv where
  | loop (after : Nat) | fin (f : Ms → Ms)
def outA : List Lv → Ms → Ms
  | [], s => s
  | .fin f :: r, s => outA r (f s)
  | .loop _ :: r, s => outA r s
def outL : List Lv → Ms → Nat × Ms
  | [], s => (0, s)
  | .fin f :: r, s => outL r (f s)
  | .loop a :: _, s => (a, s)
def Ex.cm (ch : List Ct) (p : List Nat) : Ex → Ms → Ms
  | .num n, s => s.put ch p (.push n)
  | .box k, s => s.put ch p (.load k)
  | .op sg a b, s => (b.cm ch p (a.cm ch p s)).put ch p (.sign sg)
def cms (ch : List Ct) (p : List Nat) : List Ex → Ms → Ms
  | [], s => s
  | e :: es, s => cms ch p es (e.cm ch p s)
/-- handlers' catchers, with labels from g on -/
def Hs.cts (g : Nat) : Hs → List Ct
  | .nil => []
  | .cons k _ _ h => (k, g, false) :: h.cts (g + 1)
def Lo.isS : Lo → Bool
  | .non => false
  | .som _ => true
mutual
def Rw.cm (ls : List Lv) (ch : List Ct) (p : List Nat) : Rw → Ms → Ms
  | .set b e, s => (e.cm ch p s).put ch p (.store b)
  | .out e, s => (e.cm ch p s).put ch p .out
  | .thr k e, s => (e.cm ch p s).put ch p (.throw k)
  | .call b g es, s => ((cms ch p es s).put ch p (.call g es.length)).put ch p (.store b)
  | .ret e, s => (((outA ls ((e.cm ch p (s.boxs 1)).put ch p (.store s.spare))).put ch p (.load s.spare)).put ch p .ret).begN
  | .brk, s => ((outL ls s).2.put ch p (.jump (outL ls s).1)).begN
  | .ifs e a b, s =>
    let t := (a.cm ls ch (p ++ [0]) 0 ((e.cm ch p (s.labs 2)).put ch p (.unless s.lab))).put ch p (.jump (s.lab + 1))
    let u := b.cm ls ch (p ++ [1]) 0 (t.beg s.lab t.cur.cold 0)
    u.beg (s.lab + 1) u.cur.cold 0
  | .loop n a, s =>
    let t := ((((s.boxs 1).labs 2).put ch p (.push n)).put ch p (.store s.spare)).beg s.lab s.cur.cold 0
    let u := a.cm (.loop (s.lab + 1) :: ls) ch (p ++ [0]) 0 t
    ((((u.put ch p (.count s.spare)).put ch p (.load s.spare)).put ch p (.unless (s.lab + 1))).put ch p (.jump s.lab)).beg (s.lab + 1) s.cur.cold 0
  | .tri a hs l, s =>
    let j := 1 + hs.len
    let c := if l.isS then 1 else 0
    let inner : List Ct := if l.isS then (none, s.lab + 1, true) :: ch else ch
    let fe : Ms → Ms := l.cm ls ch (p ++ [j])
    let ls' : List Lv := if l.isS then .fin fe :: ls else ls
    let t := (fe (a.cm ls' (hs.cts (s.lab + 1 + c) ++ inner) (p ++ [0]) 0 (s.labs (1 + c + hs.len)))).put inner p (.jump s.lab)
    let u := hs.cm ls' inner fe p s.lab (s.lab + 1 + c) 1 t
    (if l.isS then
      let v := (u.beg (s.lab + 1) true 1).boxs 2
      (fe (v.put ch p (.keep u.spare (u.spare + 1)))).put ch p (.rethrow u.spare (u.spare + 1))
    else u).beg s.lab s.cur.cold 0
def Bd.cm (ls : List Lv) (ch : List Ct) (p : List Nat) (k : Nat) : Bd → Ms → Ms
  | .nil, s => s
  | .cons r b, s => b.cm ls ch p (k + 1) (r.cm ls ch (p ++ [k]) s)
def Hs.cm (ls : List Lv) (ch : List Ct) (fe : Ms → Ms) (p : List Nat) (after g j : Nat) : Hs → Ms → Ms
  | .nil, s => s
  | .cons _ b a h, s => h.cm ls ch fe p after (g + 1) (j + 1) ((fe (a.cm ls ch (p ++ [j]) 0 ((s.beg g true 1).put ch p (.store b)))).put ch p (.jump after))
def Lo.cm (ls : List Lv) (ch : List Ct) (p : List Nat) : Lo → Ms → Ms
  | .non, s => s
  | .som a, s => a.cm ls ch p 0 s
end
/-- a function's blocks, behind those that are made -/
def fnCm (g : Nat) (b : Bd) (bs : List Blk) (lab spare : Nat) : Ms :=
  ((b.cm [] [] [g] 0 ⟨bs, ⟨lab, false, g, []⟩, lab + 1, spare, 0⟩).put [] [g] (.push 0)).put [] [g] .ret
/-- all functions: blocks, first labels, labels, boxes -/
structure Mk where
  bs : List Blk
  ent : List Nat
  lab : Nat
  spare : Nat
def pgCm : Nat → Pg → Mk → Mk
  | _, [], m => m
  | g, f :: r, m => let s := fnCm g f.2 m.bs m.lab m.spare; pgCm (g + 1) r ⟨s.bs, m.ent ++ [m.lab], s.lab, s.spare⟩
def Pg.cm (P : Pg) : Mk := pgCm 0 P ⟨[], [], 0, 8⟩
end CL
namespace CL
open PySem L2
structure Fr1 where
  k : Nat
  i : Nat
  bx : List Int
  st : List Int
  kd : Nat
structure M1 where
  fr : List Fr1
  told : List Int
  ev : List (List Nat)
  en : Option Ed
structure Cd1 where
  bs : List Blk
  ent : List Nat
def Cd1.row (F : Cd1) (k i : Nat) : Option Rc := match F.bs[k]? with
  | some b => b.rows[i]?
  | none => none
def Cd1.ix (F : Cd1) (l : Nat) : Nat := F.bs.findIdx fun b => b.lab == l
def fitC (k : Nat) (c : Ct) : Bool := c.1 == none || c.1 == some k
/-- what is thrown goes to the nearest that has its kind; functions on the way end -/
def thrw (F : Cd1) (k : Nat) (v : Int) (told : List Int) (ev : List (List Nat)) (ch : List Ct) (bx : List Int) : List Fr1 → M1
  | [] => match ch.find? (fitC k) with
    | some c => ⟨[⟨F.ix c.2.1, 0, bx, [v], k⟩], told, ev, none⟩
    | none => ⟨[], told, ev, some (.thr k v)⟩
  | f :: r => match ch.find? (fitC k) with
    | some c => ⟨⟨F.ix c.2.1, 0, bx, [v], k⟩ :: f :: r, told, ev, none⟩
    | none => thrw F k v told ev (match F.row f.k f.i with | some w => w.ch | none => []) f.bx r
def retd (v : Int) (told : List Int) (ev : List (List Nat)) : List Fr1 → M1
  | [] => ⟨[], told, ev, some (.ret v)⟩
  | f :: r => ⟨⟨f.k, f.i + 1, f.bx, v :: f.st, f.kd⟩ :: r, told, ev, none⟩
def exe (F : Cd1) (f : Fr1) (r : List Fr1) (told : List Int) (ev : List (List Nat)) (w : Rc) : Option M1 :=
  let nx (bx st : List Int) (told : List Int) : Option M1 := some ⟨⟨f.k, f.i + 1, bx, st, f.kd⟩ :: r, told, ev, none⟩
  match w.ins, f.st with
  | .push v, st => nx f.bx (v :: st) told
  | .load b, st => nx f.bx (f.bx.getD b 0 :: st) told
  | .sign s, y :: x :: st => match rk s x y with
    | some z => nx f.bx (z :: st) told
    | none => some (thrw F 0 x told (ev ++ [w.path]) w.ch f.bx r)
  | .store b, v :: st => nx (f.bx.set b v) st told
  | .out, v :: st => nx f.bx st (told ++ [v])
  | .throw k, v :: _ => some (thrw F k v told (ev ++ [w.path]) w.ch f.bx r)
  | .call g n, st => if n ≤ st.length then some ⟨⟨F.ix (F.ent.getD g 0), 0, (st.take n).reverse ++ List.replicate (f.bx.length - n) 0, [], 0⟩ :: ⟨f.k, f.i, f.bx, st.drop n, f.kd⟩ :: r, told, ev, none⟩ else none
  | .ret, v :: _ => some (retd v told ev r)
  | .jump l, st => some ⟨⟨F.ix l, 0, f.bx, st, f.kd⟩ :: r, told, ev, none⟩
  | .unless l, v :: st => if v = 0 then some ⟨⟨F.ix l, 0, f.bx, st, f.kd⟩ :: r, told, ev, none⟩ else nx f.bx st told
  | .count b, st => nx (f.bx.set b (f.bx.getD b 0 - 1)) st told
  | .keep b k, v :: st => nx ((f.bx.set b v).set k (f.kd : Int)) st told
  | .rethrow b k, _ => some (thrw F (f.bx.getD k 0).toNat (f.bx.getD b 0) told (ev ++ [w.path]) w.ch f.bx r)
  | _, _ => none
def st1 (F : Cd1) (σ : M1) : Option M1 := match σ.fr with
  | [] => none
  | f :: r => match F.row f.k f.i with
    | none => some ⟨⟨f.k + 1, 0, f.bx, f.st, f.kd⟩ :: r, σ.told, σ.ev, none⟩
    | some w => exe F f r σ.told σ.ev w
/-- a run of at most n steps; G holds ahead of each -/
inductive Rn (F : Cd1) (G : M1 → Prop) : Nat → M1 → M1 → Prop
  | nil {n : Nat} {σ : M1} : Rn F G n σ σ
  | cons {n : Nat} {σ τ υ : M1} : G σ → st1 F σ = some τ → Rn F G n τ υ → Rn F G (n + 1) σ υ
section
variable {F : Cd1} {G : M1 → Prop}
theorem Rn.mono {n m : Nat} {σ τ : M1} (h : Rn F G n σ τ) (hn : n ≤ m) : Rn F G m σ τ := by
  induction h generalizing m with
  | nil => exact .nil
  | cons g s h ih =>
    obtain ⟨m, rfl⟩ : ∃ j, m = j + 1 := ⟨m - 1, by omega⟩
    exact .cons g s (ih (by omega))
theorem Rn.trans {n m : Nat} {σ τ υ : M1} (h : Rn F G n σ τ) (h2 : Rn F G m τ υ) : Rn F G (n + m) σ υ := by
  induction h with
  | nil => exact h2.mono (by omega)
  | cons g s h ih => exact ((Rn.cons g s (ih h2)).mono (by omega))
theorem Rn.one {σ τ : M1} (g : G σ) (h : st1 F σ = some τ) : Rn F G 1 σ τ := .cons g h .nil
theorem Rn.le {n m : Nat} {σ τ υ : M1} (k : Nat) (h : Rn F G n σ τ) (h2 : Rn F G m τ υ) (e : n + m ≤ k) : Rn F G k σ υ := (h.trans h2).mono e
end
/-- blocks A, the last one begun, stand ahead in F -/
def Sub (A F : List Blk) : Prop := ∃ (pre : List Blk) (c c' : Blk) (rest : List Blk) (t : List Rc), A = pre ++ [c] ∧ F = pre ++ c' :: rest ∧ c'.lab = c.lab ∧ c'.cold = c.cold ∧ c'.goal = c.goal ∧ c'.rows = c.rows ++ t
theorem append_last {α : Type} {a b : List α} {x y : α} (h : a ++ [x] = b ++ [y]) : a = b ∧ x = y := by
  have := List.append_inj' h rfl
  exact ⟨this.1, by simpa using this.2⟩
theorem Sub.refl (s : Ms) : Sub s.bs s.bs := ⟨s.pre, s.cur, s.cur, [], [], rfl, rfl, rfl, rfl, rfl, by simp⟩
theorem Sub.trans {A B C : List Blk} (h : Sub A B) (h2 : Sub B C) : Sub A C := by
  obtain ⟨pre, c, c', rest, t, rfl, rfl, e1, e2, e3, e4⟩ := h
  obtain ⟨pre2, d, d', rest2, t2, hB, rfl, f1, f2, f3, f4⟩ := h2
  rcases List.eq_nil_or_concat rest with rfl | ⟨r', z, rfl⟩
  · obtain ⟨rfl, rfl⟩ := append_last (a := pre) hB
    exact ⟨pre, c, d', rest2, t ++ t2, rfl, rfl, f1.trans e1, f2.trans e2, f3.trans e3, by rw [f4, e4, List.append_assoc]⟩
  · have : (pre ++ c' :: r') ++ [z] = pre2 ++ [d] := by simpa using hB
    obtain ⟨rfl, rfl⟩ := append_last this
    exact ⟨pre, c, c', r' ++ d' :: rest2, t, rfl, by simp, e1, e2, e3, e4⟩
theorem Sub.put {s : Ms} {ch : List Ct} {p : List Nat} {i : Ins} : Sub s.bs (s.put ch p i).bs := ⟨s.pre, s.cur, _, [], _, rfl, rfl, rfl, rfl, rfl, rfl⟩
theorem Sub.beg {s : Ms} {l : Nat} {c : Bool} {t : Int} : Sub s.bs (s.beg l c t).bs := ⟨s.pre, s.cur, s.cur, [⟨l, c, s.cur.goal, []⟩], [], rfl, by simp [Ms.bs, Ms.beg], rfl, rfl, rfl, by simp⟩
theorem Sub.begN {s : Ms} : Sub s.bs s.begN.bs := ⟨s.pre, s.cur, s.cur, [⟨s.lab, s.cur.cold, s.cur.goal, []⟩], [], rfl, by simp [Ms.bs, Ms.begN], rfl, rfl, rfl, by simp⟩
/-- the row that was put stands there -/
theorem Sub.row {s : Ms} {ch : List Ct} {p : List Nat} {i : Ins} {F : Cd1} (h : Sub (s.put ch p i).bs F.bs) : F.row s.pre.length s.cur.rows.length = some ⟨i, ch, p, s.tall⟩ := by
  obtain ⟨pre, c, c', rest, t, e, e2, _, _, _, e3⟩ := h
  obtain ⟨rfl, rfl⟩ := append_last (a := s.pre) e
  unfold Cd1.row
  rw [e2]
  simp [e3, Ms.put]
/-- the block that is begun -/
theorem Sub.blk {s : Ms} {F : Cd1} (h : Sub s.bs F.bs) : ∃ b, F.bs[s.pre.length]? = some b ∧ b.lab = s.cur.lab ∧ b.cold = s.cur.cold ∧ b.goal = s.cur.goal := by
  obtain ⟨pre, c, c', rest, t, e, e2, h1, h2, h3, e3⟩ := h
  obtain ⟨rfl, rfl⟩ := append_last (a := s.pre) e
  exact ⟨c', by rw [e2]; simp, h1, h2, h3⟩
/-- a block that was ended by another has no more rows -/
theorem Sub.last {s : Ms} {F : Cd1} {l : Nat} {c : Bool} {t : Int} (h : Sub (s.beg l c t).bs F.bs) : F.row s.pre.length s.cur.rows.length = none := by
  obtain ⟨pre, c, c', rest, t, e, e2, _, _, _, e3⟩ := h
  obtain ⟨rfl, rfl⟩ := append_last (a := s.pre ++ [s.cur]) e
  unfold Cd1.row
  rw [e2]
  simp
theorem ix_of {F : Cd1} {k : Nat} {b : Blk} (nd : (F.bs.map (·.lab)).Nodup) (h : F.bs[k]? = some b) : F.ix b.lab = k := by
  unfold Cd1.ix
  obtain ⟨hk, e⟩ := List.getElem?_eq_some_iff.mp h
  rw [List.findIdx_eq (h := hk)]
  refine ⟨by simp [e], fun j hj => ?_⟩
  have hj' : j < F.bs.length := by omega
  by_cases z : F.bs[j].lab = b.lab
  · have nd' := List.nodup_iff_pairwise_ne.mp nd
    rw [List.pairwise_map] at nd'
    have := List.pairwise_iff_getElem.mp nd' j k hj' hk hj
    rw [e] at this
    exact absurd z this
  · simpa using z
end CL
namespace CL
open PySem L2
structure Sy where
  bx : List Int
  told : List Int
  cnt : Nat
  tr : List (List Nat)
def Sy.sx (s : Sy) : Sx := ⟨s.bx, s.told, s.cnt⟩
def Sy.set (s : Sy) (b : Nat) (v : Int) : Sy := ⟨s.bx.set b v, s.told, s.cnt, s.tr⟩
def Sy.hit (s : Sy) (p : List Nat) : Sy := ⟨s.bx, s.told, s.cnt, s.tr ++ [p]⟩
abbrev Cy := Nat → List Int → List Int → Nat → List (List Nat) → Ed × List Int × Nat × List (List Nat)
def loopT (f : Sy → Ed × Sy) : Nat → Sy → Ed × Sy
  | 0, s => (.on, s)
  | n + 1, s => match f s with
    | (.on, s') => loopT f n s'
    | (.brk, s') => (.on, s')
    | (e, s') => (e, s')
def isThr : Ed → Bool
  | .thr _ _ => true
  | _ => false
mutual
def Rw.et (cal : Cy) (p : List Nat) : Rw → Sy → Ed × Sy
  | .set b e, s => match e.ev s.bx with
    | .ok v => (.on, s.set b v)
    | .flt v => (.thr 0 v, s.hit p)
  | .out e, s => match e.ev s.bx with
    | .ok v => (.on, ⟨s.bx, s.told ++ [v], s.cnt, s.tr⟩)
    | .flt v => (.thr 0 v, s.hit p)
  | .thr k e, s => match e.ev s.bx with
    | .ok v => (.thr k v, s.hit p)
    | .flt v => (.thr 0 v, s.hit p)
  | .call b g es, s => match (evs s.bx es).2 with
    | some v => (.thr 0 v, s.hit p)
    | none => match cal g (evs s.bx es).1 s.told s.cnt s.tr with
      | (.ret v, t, c, u) => (.on, ⟨s.bx.set b v, t, c, u⟩)
      | (e, t, c, u) => (e, ⟨s.bx, t, c, u⟩)
  | .ifs e a b, s => match e.ev s.bx with
    | .ok v => if v ≠ 0 then a.et cal (p ++ [0]) 0 s else b.et cal (p ++ [1]) 0 s
    | .flt v => (.thr 0 v, s.hit p)
  | .loop n a, s => loopT (fun s => a.et cal (p ++ [0]) 0 s) n s
  | .brk, s => (.brk, s)
  | .ret e, s => match e.ev s.bx with
    | .ok v => (.ret v, s)
    | .flt v => (.thr 0 v, s.hit p)
  | .tri a hs l, s => l.et cal p (1 + hs.len) (hs.et cal p 1 (a.et cal (p ++ [0]) 0 s))
def Bd.et (cal : Cy) (p : List Nat) (k : Nat) : Bd → Sy → Ed × Sy
  | .nil, s => (.on, s)
  | .cons r b, s => match r.et cal (p ++ [k]) ⟨s.bx, s.told, s.cnt + 1, s.tr⟩ with
    | (.on, s') => b.et cal p (k + 1) s'
    | (e, s') => (e, s')
def Hs.et (cal : Cy) (p : List Nat) (j : Nat) : Hs → Ed × Sy → Ed × Sy
  | .nil, x => x
  | .cons k b a h, x => match x.1 with
    | .thr i v => if k = none ∨ k = some i then a.et cal (p ++ [j]) 0 (x.2.set b v) else h.et cal p (j + 1) x
    | _ => x
def Lo.et (cal : Cy) (p : List Nat) (j : Nat) : Lo → Ed × Sy → Ed × Sy
  | .non, x => x
  | .som a, x => match a.et cal (p ++ [j]) 0 x.2 with
    | (.on, s') => (x.1, if isThr x.1 then s'.hit p else s')
    | (e, s') => (e, s')
end
def CyCl (c : Cy) (d : Cl) : Prop := ∀ g a t n u, d g a t n = ((c g a t n u).1, (c g a t n u).2.1, (c g a t n u).2.2.1)
def dn (x : Ed × Sy) : Ed × Sx := (x.1, x.2.sx)
theorem loopT_ev {f : Sy → Ed × Sy} {g : Sx → Ed × Sx} (h : ∀ s, g s.sx = dn (f s)) : ∀ (n : Nat) (s : Sy), loopN g n s.sx = dn (loopT f n s)
  | 0, s => rfl
  | n + 1, s => by
    unfold loopN loopT
    rw [h s]
    generalize f s = r
    obtain ⟨e, s'⟩ := r
    cases e with
    | on => exact loopT_ev h n s'
    | brk => rfl
    | ret v => rfl
    | thr k v => rfl
mutual
theorem Rw.et_ev {c : Cy} {d : Cl} (h : CyCl c d) : ∀ (r : Rw) (p : List Nat) (s : Sy), r.ev d s.sx = dn (r.et c p s)
  | .set b e, p, s => by
    unfold Rw.ev Rw.et
    show (match e.ev s.bx with | .ok v => _ | .flt v => _) = _
    cases e.ev s.bx <;> rfl
  | .out e, p, s => by
    unfold Rw.ev Rw.et
    show (match e.ev s.bx with | .ok v => _ | .flt v => _) = _
    cases e.ev s.bx <;> rfl
  | .thr k e, p, s => by
    unfold Rw.ev Rw.et
    show (match e.ev s.bx with | .ok v => _ | .flt v => _) = _
    cases e.ev s.bx <;> rfl
  | .call b g es, p, s => by
    unfold Rw.ev Rw.et
    show (match (evs s.bx es).2 with | some v => _ | none => _) = _
    cases (evs s.bx es).2 with
    | some v => rfl
    | none =>
      show (match d g (evs s.bx es).1 s.told s.cnt with | (.ret v, t, c) => _ | (e, t, c) => _) = _
      rw [h g (evs s.bx es).1 s.told s.cnt s.tr]
      dsimp only
      generalize c g (evs s.bx es).1 s.told s.cnt s.tr = r
      obtain ⟨e, t, n, u⟩ := r
      cases e <;> rfl
  | .ifs e a b, p, s => by
    unfold Rw.ev Rw.et
    show (match e.ev s.bx with | .ok v => _ | .flt v => _) = _
    cases e.ev s.bx with
    | flt v => rfl
    | ok v =>
      dsimp only
      split
      · exact Bd.et_ev h a (p ++ [0]) 0 s
      · exact Bd.et_ev h b (p ++ [1]) 0 s
  | .loop n a, p, s => by
    unfold Rw.ev Rw.et
    exact loopT_ev (fun s => Bd.et_ev h a (p ++ [0]) 0 s) n s
  | .brk, p, s => by unfold Rw.ev Rw.et; rfl
  | .ret e, p, s => by
    unfold Rw.ev Rw.et
    show (match e.ev s.bx with | .ok v => _ | .flt v => _) = _
    cases e.ev s.bx <;> rfl
  | .tri a hs l, p, s => by
    unfold Rw.ev Rw.et
    rw [Bd.et_ev h a (p ++ [0]) 0 s, Hs.et_ev h hs p 1, Lo.et_ev h l p (1 + hs.len)]
theorem Bd.et_ev {c : Cy} {d : Cl} (h : CyCl c d) : ∀ (b : Bd) (p : List Nat) (k : Nat) (s : Sy), b.ev d s.sx = dn (b.et c p k s)
  | .nil, p, k, s => by unfold Bd.ev Bd.et; rfl
  | .cons r b, p, k, s => by
    unfold Bd.ev Bd.et
    show (match r.ev d (Sy.sx ⟨s.bx, s.told, s.cnt + 1, s.tr⟩) with | (.on, s') => b.ev d s' | (e, s') => (e, s')) = _
    rw [Rw.et_ev h r (p ++ [k])]
    generalize r.et c (p ++ [k]) ⟨s.bx, s.told, s.cnt + 1, s.tr⟩ = x
    obtain ⟨e, s'⟩ := x
    cases e with
    | on => exact Bd.et_ev h b p (k + 1) s'
    | brk => rfl
    | ret v => rfl
    | thr k v => rfl
theorem Hs.et_ev {c : Cy} {d : Cl} (h : CyCl c d) : ∀ (hs : Hs) (p : List Nat) (j : Nat) (x : Ed × Sy), hs.ev d (dn x) = dn (hs.et c p j x)
  | .nil, p, j, x => by unfold Hs.ev Hs.et; rfl
  | .cons k b a hs, p, j, x => by
    obtain ⟨e, s⟩ := x
    unfold Hs.ev Hs.et
    cases e with
    | on => rfl
    | brk => rfl
    | ret v => rfl
    | thr i v =>
      dsimp only [dn]
      split
      · exact Bd.et_ev h a (p ++ [j]) 0 (s.set b v)
      · exact Hs.et_ev h hs p (j + 1) (.thr i v, s)
theorem Lo.et_ev {c : Cy} {d : Cl} (h : CyCl c d) : ∀ (l : Lo) (p : List Nat) (j : Nat) (x : Ed × Sy), l.ev d (dn x) = dn (l.et c p j x)
  | .non, p, j, x => by unfold Lo.ev Lo.et; rfl
  | .som a, p, j, x => by
    obtain ⟨e, s⟩ := x
    unfold Lo.ev Lo.et
    show (match a.ev d s.sx with | (.on, s') => _ | (e, s') => _) = _
    rw [Bd.et_ev h a (p ++ [j]) 0 s]
    generalize a.et c (p ++ [j]) 0 s = r
    obtain ⟨e', s'⟩ := r
    cases e' with
    | on =>
      show (e, s'.sx) = dn (e, if isThr e = true then s'.hit p else s')
      cases e <;> rfl
    | brk => rfl
    | ret v => rfl
    | thr k v => rfl
end
end CL
namespace CL
open PySem L2
def Ex.sz : Ex → Nat
  | .num _ => 1
  | .box _ => 1
  | .op _ a b => a.sz + b.sz + 1
def szs : List Ex → Nat
  | [] => 0
  | e :: es => e.sz + szs es
mutual
def Rw.sm : Rw → Prop
  | .set _ e => e.sz ≤ 30
  | .out e => e.sz ≤ 30
  | .thr _ e => e.sz ≤ 30
  | .call _ _ es => szs es ≤ 60
  | .ifs e a b => e.sz ≤ 30 ∧ a.sm ∧ b.sm
  | .loop _ a => a.sm
  | .brk => True
  | .ret e => e.sz ≤ 30
  | .tri a hs l => a.sm ∧ hs.sm ∧ l.sm
def Bd.sm : Bd → Prop
  | .nil => True
  | .cons r b => r.sm ∧ b.sm
def Hs.sm : Hs → Prop
  | .nil => True
  | .cons _ _ a h => a.sm ∧ h.sm
def Lo.sm : Lo → Prop
  | .non => True
  | .som a => a.sm
end
end CL
namespace CL
open PySem L2
/-- what a row throws by itself -/
def thrOf (w : Rc) (f : Fr1) : Option (Nat × Int) := match w.ins, f.st with
  | .throw k, v :: _ => some (k, v)
  | .rethrow b k, _ => some ((f.bx.getD k 0).toNat, f.bx.getD b 0)
  | .sign s, y :: x :: _ => match rk s x y with
    | some _ => none
    | none => some (0, x)
  | _, _ => none
/-- what a sign takes -/
def SgOk : Ins → List Int → List Int → Prop
  | .sign _, _, st => (match st with
    | y :: x :: _ => Rg x ∧ Rg y
    | _ => True)
  | .rethrow _ k, bx, _ => 0 ≤ bx.getD k 0
  | _, _, _ => True
/-- functions below one of number g: each stands at its call -/
def RestOk (F : Cd1) (B g0 : Nat) : Nat → List Fr1 → Prop
  | g, [] => g = g0
  | g, f :: r => f.bx.length = B ∧ ∃ b w n, F.bs[f.k]? = some b ∧ b.rows[f.i]? = some w ∧ w.ins = .call g n ∧ RestOk F B g0 b.goal r
def Good (F : Cd1) (B g0 : Nat) (σ : M1) : Prop := ∃ f r b, σ.fr = f :: r ∧ σ.en = none ∧ F.bs[f.k]? = some b ∧ f.i ≤ b.rows.length ∧ (σ.ev = [] → b.cold = false) ∧ f.bx.length = B ∧ RestOk F B g0 b.goal r ∧
  (∀ w, b.rows[f.i]? = some w → (f.st.length : Int) = w.tall ∧ (∀ kv, thrOf w f = some kv → kv.1 < 5 ∧ Rg kv.2) ∧ SgOk w.ins f.bx f.st) ∧ (b.rows[f.i]? = none → f.st = [])
/-- at the end of what is made -/
def atS (s : Ms) (bx st : List Int) (kd : Nat) (r : List Fr1) (told : List Int) (ev : List (List Nat)) : M1 := ⟨⟨s.pre.length, s.cur.rows.length, bx, st, kd⟩ :: r, told, ev, none⟩
theorem atS_put {s : Ms} {ch : List Ct} {p : List Nat} {i : Ins} {bx st : List Int} {kd : Nat} {r : List Fr1} {told : List Int} {ev : List (List Nat)} :
    atS (s.put ch p i) bx st kd r told ev = ⟨⟨s.pre.length, s.cur.rows.length + 1, bx, st, kd⟩ :: r, told, ev, none⟩ := by simp [atS, Ms.put]
section
variable {F : Cd1} {B g0 : Nat}
theorem row_of {k i : Nat} {b : Blk} (h : F.bs[k]? = some b) : F.row k i = b.rows[i]? := by unfold Cd1.row; rw [h]
/-- a frame's state is good where its row stands -/
theorem good_row {s : Ms} {ch : List Ct} {p : List Nat} {i : Ins} {bx st : List Int} {kd : Nat} {r : List Fr1} {told : List Int} {ev : List (List Nat)} (h : Sub (s.put ch p i).bs F.bs) (hb : bx.length = B) (hr : RestOk F B g0 s.cur.goal r) (hc : ev = [] → s.cur.cold = false)
    (ht : (st.length : Int) = s.tall) (hv : ∀ kv, thrOf ⟨i, ch, p, s.tall⟩ ⟨s.pre.length, s.cur.rows.length, bx, st, kd⟩ = some kv → kv.1 < 5 ∧ Rg kv.2) (hg : SgOk i bx st := by trivial) : Good F B g0 (atS s bx st kd r told ev) := by
  have hrow := h.row
  obtain ⟨b, h1, h2, h3, h4⟩ := (Sub.put.trans h : Sub s.bs F.bs).blk
  rw [row_of h1] at hrow
  refine ⟨_, _, b, rfl, rfl, h1, ?_, fun z => by rw [h3]; exact hc z, hb, by rw [h4]; exact hr, fun w hw => ?_, fun hn => ?_⟩
  · have := (List.getElem?_eq_some_iff.mp hrow).1
    exact Nat.le_of_lt this
  · dsimp only at hw ⊢
    rw [hrow] at hw
    cases hw
    exact ⟨ht, hv, hg⟩
  · dsimp only at hn
    rw [hrow] at hn
    cases hn
theorem good_last {s : Ms} {l : Nat} {c : Bool} {t : Int} {bx : List Int} {kd : Nat} {r : List Fr1} {told : List Int} {ev : List (List Nat)} (h : Sub (s.beg l c t).bs F.bs) (hb : bx.length = B) (hr : RestOk F B g0 s.cur.goal r) (hc : ev = [] → s.cur.cold = false) : Good F B g0 (atS s bx [] kd r told ev) := by
  have hrow := h.last
  obtain ⟨pre, c, c', rest, t, e, e2, _, _, _, e3⟩ := h
  obtain ⟨rfl, rfl⟩ := append_last (a := s.pre ++ [s.cur]) e
  have h1 : F.bs[s.pre.length]? = some s.cur := by rw [e2]; simp
  rw [row_of h1] at hrow
  exact ⟨_, _, s.cur, rfl, rfl, h1, Nat.le_refl _, hc, hb, hr, fun w hw => (by dsimp only at hw; rw [hrow] at hw; cases hw), fun _ => rfl⟩
theorem st1_row {s : Ms} {ch : List Ct} {p : List Nat} {i : Ins} {bx st : List Int} {kd : Nat} {r : List Fr1} {told : List Int} {ev : List (List Nat)} (h : Sub (s.put ch p i).bs F.bs) :
    st1 F (atS s bx st kd r told ev) = exe F ⟨s.pre.length, s.cur.rows.length, bx, st, kd⟩ r told ev ⟨i, ch, p, s.tall⟩ := by
  unfold st1 atS
  dsimp only
  rw [h.row]
/-- from the end of a block to the one that is begun behind it -/
theorem st1_fall {s : Ms} {l : Nat} {c : Bool} {t : Int} {bx st : List Int} {kd : Nat} {r : List Fr1} {told : List Int} {ev : List (List Nat)} (h : Sub (s.beg l c t).bs F.bs) :
    st1 F (atS s bx st kd r told ev) = some (atS (s.beg l c t) bx st kd r told ev) := by
  unfold st1 atS
  dsimp only
  rw [h.last]
  simp [Ms.beg]
/-- a label that was begun -/
theorem ix_beg {s : Ms} {l : Nat} {c : Bool} {t : Int} (nd : (F.bs.map (·.lab)).Nodup) (h : Sub (s.beg l c t).bs F.bs) : F.ix l = s.pre.length + 1 := by
  obtain ⟨b, h1, h2, _, _⟩ := h.blk
  have e : (s.beg l c t).pre.length = s.pre.length + 1 := by simp [Ms.beg]
  rw [e] at h1
  have := ix_of nd h1
  rw [h2] at this
  exact this
theorem atS_ix {s : Ms} {l : Nat} {c : Bool} {t : Int} {bx st : List Int} {kd : Nat} {r : List Fr1} {told : List Int} {ev : List (List Nat)} (nd : (F.bs.map (·.lab)).Nodup) (h : Sub (s.beg l c t).bs F.bs) :
    (⟨⟨F.ix l, 0, bx, st, kd⟩ :: r, told, ev, none⟩ : M1) = atS (s.beg l c t) bx st kd r told ev := by
  rw [ix_beg nd h]
  simp [atS, Ms.beg]
end
theorem Ex.sub (ch : List Ct) (p : List Nat) : ∀ (e : Ex) (s : Ms), Sub s.bs (e.cm ch p s).bs
  | .num n, s => Sub.put
  | .box k, s => Sub.put
  | .op sg a b, s => ((Ex.sub ch p a s).trans (Ex.sub ch p b _)).trans Sub.put
theorem cms_sub (ch : List Ct) (p : List Nat) : ∀ (es : List Ex) (s : Ms), Sub s.bs (cms ch p es s).bs
  | [], s => Sub.refl s
  | e :: es, s => (Ex.sub ch p e s).trans (cms_sub ch p es _)
/-- what an expression changes of the maker -/
structure ExKeep (s s' : Ms) (n : Int) : Prop where
  cold : s'.cur.cold = s.cur.cold
  goal : s'.cur.goal = s.cur.goal
  lab : s'.lab = s.lab
  spare : s'.spare = s.spare
  tall : s'.tall = s.tall + n
theorem Ex.keep (ch : List Ct) (p : List Nat) : ∀ (e : Ex) (s : Ms), ExKeep s (e.cm ch p s) 1
  | .num n, s => ⟨rfl, rfl, rfl, rfl, rfl⟩
  | .box k, s => ⟨rfl, rfl, rfl, rfl, rfl⟩
  | .op sg a b, s => by
    have h1 := Ex.keep ch p a s
    have h2 := Ex.keep ch p b (a.cm ch p s)
    refine ⟨h2.cold.trans h1.cold, h2.goal.trans h1.goal, h2.lab.trans h1.lab, h2.spare.trans h1.spare, ?_⟩
    show (b.cm ch p (a.cm ch p s)).tall + (-1) = _
    rw [h2.tall, h1.tall]
    omega
theorem cms_keep (ch : List Ct) (p : List Nat) : ∀ (es : List Ex) (s : Ms), ExKeep s (cms ch p es s) es.length
  | [], s => ⟨rfl, rfl, rfl, rfl, by simp [cms]⟩
  | e :: es, s => by
    have h1 := Ex.keep ch p e s
    have h2 := cms_keep ch p es (e.cm ch p s)
    refine ⟨h2.cold.trans h1.cold, h2.goal.trans h1.goal, h2.lab.trans h1.lab, h2.spare.trans h1.spare, ?_⟩
    show (cms ch p es (e.cm ch p s)).tall = _
    rw [h2.tall, h1.tall]
    simp
    omega
section
variable {F : Cd1} {B g0 : Nat}
theorem take8_getD {bx : List Int} {k : Nat} (hk : k < 8) : (bx.take 8).getD k 0 = bx.getD k 0 := by
  simp [List.getD_eq_getElem?_getD, List.getElem?_take, hk]
/-- an expression is run to its number, or to its fault -/
theorem Ex.run (ch : List Ct) (p : List Nat) : ∀ (e : Ex) (d : Nat) (s : Ms) (bx st : List Int) (kd : Nat) (r : List Fr1) (told : List Int) (ev : List (List Nat)), e.ok d → Sub (e.cm ch p s).bs F.bs → bx.length = B → 8 ≤ B → (∀ v ∈ bx.take 8, Rg v) →
    RestOk F B g0 s.cur.goal r → (ev = [] → s.cur.cold = false) → (st.length : Int) = s.tall →
    (∀ v, e.ev (bx.take 8) = .ok v → Rn F (Good F B g0) e.sz (atS s bx st kd r told ev) (atS (e.cm ch p s) bx (v :: st) kd r told ev)) ∧
    (∀ v, e.ev (bx.take 8) = .flt v → Rn F (Good F B g0) e.sz (atS s bx st kd r told ev) (thrw F 0 v told (ev ++ [p]) ch bx r))
  | .num n, d, s, bx, st, kd, r, told, ev, ho, hs, hb, h8, hg, hr, hc, ht => by
    refine ⟨fun v hv => ?_, fun v hv => (by cases hv)⟩
    cases hv
    refine Rn.one (good_row hs hb hr hc ht (fun kv h => by cases h)) ?_
    rw [st1_row hs, Ex.cm, atS_put]
    rfl
  | .box k, d, s, bx, st, kd, r, told, ev, ho, hs, hb, h8, hg, hr, hc, ht => by
    refine ⟨fun v hv => ?_, fun v hv => (by cases hv)⟩
    have e : bx.getD k 0 = v := by
      rw [← take8_getD ho.2]
      exact Vl.ok.inj hv
    refine Rn.one (good_row hs hb hr hc ht (fun kv h => by cases h)) ?_
    rw [st1_row hs, Ex.cm, atS_put, ← e]
    rfl
  | .op sg a b, d, s, bx, st, kd, r, told, ev, ho, hs, hb, h8, hg, hr, hc, ht => by
    have hs2 : Sub (b.cm ch p (a.cm ch p s)).bs F.bs := Sub.put.trans hs
    have hs1 : Sub (a.cm ch p s).bs F.bs := (Ex.sub ch p b _).trans hs2
    have k1 := Ex.keep ch p a s
    have k2 := Ex.keep ch p b (a.cm ch p s)
    obtain ⟨a1, a2⟩ := Ex.run ch p a (d + 1) s bx st kd r told ev ho.2.1 hs1 hb h8 hg hr hc ht
    have fine1 := Ex.ev_ok (by simp; omega) hg a (d + 1) ho.2.1
    have fine2 := Ex.ev_ok (by simp; omega) hg b (d + 1) ho.2.2
    have b' := fun (x : Int) => Ex.run ch p b (d + 1) (a.cm ch p s) bx (x :: st) kd r told ev ho.2.2 hs2 hb h8 hg (by rw [k1.goal]; exact hr) (by rw [k1.cold]; exact hc) (by rw [k1.tall, ← ht]; simp)
    have step := fun (x y : Int) (hx : Rg x) (hy : Rg y) => (⟨good_row (F := F) (B := B) (g0 := g0) (bx := bx) (st := y :: x :: st) (kd := kd) (r := r) (told := told) (ev := ev) hs hb (by rw [k2.goal, k1.goal]; exact hr) (by rw [k2.cold, k1.cold]; exact hc) (by rw [k2.tall, k1.tall, ← ht]; simp <;> omega)
      (fun kv h => by
        unfold thrOf at h
        dsimp only at h
        split at h
        · cases h
        · cases h; exact ⟨by show 0 < 5; decide, hx⟩) ⟨hx, hy⟩, st1_row (bx := bx) (st := y :: x :: st) (kd := kd) (r := r) (told := told) (ev := ev) hs⟩ : _ ∧ _)
    constructor
    · intro v hv
      unfold Ex.ev at hv
      split at hv
      · cases hv
      · rename_i x hx
        rw [hx] at fine1
        split at hv
        · cases hv
        · rename_i y hy
          split at hv
          · rename_i z hz
            cases hv
            rw [hy] at fine2
            obtain ⟨g, e⟩ := step x y fine1 fine2
            refine Rn.le _ (a1 x hx) (Rn.trans ((b' x).1 y hy) (Rn.one g (τ := atS (Ex.cm ch p (.op sg a b) s) bx (v :: st) kd r told ev) ?_)) (by simp [Ex.sz] <;> omega)
            rw [e, Ex.cm, atS_put]
            unfold exe
            dsimp only
            rw [hz]
          · cases hv
    · intro v hv
      unfold Ex.ev at hv
      split at hv
      · rename_i u hu
        cases hv
        exact (a2 v hu).mono (by simp [Ex.sz] <;> omega)
      · rename_i x hx
        rw [hx] at fine1
        split at hv
        · rename_i u hu
          cases hv
          exact Rn.le _ (a1 x hx) ((b' x).2 v hu) (by simp [Ex.sz] <;> omega)
        · rename_i y hy
          split at hv
          · cases hv
          · rename_i hz
            cases hv
            rw [hy] at fine2
            obtain ⟨g, e⟩ := step v y fine1 fine2
            refine Rn.le _ (a1 v hx) (Rn.trans ((b' v).1 y hy) (Rn.one g (τ := thrw F 0 v told (ev ++ [p]) ch bx r) ?_)) (by simp [Ex.sz] <;> omega)
            rw [e]
            unfold exe
            dsimp only
            rw [hz]
theorem cms_run (ch : List Ct) (p : List Nat) : ∀ (es : List Ex) (s : Ms) (bx st : List Int) (kd : Nat) (r : List Fr1) (told : List Int) (ev : List (List Nat)), (∀ e ∈ es, e.ok 0) → Sub (cms ch p es s).bs F.bs → bx.length = B → 8 ≤ B → (∀ v ∈ bx.take 8, Rg v) →
    RestOk F B g0 s.cur.goal r → (ev = [] → s.cur.cold = false) → (st.length : Int) = s.tall →
    ((evs (bx.take 8) es).2 = none → Rn F (Good F B g0) (szs es) (atS s bx st kd r told ev) (atS (cms ch p es s) bx ((evs (bx.take 8) es).1.reverse ++ st) kd r told ev)) ∧
    (∀ v, (evs (bx.take 8) es).2 = some v → Rn F (Good F B g0) (szs es) (atS s bx st kd r told ev) (thrw F 0 v told (ev ++ [p]) ch bx r))
  | [], s, bx, st, kd, r, told, ev, ho, hs, hb, h8, hg, hr, hc, ht => ⟨fun _ => .nil, fun v hv => by cases hv⟩
  | e :: es, s, bx, st, kd, r, told, ev, ho, hs, hb, h8, hg, hr, hc, ht => by
    have hs1 : Sub (e.cm ch p s).bs F.bs := (cms_sub ch p es _).trans hs
    have k1 := Ex.keep ch p e s
    obtain ⟨a1, a2⟩ := Ex.run ch p e 0 s bx st kd r told ev (ho e (by simp)) hs1 hb h8 hg hr hc ht
    have b' := fun (x : Int) => cms_run ch p es (e.cm ch p s) bx (x :: st) kd r told ev (fun z hz => ho z (List.mem_cons_of_mem _ hz)) hs hb h8 hg (by rw [k1.goal]; exact hr) (by rw [k1.cold]; exact hc) (by rw [k1.tall, ← ht]; simp)
    unfold evs
    cases hx : e.ev (bx.take 8) with
    | flt v => exact ⟨fun z => (by cases z), fun u hu => (by cases hu; exact (a2 v hx).mono (by simp [szs]))⟩
    | ok x =>
      refine ⟨fun z => ?_, fun u hu => Rn.le _ (a1 x hx) ((b' x).2 u hu) (by simp [szs])⟩
      have := Rn.le (szs (e :: es)) (a1 x hx) ((b' x).1 z) (by simp [szs])
      simpa [cms] using this
end
end CL
namespace CL
open PySem L2
structure MLe (s s' : Ms) : Prop where
  sub : Sub s.bs s'.bs
  cold : s'.cur.cold = s.cur.cold
  goal : s'.cur.goal = s.cur.goal
  lab : s.lab ≤ s'.lab
  spare : s.spare ≤ s'.spare
  tall : s.tall = 0 → s'.tall = 0
theorem MLe.refl (s : Ms) : MLe s s := ⟨Sub.refl s, rfl, rfl, Nat.le_refl _, Nat.le_refl _, id⟩
theorem MLe.trans {a b c : Ms} (h : MLe a b) (k : MLe b c) : MLe a c := ⟨h.sub.trans k.sub, k.cold.trans h.cold, k.goal.trans h.goal, Nat.le_trans h.lab k.lab, Nat.le_trans h.spare k.spare, fun z => k.tall (h.tall z)⟩
theorem MLe.put0 {s : Ms} {ch : List Ct} {p : List Nat} {i : Ins} (h : i.chg = 0) : MLe s (s.put ch p i) := ⟨Sub.put, rfl, rfl, Nat.le_refl _, Nat.le_refl _, fun z => by show s.tall + i.chg = 0; rw [z, h]; rfl⟩
/-- an expression, and a row that takes its number -/
theorem MLe.ex {s : Ms} {ch : List Ct} {p : List Nat} {i : Ins} (e : Ex) (h : i.chg = -1) : MLe s ((e.cm ch p s).put ch p i) := by
  have k := Ex.keep ch p e s
  exact ⟨(Ex.sub ch p e s).trans Sub.put, k.cold, k.goal, Nat.le_of_eq k.lab.symm, Nat.le_of_eq k.spare.symm, fun z => by show (e.cm ch p s).tall + i.chg = 0; rw [k.tall, z, h]; rfl⟩
theorem MLe.beg {s : Ms} {l : Nat} : MLe s (s.beg l s.cur.cold 0) := ⟨Sub.beg, rfl, rfl, Nat.le_refl _, Nat.le_refl _, fun _ => rfl⟩
theorem MLe.begN {s : Ms} : MLe s s.begN := ⟨Sub.begN, rfl, rfl, Nat.le_succ _, Nat.le_refl _, fun _ => rfl⟩
theorem MLe.labs {s : Ms} {n : Nat} : MLe s (s.labs n) := ⟨Sub.refl s, rfl, rfl, Nat.le_add_right _ _, Nat.le_refl _, id⟩
theorem MLe.boxs {s : Ms} {n : Nat} : MLe s (s.boxs n) := ⟨Sub.refl s, rfl, rfl, Nat.le_refl _, Nat.le_add_right _ _, id⟩
def LvM (ls : List Lv) : Prop := ∀ f, Lv.fin f ∈ ls → ∀ s, MLe s (f s)
theorem LvM.nil : LvM [] := fun f h => by cases h
theorem LvM.tl {x : Lv} {ls : List Lv} (h : LvM (x :: ls)) : LvM ls := fun f hf => h f (List.mem_cons_of_mem _ hf)
theorem LvM.loop {a : Nat} {ls : List Lv} (h : LvM ls) : LvM (.loop a :: ls) := fun f hf => by
  rcases List.mem_cons.mp hf with z | z
  · cases z
  · exact h f z
theorem LvM.fin {g : Ms → Ms} {ls : List Lv} (hg : ∀ s, MLe s (g s)) (h : LvM ls) : LvM (.fin g :: ls) := fun f hf => by
  rcases List.mem_cons.mp hf with z | z
  · cases z; exact hg
  · exact h f z
theorem outA_le : ∀ (ls : List Lv) (s : Ms), LvM ls → MLe s (outA ls s)
  | [], s, _ => MLe.refl s
  | .fin f :: r, s, h => (h f (by simp) s).trans (outA_le r _ h.tl)
  | .loop _ :: r, s, h => outA_le r s h.tl
theorem outL_le : ∀ (ls : List Lv) (s : Ms), LvM ls → MLe s (outL ls s).2
  | [], s, _ => MLe.refl s
  | .fin f :: r, s, h => (h f (by simp) s).trans (outL_le r _ h.tl)
  | .loop _ :: r, s, h => MLe.refl s
theorem retPart_le {s : Ms} {ch : List Ct} {p : List Nat} {b : Nat} : MLe s ((s.put ch p (.load b)).put ch p .ret) := ⟨Sub.put.trans Sub.put, rfl, rfl, Nat.le_refl _, Nat.le_refl _, fun z => by show s.tall + 1 + -1 = 0; rw [z]; rfl⟩
theorem callPart_le {s : Ms} {ch : List Ct} {p : List Nat} {b g : Nat} (es : List Ex) : MLe s (((cms ch p es s).put ch p (.call g es.length)).put ch p (.store b)) := by
  have k := cms_keep ch p es s
  refine ⟨((cms_sub ch p es s).trans Sub.put).trans Sub.put, k.cold, k.goal, Nat.le_of_eq k.lab.symm, Nat.le_of_eq k.spare.symm, fun z => ?_⟩
  show (cms ch p es s).tall + (1 - (es.length : Int)) + -1 = 0
  rw [k.tall, z]
  omega
/-- a cold block is begun for what was caught; the next block is of the old kind again -/
structure MLc (s s' : Ms) : Prop where
  sub : Sub s.bs s'.bs
  goal : s'.cur.goal = s.cur.goal
  lab : s.lab ≤ s'.lab
  spare : s.spare ≤ s'.spare
theorem MLe.c {s s' : Ms} (h : MLe s s') : MLc s s' := ⟨h.sub, h.goal, h.lab, h.spare⟩
theorem MLc.trans {a b c : Ms} (h : MLc a b) (k : MLc b c) : MLc a c := ⟨h.sub.trans k.sub, k.goal.trans h.goal, Nat.le_trans h.lab k.lab, Nat.le_trans h.spare k.spare⟩
theorem MLc.beg {s : Ms} {l : Nat} {c : Bool} {t : Int} : MLc s (s.beg l c t) := ⟨Sub.beg, rfl, Nat.le_refl _, Nat.le_refl _⟩
theorem MLc.put {s : Ms} {ch : List Ct} {p : List Nat} {i : Ins} : MLc s (s.put ch p i) := ⟨Sub.put, rfl, Nat.le_refl _, Nat.le_refl _⟩
mutual
theorem Rw.mle : ∀ (r : Rw) (ls : List Lv) (ch : List Ct) (p : List Nat) (s : Ms), LvM ls → MLe s (r.cm ls ch p s)
  | .set b e, ls, ch, p, s, h => by unfold Rw.cm; exact MLe.ex e rfl
  | .out e, ls, ch, p, s, h => by unfold Rw.cm; exact MLe.ex e rfl
  | .thr k e, ls, ch, p, s, h => by unfold Rw.cm; exact MLe.ex e rfl
  | .call b g es, ls, ch, p, s, h => by unfold Rw.cm; exact callPart_le es
  | .ret e, ls, ch, p, s, h => by
    unfold Rw.cm
    exact (((MLe.boxs.trans (MLe.ex e rfl)).trans (outA_le ls _ h)).trans retPart_le).trans MLe.begN
  | .brk, ls, ch, p, s, h => by
    unfold Rw.cm
    exact ((outL_le ls s h).trans (MLe.put0 rfl)).trans MLe.begN
  | .ifs e a b, ls, ch, p, s, h => by
    unfold Rw.cm
    dsimp only
    exact ((((MLe.labs.trans (MLe.ex e rfl)).trans (Bd.mle a ls ch (p ++ [0]) 0 _ h)).trans (MLe.put0 rfl)).trans MLe.beg).trans ((Bd.mle b ls ch (p ++ [1]) 0 _ h).trans MLe.beg)
  | .loop n a, ls, ch, p, s, h => by
    unfold Rw.cm
    dsimp only
    have h1 : MLe s (((((s.boxs 1).labs 2).put ch p (.push n)).put ch p (.store s.spare)).beg s.lab s.cur.cold 0) :=
      ⟨((Sub.put (s := (s.boxs 1).labs 2)).trans Sub.put).trans Sub.beg, rfl, rfl, Nat.le_add_right _ _, Nat.le_add_right _ _, fun _ => rfl⟩
    have h2 := h1.trans (Bd.mle a (.loop (s.lab + 1) :: ls) ch (p ++ [0]) 0 _ h.loop)
    exact ⟨h2.sub.trans ((((Sub.put.trans Sub.put).trans Sub.put).trans Sub.put).trans Sub.beg), rfl, h2.goal, h2.lab, h2.spare, fun _ => rfl⟩
  | .tri a hs l, ls, ch, p, s, h => by
    unfold Rw.cm
    dsimp only
    have hf : ∀ s, MLe s (l.cm ls ch (p ++ [1 + hs.len]) s) := fun s => Lo.mle l ls ch _ s h
    have hl : LvM (if l.isS = true then .fin (l.cm ls ch (p ++ [1 + hs.len])) :: ls else ls) := by
      split
      · exact LvM.fin hf h
      · exact h
    generalize (if l.isS = true then Lv.fin (l.cm ls ch (p ++ [1 + hs.len])) :: ls else ls) = ls' at hl ⊢
    generalize (if l.isS = true then 1 else 0) = c
    generalize (if l.isS = true then (none, s.lab + 1, true) :: ch else ch) = inner
    have h1 : MLe s (s.labs (1 + c + hs.len)) := MLe.labs
    have h2 := ((h1.trans (Bd.mle a ls' (hs.cts (s.lab + 1 + c) ++ inner) (p ++ [0]) 0 _ hl)).trans (hf _)).c
    have h3 := (h2.trans (MLc.put (ch := inner) (p := p) (i := .jump s.lab))).trans (Hs.mlc hs ls' inner _ p s.lab (s.lab + 1 + c) 1 _ hl hf)
    generalize hs.cm ls' inner (l.cm ls ch (p ++ [1 + hs.len])) p s.lab (s.lab + 1 + c) 1 _ = u at h3 ⊢
    have h4 : MLc s (if l.isS = true then ((l.cm ls ch (p ++ [1 + hs.len]) (((u.beg (s.lab + 1) true 1).boxs 2).put ch p (.keep u.spare (u.spare + 1)))).put ch p (.rethrow u.spare (u.spare + 1))) else u) := by
      split
      · exact ((((h3.trans MLc.beg).trans (MLe.boxs (n := 2)).c).trans MLc.put).trans (hf _).c).trans MLc.put
      · exact h3
    exact ⟨h4.sub.trans Sub.beg, rfl, h4.goal, h4.lab, h4.spare, fun _ => rfl⟩
theorem Bd.mle : ∀ (b : Bd) (ls : List Lv) (ch : List Ct) (p : List Nat) (k : Nat) (s : Ms), LvM ls → MLe s (b.cm ls ch p k s)
  | .nil, ls, ch, p, k, s, h => by unfold Bd.cm; exact MLe.refl s
  | .cons r b, ls, ch, p, k, s, h => by unfold Bd.cm; exact (Rw.mle r ls ch _ s h).trans (Bd.mle b ls ch p (k + 1) _ h)
theorem Hs.mlc : ∀ (hs : Hs) (ls : List Lv) (ch : List Ct) (fe : Ms → Ms) (p : List Nat) (after g j : Nat) (s : Ms), LvM ls → (∀ s, MLe s (fe s)) → MLc s (hs.cm ls ch fe p after g j s)
  | .nil, ls, ch, fe, p, after, g, j, s, h, hf => by unfold Hs.cm; exact (MLe.refl s).c
  | .cons k b a hs, ls, ch, fe, p, after, g, j, s, h, hf => by
    unfold Hs.cm
    have h1 : MLc s ((s.beg g true 1).put ch p (.store b)) := MLc.beg.trans MLc.put
    exact (((h1.trans (Bd.mle a ls ch _ 0 _ h).c).trans (hf _).c).trans MLc.put).trans (Hs.mlc hs ls ch fe p after (g + 1) (j + 1) _ h hf)
theorem Lo.mle : ∀ (l : Lo) (ls : List Lv) (ch : List Ct) (p : List Nat) (s : Ms), LvM ls → MLe s (l.cm ls ch p s)
  | .non, ls, ch, p, s, h => by unfold Lo.cm; exact MLe.refl s
  | .som a, ls, ch, p, s, h => by unfold Lo.cm; exact Bd.mle a ls ch p 0 s h
end
structure Ge (s s' : Sy) : Prop where
  cnt : s.cnt ≤ s'.cnt
  tr : ∃ x, s'.tr = s.tr ++ x
theorem Ge.refl (s : Sy) : Ge s s := ⟨Nat.le_refl _, [], by simp⟩
theorem Ge.trans {a b c : Sy} (h : Ge a b) (k : Ge b c) : Ge a c := by
  obtain ⟨x, hx⟩ := h.tr
  obtain ⟨y, hy⟩ := k.tr
  exact ⟨Nat.le_trans h.cnt k.cnt, x ++ y, by rw [hy, hx, List.append_assoc]⟩
theorem Ge.hit {s : Sy} {p : List Nat} : Ge s (s.hit p) := ⟨Nat.le_refl _, [p], rfl⟩
theorem Ge.nil {s s' : Sy} (h : Ge s s') (z : s'.tr = []) : s.tr = [] := by
  obtain ⟨x, hx⟩ := h.tr
  rw [hx] at z
  exact (List.append_eq_nil_iff.mp z).1
def CyGe (c : Cy) : Prop := ∀ g a t n u, n ≤ (c g a t n u).2.2.1 ∧ ∃ x, (c g a t n u).2.2.2 = u ++ x
theorem loopT_ge {f : Sy → Ed × Sy} (h : ∀ s, Ge s (f s).2) : ∀ (n : Nat) (s : Sy), Ge s (loopT f n s).2
  | 0, s => Ge.refl s
  | n + 1, s => by
    unfold loopT
    have h1 := h s
    split
    · rename_i s' e; rw [e] at h1; exact h1.trans (loopT_ge h n s')
    · rename_i s' e; rw [e] at h1; exact h1
    · rename_i e' s' _ _ e; rw [e] at h1; exact h1
mutual
theorem Rw.ge {c : Cy} (hc : CyGe c) : ∀ (r : Rw) (p : List Nat) (s : Sy), Ge s (r.et c p s).2
  | .set b e, p, s => by unfold Rw.et; split <;> first | exact Ge.hit | exact ⟨Nat.le_refl _, [], by simp [Sy.set]⟩
  | .out e, p, s => by unfold Rw.et; split <;> first | exact Ge.hit | exact ⟨Nat.le_refl _, [], by simp⟩
  | .thr k e, p, s => by unfold Rw.et; split <;> exact Ge.hit
  | .call b g es, p, s => by
    unfold Rw.et
    split
    · exact Ge.hit
    · have h := hc g (evs s.bx es).1 s.told s.cnt s.tr
      split
      · rename_i v t n u e; rw [e] at h; exact ⟨h.1, h.2⟩
      · rename_i e' t n u _ e; rw [e] at h; exact ⟨h.1, h.2⟩
  | .ifs e a b, p, s => by
    unfold Rw.et
    split
    · split
      · exact Bd.ge hc a _ 0 s
      · exact Bd.ge hc b _ 0 s
    · exact Ge.hit
  | .loop n a, p, s => by unfold Rw.et; exact loopT_ge (fun s => Bd.ge hc a _ 0 s) n s
  | .brk, p, s => by unfold Rw.et; exact Ge.refl s
  | .ret e, p, s => by unfold Rw.et; split <;> first | exact Ge.hit | exact Ge.refl s
  | .tri a hs l, p, s => by
    unfold Rw.et
    exact ((Bd.ge hc a _ 0 s).trans (Hs.ge hc hs p 1 _)).trans (Lo.ge hc l p _ _)
theorem Bd.ge {c : Cy} (hc : CyGe c) : ∀ (b : Bd) (p : List Nat) (k : Nat) (s : Sy), Ge s (b.et c p k s).2
  | .nil, p, k, s => by unfold Bd.et; exact Ge.refl s
  | .cons r b, p, k, s => by
    unfold Bd.et
    have h1 := Rw.ge hc r (p ++ [k]) ⟨s.bx, s.told, s.cnt + 1, s.tr⟩
    have h : Ge s (r.et c (p ++ [k]) ⟨s.bx, s.told, s.cnt + 1, s.tr⟩).2 := ⟨by have := h1.cnt; dsimp only at this; omega, h1.tr⟩
    split
    · rename_i s' e; rw [e] at h; exact h.trans (Bd.ge hc b p (k + 1) s')
    · rename_i e' s' _ e; rw [e] at h; exact h
theorem Hs.ge {c : Cy} (hc : CyGe c) : ∀ (hs : Hs) (p : List Nat) (j : Nat) (x : Ed × Sy), Ge x.2 (hs.et c p j x).2
  | .nil, p, j, x => by unfold Hs.et; exact Ge.refl _
  | .cons k b a hs, p, j, x => by
    unfold Hs.et
    split
    · split
      · rename_i v _ _
        exact Ge.trans (b := x.2.set b v) ⟨Nat.le_refl _, [], by simp [Sy.set]⟩ (Bd.ge hc a _ 0 _)
      · exact Hs.ge hc hs p (j + 1) x
    · exact Ge.refl _
theorem Lo.ge {c : Cy} (hc : CyGe c) : ∀ (l : Lo) (p : List Nat) (j : Nat) (x : Ed × Sy), Ge x.2 (l.et c p j x).2
  | .non, p, j, x => by unfold Lo.et; exact Ge.refl _
  | .som a, p, j, x => by
    unfold Lo.et
    have h := Bd.ge hc a (p ++ [j]) 0 x.2
    split
    · rename_i s' e
      rw [e] at h
      dsimp only at h ⊢
      split
      · exact h.trans Ge.hit
      · exact h
    · rename_i e' s' _ e; rw [e] at h; exact h
end
end CL
namespace CL
open PySem L2
inductive Tg1 where
  | on | bad | lab (a : Nat) | ret (v : Int) | thr (ch : List Ct) (k : Nat) (v : Int)
inductive Ly where
  | loop (a : Nat) | fin (g : Sy → Ed × Sy) (ch : List Ct)
def leave : List Ly → List Ct → Ed × Sy → Tg1 × Sy
  | [], ch, x => match x.1 with
    | .on => (.on, x.2)
    | .thr k v => (.thr ch k v, x.2)
    | .ret v => (.ret v, x.2)
    | .brk => (.bad, x.2)
  | .loop a :: r, ch, x => match x.1 with
    | .on => (.on, x.2)
    | .thr k v => (.thr ch k v, x.2)
    | .brk => (.lab a, x.2)
    | .ret v => leave r ch (.ret v, x.2)
  | .fin g c :: r, ch, x => match x.1 with
    | .on => (.on, x.2)
    | .thr k v => (.thr ch k v, x.2)
    | .brk => leave r c (match g x.2 with | (.on, s) => (.brk, s) | y => y)
    | .ret v => leave r c (match g x.2 with | (.on, s) => (.ret v, s) | y => y)
@[simp] theorem leave_on {Ls : List Ly} {ch : List Ct} {s : Sy} : leave Ls ch (.on, s) = (.on, s) := by
  cases Ls with
  | nil => rfl
  | cons l r => cases l <;> rfl
@[simp] theorem leave_thr {Ls : List Ly} {ch : List Ct} {s : Sy} {k : Nat} {v : Int} : leave Ls ch (.thr k v, s) = (.thr ch k v, s) := by
  cases Ls with
  | nil => rfl
  | cons l r => cases l <;> rfl
theorem leave_isOn : ∀ (Ls : List Ly) (ch : List Ct) (x : Ed × Sy), (leave Ls ch x).1 = .on → x.1 = .on
  | [], ch, (e, s), h => by cases e <;> first | rfl | exact nomatch h
  | .loop a :: r, ch, (e, s), h => by
    cases e with
    | on => rfl
    | brk => exact nomatch h
    | thr k v => exact nomatch h
    | ret v =>
      have h' : (leave r ch (.ret v, s)).1 = .on := h
      have := leave_isOn r ch _ h'
      exact nomatch this
  | .fin g c :: r, ch, (e, s), h => by
    cases e with
    | on => rfl
    | thr k v => exact nomatch h
    | brk =>
      have h' : (leave r c (match g s with | (.on, s) => (.brk, s) | y => y)).1 = .on := h
      have := leave_isOn r c _ h'
      generalize g s = y at this
      obtain ⟨e', s'⟩ := y
      cases e' <;> exact nomatch this
    | ret v =>
      have h' : (leave r c (match g s with | (.on, s) => (.ret v, s) | y => y)).1 = .on := h
      have := leave_isOn r c _ h'
      generalize g s = y at this
      obtain ⟨e', s'⟩ := y
      cases e' <;> exact nomatch this
/-- what does not throw doesn't look at the catchers -/
theorem leave_ch : ∀ (Ls : List Ly) (ch ch' : List Ct) (x : Ed × Sy), isThr x.1 = false → leave Ls ch x = leave Ls ch' x
  | [], ch, ch', (e, s), h => by cases e <;> first | rfl | exact nomatch h
  | .loop a :: r, ch, ch', (e, s), h => by
    cases e with
    | on => rfl
    | brk => rfl
    | thr k v => exact nomatch h
    | ret v => exact leave_ch r ch ch' (.ret v, s) rfl
  | .fin g c :: r, ch, ch', (e, s), h => by cases e <;> first | rfl | exact nomatch h
/-- the boxes behind: those of the program as told, those below lo as before -/
structure BxOk (bx bx' : List Int) (sb : List Int) (lo : Nat) : Prop where
  len : bx'.length = bx.length
  own : bx'.take 8 = sb
  keep : ∀ i, 8 ≤ i → i < lo → bx'[i]? = bx[i]?
theorem BxOk.refl {bx : List Int} {lo : Nat} : BxOk bx bx (bx.take 8) lo := ⟨rfl, rfl, fun _ _ _ => rfl⟩
theorem BxOk.trans {a b c sb sc : List Int} {lo lo' : Nat} (h : BxOk a b sb lo) (k : BxOk b c sc lo') (hl : lo ≤ lo') : BxOk a c sc lo := ⟨k.len.trans h.len, k.own, fun i h1 h2 => (k.keep i h1 (by omega)).trans (h.keep i h1 h2)⟩
theorem take8_set_lo {bx : List Int} {b : Nat} {v : Int} (h : b < 8) : (bx.set b v).take 8 = (bx.take 8).set b v := by rw [List.take_set]
theorem take8_set_hi {bx : List Int} {b : Nat} {v : Int} (h : 8 ≤ b) : (bx.set b v).take 8 = bx.take 8 := by
  rw [List.take_set, List.set_eq_of_length_le (by simp; omega)]
theorem BxOk.set {a b sb : List Int} {lo k : Nat} {v : Int} (h : BxOk a b sb lo) (hk : k < 8) : BxOk a (b.set k v) (sb.set k v) lo :=
  ⟨by simpa using h.len, by rw [take8_set_lo hk, h.own], fun i h1 h2 => by rw [List.getElem?_set_ne (by omega)]; exact h.keep i h1 h2⟩
theorem BxOk.hi {a b sb : List Int} {lo k : Nat} {v : Int} (h : BxOk a b sb lo) (h8 : 8 ≤ lo) (hk : lo ≤ k) : BxOk a (b.set k v) sb lo :=
  ⟨by simpa using h.len, by rw [take8_set_hi (by omega), h.own], fun i h1 h2 => by rw [List.getElem?_set_ne (by omega)]; exact h.keep i h1 h2⟩
/-- the state in which it lands; q: the maker behind the part -/
def landSt (F : Cd1) (r : List Fr1) (q : Ms) (t : Tg1 × Sy) (bx : List Int) (kd : Nat) : M1 := match t.1 with
  | .on => atS q bx [] kd r t.2.told t.2.tr
  | .bad => ⟨[], [], [], none⟩
  | .lab a => ⟨⟨F.ix a, 0, bx, [], kd⟩ :: r, t.2.told, t.2.tr, none⟩
  | .ret v => retd v t.2.told t.2.tr r
  | .thr ch k v => thrw F k v t.2.told t.2.tr ch bx r
structure Land (F : Cd1) (lo : Nat) (bx0 : List Int) (r : List Fr1) (q : Ms) (t : Tg1 × Sy) (σ : M1) : Prop where
  ex : ∃ bx kd, BxOk bx0 bx t.2.bx lo ∧ σ = landSt F r q t bx kd
  nb : t.1 ≠ .bad
abbrev KK : Nat := 75
/-- a part of code does what is meant -/
def Corr (F : Cd1) (B g0 c0 : Nat) (cm : Ms → Ms) (g : Sy → Ed × Sy) (Ls : List Ly) (ch : List Ct) : Prop :=
  ∀ (s : Ms) (bx : List Int) (kd : Nat) (r : List Fr1) (told : List Int) (cnt : Nat) (tr : List (List Nat)), Sub (cm s).bs F.bs → s.tall = 0 → bx.length = B → (cm s).spare ≤ B → 8 ≤ s.spare → (∀ v ∈ bx.take 8, Rg v) → RestOk F B g0 s.cur.goal r → (tr = [] → s.cur.cold = false) →
    ∃ σ, Rn F (Good F B g0) (KK * ((leave Ls ch (g ⟨bx.take 8, told, cnt, tr⟩)).2.cnt - cnt + c0)) (atS s bx [] kd r told tr) σ ∧ Land F s.spare bx r (cm s) (leave Ls ch (g ⟨bx.take 8, told, cnt, tr⟩)) σ
def SyOk (s : Sy) : Prop := s.sx.ok
/-- leaves and layers -/
inductive Par (F : Cd1) (B g0 : Nat) : List Lv → List Ly → Prop
  | nil : Par F B g0 [] []
  | loop {ls : List Lv} {Ls : List Ly} {a : Nat} : Par F B g0 ls Ls → Par F B g0 (.loop a :: ls) (.loop a :: Ls)
  | fin {ls : List Lv} {Ls : List Ly} {f : Ms → Ms} {g : Sy → Ed × Sy} {c : List Ct} : Par F B g0 ls Ls → Corr F B g0 0 f g Ls c → (∀ s, Ge s (g s).2) → (∀ s, SyOk s → SyOk (g s).2) → (∀ s, MLe s (f s)) → Par F B g0 (.fin f :: ls) (.fin g c :: Ls)
def hasL : List Ly → Bool
  | [] => false
  | .loop _ :: _ => true
  | .fin _ _ :: r => hasL r
section
variable {F : Cd1} {B g0 : Nat}
theorem Par.lvM : ∀ {ls : List Lv} {Ls : List Ly}, Par F B g0 ls Ls → LvM ls
  | _, _, .nil => LvM.nil
  | _, _, .loop h => h.lvM.loop
  | _, _, .fin h _ _ _ m => LvM.fin m h.lvM
theorem leave_ge : ∀ {ls : List Lv} {Ls : List Ly}, Par F B g0 ls Ls → ∀ (ch : List Ct) (x : Ed × Sy), Ge x.2 (leave Ls ch x).2
  | _, _, .nil, ch, (e, s) => by cases e <;> exact Ge.refl s
  | _, _, .loop h, ch, (e, s) => by
    cases e with
    | ret v => exact leave_ge h ch (.ret v, s)
    | _ => exact Ge.refl s
  | _, _, .fin (g := g) (c := c) h _ hg _ _, ch, (e, s) => by
    cases e with
    | on => exact Ge.refl s
    | thr k v => exact Ge.refl s
    | brk =>
      have h1 := hg s
      refine Ge.trans h1 ?_
      have := leave_ge h c (match g s with | (.on, s) => (.brk, s) | y => y)
      show Ge (g s).2 (leave _ _ (match g s with | (.on, s) => (.brk, s) | y => y)).2
      generalize g s = y at this ⊢
      obtain ⟨e', s'⟩ := y
      cases e' <;> exact this
    | ret v =>
      have h1 := hg s
      refine Ge.trans h1 ?_
      have := leave_ge h c (match g s with | (.on, s) => (.ret v, s) | y => y)
      show Ge (g s).2 (leave _ _ (match g s with | (.on, s) => (.ret v, s) | y => y)).2
      generalize g s = y at this ⊢
      obtain ⟨e', s'⟩ := y
      cases e' <;> exact this
theorem Land.on {lo : Nat} {bx0 : List Int} {r : List Fr1} {q : Ms} {s : Sy} {σ : M1} (h : Land F lo bx0 r q (.on, s) σ) : ∃ bx kd, BxOk bx0 bx s.bx lo ∧ σ = atS q bx [] kd r s.told s.tr := h.ex
/-- apart from its end a part's landing does not look at the maker -/
theorem Land.off {lo lo' : Nat} {bx0 bx1 sb : List Int} {r : List Fr1} {q q' : Ms} {t : Tg1 × Sy} {σ : M1} (h : Land F lo' bx1 r q t σ) (hn : t.1 ≠ .on) (hb : BxOk bx0 bx1 sb lo) (hl : lo ≤ lo') : Land F lo bx0 r q' t σ := by
  obtain ⟨⟨bx, kd, h1, h2⟩, h3⟩ := h
  refine ⟨⟨bx, kd, hb.trans h1 hl, ?_⟩, h3⟩
  rw [h2]
  unfold landSt
  cases q : t.1 with
  | on => exact absurd q hn
  | _ => rfl
end
end CL
namespace CL
open PySem L2
def endsA : List Ly → Sy → Except (Tg1 × Sy) Sy
  | [], s => .ok s
  | .loop _ :: r, s => endsA r s
  | .fin g c :: r, s => match g s with
    | (.on, s') => endsA r s'
    | y => .error (leave r c y)
def endsL : List Ly → Sy → Except (Tg1 × Sy) (Nat × Sy)
  | [], s => .error (.bad, s)
  | .loop a :: _, s => .ok (a, s)
  | .fin g c :: r, s => match g s with
    | (.on, s') => endsL r s'
    | y => .error (leave r c y)
theorem leave_ret : ∀ (Ls : List Ly) (ch : List Ct) (v : Int) (s : Sy), leave Ls ch (.ret v, s) = match endsA Ls s with | .ok s' => (.ret v, s') | .error t => t
  | [], ch, v, s => rfl
  | .loop _ :: r, ch, v, s => leave_ret r ch v s
  | .fin g c :: r, ch, v, s => by
    show leave r c (match g s with | (.on, s) => (.ret v, s) | y => y) = match (match g s with | (.on, s') => endsA r s' | y => .error (leave r c y)) with | .ok s' => (.ret v, s') | .error t => t
    generalize g s = y
    obtain ⟨e, s'⟩ := y
    cases e with
    | on => exact leave_ret r c v s'
    | _ => rfl
theorem leave_brk : ∀ (Ls : List Ly) (ch : List Ct) (s : Sy), leave Ls ch (.brk, s) = match endsL Ls s with | .ok x => (.lab x.1, x.2) | .error t => t
  | [], ch, s => rfl
  | .loop _ :: r, ch, s => rfl
  | .fin g c :: r, ch, s => by
    show leave r c (match g s with | (.on, s) => (.brk, s) | y => y) = match (match g s with | (.on, s') => endsL r s' | y => .error (leave r c y)) with | .ok x => (.lab x.1, x.2) | .error t => t
    generalize g s = y
    obtain ⟨e, s'⟩ := y
    cases e with
    | on => exact leave_brk r c s'
    | _ => rfl
section
variable {F : Cd1} {B g0 : Nat}
/-- how a part ends: at its own end, or elsewhere -/
theorem Corr.cases {c0 : Nat} {cm : Ms → Ms} {g : Sy → Ed × Sy} {Ls : List Ly} {ch : List Ct} (h : Corr F B g0 c0 cm g Ls ch) {s : Ms} {bx : List Int} {kd : Nat} {r : List Fr1} {told : List Int} {cnt : Nat} {tr : List (List Nat)}
    (hs : Sub (cm s).bs F.bs) (ht : s.tall = 0) (hb : bx.length = B) (hp : (cm s).spare ≤ B) (h8 : 8 ≤ s.spare) (hv : ∀ v ∈ bx.take 8, Rg v) (hr : RestOk F B g0 s.cur.goal r) (hc : tr = [] → s.cur.cold = false) :
    (∃ sy bx' kd', g ⟨bx.take 8, told, cnt, tr⟩ = (.on, sy) ∧ BxOk bx bx' sy.bx s.spare ∧ Rn F (Good F B g0) (KK * (sy.cnt - cnt + c0)) (atS s bx [] kd r told tr) (atS (cm s) bx' [] kd' r sy.told sy.tr)) ∨
    ((g ⟨bx.take 8, told, cnt, tr⟩).1 ≠ .on ∧ ∃ σ, Rn F (Good F B g0) (KK * ((leave Ls ch (g ⟨bx.take 8, told, cnt, tr⟩)).2.cnt - cnt + c0)) (atS s bx [] kd r told tr) σ ∧ Land F s.spare bx r (cm s) (leave Ls ch (g ⟨bx.take 8, told, cnt, tr⟩)) σ) := by
  obtain ⟨σ, h1, h2⟩ := h s bx kd r told cnt tr hs ht hb hp h8 hv hr hc
  generalize g ⟨bx.take 8, told, cnt, tr⟩ = y at h1 h2 ⊢
  obtain ⟨e, sy⟩ := y
  cases e with
  | on =>
    rw [leave_on] at h1 h2
    obtain ⟨bx', kd', h3, h4⟩ := h2.on
    subst h4
    exact .inl ⟨sy, bx', kd', rfl, h3, h1⟩
  | brk => exact .inr ⟨(by intro z; cases z), σ, h1, h2⟩
  | ret v => exact .inr ⟨(by intro z; cases z), σ, h1, h2⟩
  | thr k v => exact .inr ⟨(by intro z; cases z), σ, h1, h2⟩
theorem SyOk.rg {s : Sy} (h : SyOk s) : ∀ v ∈ s.bx, Rg v := Sx.ok.rg (s := s.sx) h
theorem syOk_of {bx : List Int} {told : List Int} {cnt : Nat} {tr : List (List Nat)} (hb : bx.length = B) (h8 : 8 ≤ B) (hv : ∀ v ∈ bx.take 8, Rg v) : SyOk ⟨bx.take 8, told, cnt, tr⟩ := ⟨by show (bx.take 8).length = 8; simp; omega, hv⟩
theorem outA_run : ∀ {ls : List Lv} {Ls : List Ly}, Par F B g0 ls Ls → 8 ≤ B → ∀ (s : Ms) (bx : List Int) (kd : Nat) (r : List Fr1) (told : List Int) (cnt : Nat) (tr : List (List Nat)), Sub (outA ls s).bs F.bs → s.tall = 0 → bx.length = B → (outA ls s).spare ≤ B → 8 ≤ s.spare → (∀ v ∈ bx.take 8, Rg v) → RestOk F B g0 s.cur.goal r → (tr = [] → s.cur.cold = false) →
    match endsA Ls ⟨bx.take 8, told, cnt, tr⟩ with
    | .ok sy => (cnt ≤ sy.cnt ∧ (sy.tr = [] → tr = [])) ∧ ∃ bx' kd', BxOk bx bx' sy.bx s.spare ∧ Rn F (Good F B g0) (KK * (sy.cnt - cnt)) (atS s bx [] kd r told tr) (atS (outA ls s) bx' [] kd' r sy.told sy.tr)
    | .error t => t.1 ≠ .on ∧ cnt ≤ t.2.cnt ∧ ∃ σ, Rn F (Good F B g0) (KK * (t.2.cnt - cnt)) (atS s bx [] kd r told tr) σ ∧ ∀ q, Land F s.spare bx r q t σ
  | _, _, .nil, hB, s, bx, kd, r, told, cnt, tr, hs, ht, hb, hp, h8, hv, hr, hc => ⟨⟨Nat.le_refl _, id⟩, bx, kd, BxOk.refl, .nil⟩
  | _, _, .loop h, hB, s, bx, kd, r, told, cnt, tr, hs, ht, hb, hp, h8, hv, hr, hc => outA_run h hB s bx kd r told cnt tr hs ht hb hp h8 hv hr hc
  | _, _, .fin (ls := ls) (Ls := Ls) (f := f) (g := g) (c := c) h hf hg hok hm, hB, s, bx, kd, r, told, cnt, tr, hs, ht, hb, hp, h8, hv, hr, hc => by
    have m1 := hm s
    have m2 := outA_le ls (f s) h.lvM
    have hs1 : Sub (f s).bs F.bs := m2.sub.trans hs
    have hp' : (outA ls (f s)).spare ≤ B := hp
    have ge := hg ⟨bx.take 8, told, cnt, tr⟩
    have ok := hok _ (syOk_of (told := told) (cnt := cnt) (tr := tr) hb hB hv)
    show match (match g ⟨bx.take 8, told, cnt, tr⟩ with | (.on, s') => endsA Ls s' | y => .error (leave Ls c y)) with | .ok sy => _ | .error t => _
    rcases hf.cases (kd := kd) (r := r) (told := told) (cnt := cnt) (tr := tr) hs1 ht hb (Nat.le_trans m2.spare hp') h8 hv hr hc with ⟨sy, bx', kd', e1, e2, e3⟩ | ⟨n1, σ, e2, e3⟩
    · rw [e1] at ge ok ⊢
      dsimp only at ge ok ⊢
      have c1 := ge.cnt
      dsimp only at c1
      have hb' : bx'.length = B := e2.len.trans hb
      have ih := outA_run h hB (f s) bx' kd' r sy.told sy.cnt sy.tr hs (m1.tall ht) hb' hp' (Nat.le_trans h8 m1.spare) (by rw [e2.own]; exact ok.rg) (by rw [m1.goal]; exact hr) (fun z => by rw [m1.cold]; exact hc (ge.nil z))
      rw [e2.own] at ih
      change match endsA Ls sy with | .ok sy' => _ | .error t => _ at ih
      cases q : endsA Ls sy with
      | ok sy' =>
        rw [q] at ih
        obtain ⟨⟨i1, i2⟩, bx2, kd2, i3, i4⟩ := ih
        exact ⟨⟨by omega, fun z => ge.nil (i2 z)⟩, bx2, kd2, e2.trans i3 m1.spare, Rn.le _ e3 i4 (by rw [← Nat.mul_add]; exact Nat.mul_le_mul_left _ (by omega))⟩
      | error t =>
        rw [q] at ih
        obtain ⟨i1, i2, σ, i3, i4⟩ := ih
        exact ⟨i1, by omega, σ, Rn.le _ e3 i3 (by rw [← Nat.mul_add]; exact Nat.mul_le_mul_left _ (by omega)), fun q => (i4 (f s)).off i1 e2 m1.spare⟩
    · have hne : (leave Ls c (g ⟨bx.take 8, told, cnt, tr⟩)).1 ≠ .on := fun z => n1 (leave_isOn _ _ _ z)
      have ge2 := leave_ge h c (g ⟨bx.take 8, told, cnt, tr⟩)
      have c1 := ge.cnt
      have c2 := ge2.cnt
      generalize g ⟨bx.take 8, told, cnt, tr⟩ = y at n1 e2 e3 hne c1 c2 ⊢
      obtain ⟨e, sy⟩ := y
      dsimp only at c1 c2
      cases e with
      | on => exact absurd rfl n1
      | _ => exact ⟨hne, by omega, σ, e2, fun q => e3.off hne BxOk.refl (Nat.le_refl _)⟩
theorem outL_run : ∀ {ls : List Lv} {Ls : List Ly}, Par F B g0 ls Ls → hasL Ls = true → 8 ≤ B → ∀ (s : Ms) (bx : List Int) (kd : Nat) (r : List Fr1) (told : List Int) (cnt : Nat) (tr : List (List Nat)), Sub (outL ls s).2.bs F.bs → s.tall = 0 → bx.length = B → (outL ls s).2.spare ≤ B → 8 ≤ s.spare → (∀ v ∈ bx.take 8, Rg v) → RestOk F B g0 s.cur.goal r → (tr = [] → s.cur.cold = false) →
    match endsL Ls ⟨bx.take 8, told, cnt, tr⟩ with
    | .ok x => x.1 = (outL ls s).1 ∧ (cnt ≤ x.2.cnt ∧ (x.2.tr = [] → tr = [])) ∧ ∃ bx' kd', BxOk bx bx' x.2.bx s.spare ∧ Rn F (Good F B g0) (KK * (x.2.cnt - cnt)) (atS s bx [] kd r told tr) (atS (outL ls s).2 bx' [] kd' r x.2.told x.2.tr)
    | .error t => t.1 ≠ .on ∧ cnt ≤ t.2.cnt ∧ ∃ σ, Rn F (Good F B g0) (KK * (t.2.cnt - cnt)) (atS s bx [] kd r told tr) σ ∧ ∀ q, Land F s.spare bx r q t σ
  | _, _, .nil, hl, hB, s, bx, kd, r, told, cnt, tr, hs, ht, hb, hp, h8, hv, hr, hc => nomatch hl
  | _, _, .loop h, hl, hB, s, bx, kd, r, told, cnt, tr, hs, ht, hb, hp, h8, hv, hr, hc => ⟨rfl, ⟨Nat.le_refl _, id⟩, bx, kd, BxOk.refl, .nil⟩
  | _, _, .fin (ls := ls) (Ls := Ls) (f := f) (g := g) (c := c) h hf hg hok hm, hl, hB, s, bx, kd, r, told, cnt, tr, hs, ht, hb, hp, h8, hv, hr, hc => by
    have m1 := hm s
    have m2 := outL_le ls (f s) h.lvM
    have hs1 : Sub (f s).bs F.bs := m2.sub.trans hs
    have hp' : (outL ls (f s)).2.spare ≤ B := hp
    have ge := hg ⟨bx.take 8, told, cnt, tr⟩
    have ok := hok _ (syOk_of (told := told) (cnt := cnt) (tr := tr) hb hB hv)
    show match (match g ⟨bx.take 8, told, cnt, tr⟩ with | (.on, s') => endsL Ls s' | y => .error (leave Ls c y)) with | .ok sy => _ | .error t => _
    rcases hf.cases (kd := kd) (r := r) (told := told) (cnt := cnt) (tr := tr) hs1 ht hb (Nat.le_trans m2.spare hp') h8 hv hr hc with ⟨sy, bx', kd', e1, e2, e3⟩ | ⟨n1, σ, e2, e3⟩
    · rw [e1] at ge ok ⊢
      dsimp only at ge ok ⊢
      have c1 := ge.cnt
      dsimp only at c1
      have hb' : bx'.length = B := e2.len.trans hb
      have ih := outL_run h hl hB (f s) bx' kd' r sy.told sy.cnt sy.tr hs (m1.tall ht) hb' hp' (Nat.le_trans h8 m1.spare) (by rw [e2.own]; exact ok.rg) (by rw [m1.goal]; exact hr) (fun z => by rw [m1.cold]; exact hc (ge.nil z))
      rw [e2.own] at ih
      change match endsL Ls sy with | .ok sy' => _ | .error t => _ at ih
      cases q : endsL Ls sy with
      | ok x =>
        rw [q] at ih
        obtain ⟨i0, ⟨i1, i2⟩, bx2, kd2, i3, i4⟩ := ih
        exact ⟨i0, ⟨by omega, fun z => ge.nil (i2 z)⟩, bx2, kd2, e2.trans i3 m1.spare, Rn.le _ e3 i4 (by rw [← Nat.mul_add]; exact Nat.mul_le_mul_left _ (by omega))⟩
      | error t =>
        rw [q] at ih
        obtain ⟨i1, i2, σ, i3, i4⟩ := ih
        exact ⟨i1, by omega, σ, Rn.le _ e3 i3 (by rw [← Nat.mul_add]; exact Nat.mul_le_mul_left _ (by omega)), fun q => (i4 (f s)).off i1 e2 m1.spare⟩
    · have hne : (leave Ls c (g ⟨bx.take 8, told, cnt, tr⟩)).1 ≠ .on := fun z => n1 (leave_isOn _ _ _ z)
      have ge2 := leave_ge h c (g ⟨bx.take 8, told, cnt, tr⟩)
      have c1 := ge.cnt
      have c2 := ge2.cnt
      generalize g ⟨bx.take 8, told, cnt, tr⟩ = y at n1 e2 e3 hne c1 c2 ⊢
      obtain ⟨e, sy⟩ := y
      dsimp only at c1 c2
      cases e with
      | on => exact absurd rfl n1
      | _ => exact ⟨hne, by omega, σ, e2, fun q => e3.off hne BxOk.refl (Nat.le_refl _)⟩
end
end CL
namespace CL
open PySem L2
section
variable {F : Cd1} {B g0 : Nat} {s : Ms} {ch : List Ct} {p : List Nat} {bx st : List Int} {kd : Nat} {r : List Fr1} {told : List Int} {ev : List (List Nat)}
/-- what a row needs of the state -/
structure Here (F : Cd1) (B g0 : Nat) (s : Ms) (bx st : List Int) (r : List Fr1) (ev : List (List Nat)) : Prop where
  len : bx.length = B
  rest : RestOk F B g0 s.cur.goal r
  hot : ev = [] → s.cur.cold = false
  tall : (st.length : Int) = s.tall
theorem run_row {i : Ins} {τ : M1} (h : Sub (s.put ch p i).bs F.bs) (H : Here F B g0 s bx st r ev) (hx : exe F ⟨s.pre.length, s.cur.rows.length, bx, st, kd⟩ r told ev ⟨i, ch, p, s.tall⟩ = some τ)
    (hv : ∀ kv, thrOf ⟨i, ch, p, s.tall⟩ ⟨s.pre.length, s.cur.rows.length, bx, st, kd⟩ = some kv → kv.1 < 5 ∧ Rg kv.2) (hg : SgOk i bx st := by trivial) : Rn F (Good F B g0) 1 (atS s bx st kd r told ev) τ :=
  Rn.one (good_row h H.len H.rest H.hot H.tall hv hg) (by rw [st1_row h]; exact hx)
theorem run_push {v : Int} (h : Sub (s.put ch p (.push v)).bs F.bs) (H : Here F B g0 s bx st r ev) : Rn F (Good F B g0) 1 (atS s bx st kd r told ev) (atS (s.put ch p (.push v)) bx (v :: st) kd r told ev) :=
  run_row h H (by rw [atS_put] <;> rfl) fun kv z => by cases z
theorem run_load {b : Nat} (h : Sub (s.put ch p (.load b)).bs F.bs) (H : Here F B g0 s bx st r ev) : Rn F (Good F B g0) 1 (atS s bx st kd r told ev) (atS (s.put ch p (.load b)) bx (bx.getD b 0 :: st) kd r told ev) :=
  run_row h H (by rw [atS_put] <;> rfl) fun kv z => by cases z
theorem run_store {b : Nat} {v : Int} (h : Sub (s.put ch p (.store b)).bs F.bs) (H : Here F B g0 s bx (v :: st) r ev) : Rn F (Good F B g0) 1 (atS s bx (v :: st) kd r told ev) (atS (s.put ch p (.store b)) (bx.set b v) st kd r told ev) :=
  run_row h H (by rw [atS_put] <;> rfl) fun kv z => by cases z
theorem run_out {v : Int} (h : Sub (s.put ch p .out).bs F.bs) (H : Here F B g0 s bx (v :: st) r ev) : Rn F (Good F B g0) 1 (atS s bx (v :: st) kd r told ev) (atS (s.put ch p .out) bx st kd r (told ++ [v]) ev) :=
  run_row h H (by rw [atS_put] <;> rfl) fun kv z => by cases z
theorem run_throw {k : Nat} {v : Int} (h : Sub (s.put ch p (.throw k)).bs F.bs) (H : Here F B g0 s bx (v :: st) r ev) (hk : k < 5) (hv : Rg v) : Rn F (Good F B g0) 1 (atS s bx (v :: st) kd r told ev) (thrw F k v told (ev ++ [p]) ch bx r) :=
  run_row h H rfl fun kv z => by cases z; exact ⟨hk, hv⟩
theorem run_jump {l : Nat} (h : Sub (s.put ch p (.jump l)).bs F.bs) (H : Here F B g0 s bx st r ev) : Rn F (Good F B g0) 1 (atS s bx st kd r told ev) ⟨⟨F.ix l, 0, bx, st, kd⟩ :: r, told, ev, none⟩ :=
  run_row h H rfl fun kv z => by cases z
theorem run_unless0 {l : Nat} (h : Sub (s.put ch p (.unless l)).bs F.bs) (H : Here F B g0 s bx (0 :: st) r ev) : Rn F (Good F B g0) 1 (atS s bx (0 :: st) kd r told ev) ⟨⟨F.ix l, 0, bx, st, kd⟩ :: r, told, ev, none⟩ :=
  run_row h H rfl fun kv z => by cases z
theorem run_unless1 {l : Nat} {v : Int} (hv : v ≠ 0) (h : Sub (s.put ch p (.unless l)).bs F.bs) (H : Here F B g0 s bx (v :: st) r ev) : Rn F (Good F B g0) 1 (atS s bx (v :: st) kd r told ev) (atS (s.put ch p (.unless l)) bx st kd r told ev) :=
  run_row h H (by rw [atS_put]; unfold exe; dsimp only; rw [if_neg hv]) fun kv z => by cases z
theorem run_count {b : Nat} (h : Sub (s.put ch p (.count b)).bs F.bs) (H : Here F B g0 s bx st r ev) : Rn F (Good F B g0) 1 (atS s bx st kd r told ev) (atS (s.put ch p (.count b)) (bx.set b (bx.getD b 0 - 1)) st kd r told ev) :=
  run_row h H (by rw [atS_put] <;> rfl) fun kv z => by cases z
theorem run_keep {b k : Nat} {v : Int} (h : Sub (s.put ch p (.keep b k)).bs F.bs) (H : Here F B g0 s bx (v :: st) r ev) : Rn F (Good F B g0) 1 (atS s bx (v :: st) kd r told ev) (atS (s.put ch p (.keep b k)) ((bx.set b v).set k (kd : Int)) st kd r told ev) :=
  run_row h H (by rw [atS_put] <;> rfl) fun kv z => by cases z
theorem run_rethrow {b k n : Nat} {v : Int} (h : Sub (s.put ch p (.rethrow b k)).bs F.bs) (H : Here F B g0 s bx st r ev) (e1 : bx.getD k 0 = (n : Int)) (e2 : bx.getD b 0 = v) (hn : n < 5) (hv : Rg v) : Rn F (Good F B g0) 1 (atS s bx st kd r told ev) (thrw F n v told (ev ++ [p]) ch bx r) := by
  have e3 : (bx.getD k 0).toNat = n := by rw [e1]; rfl
  refine run_row h H ?_ (fun kv z => ?_) (show 0 ≤ bx.getD k 0 by rw [e1]; omega)
  · unfold exe
    dsimp only
    rw [e3, e2]
  · unfold thrOf at z
    dsimp only at z
    rw [e3, e2] at z
    cases z
    exact ⟨hn, hv⟩
theorem run_ret {v : Int} (h : Sub (s.put ch p .ret).bs F.bs) (H : Here F B g0 s bx (v :: st) r ev) : Rn F (Good F B g0) 1 (atS s bx (v :: st) kd r told ev) (retd v told ev r) :=
  run_row h H rfl fun kv z => by cases z
theorem run_call {g n : Nat} (h : Sub (s.put ch p (.call g n)).bs F.bs) (H : Here F B g0 s bx st r ev) (hn : n ≤ st.length) : Rn F (Good F B g0) 1 (atS s bx st kd r told ev) ⟨⟨F.ix (F.ent.getD g 0), 0, (st.take n).reverse ++ List.replicate (B - n) 0, [], 0⟩ :: ⟨s.pre.length, s.cur.rows.length, bx, st.drop n, kd⟩ :: r, told, ev, none⟩ :=
  run_row h H (by unfold exe; dsimp only; rw [if_pos hn, H.len]) fun kv z => by cases z
theorem run_fall {l : Nat} {c : Bool} {t : Int} (h : Sub (s.beg l c t).bs F.bs) (H : Here F B g0 s bx [] r ev) : Rn F (Good F B g0) 1 (atS s bx [] kd r told ev) (atS (s.beg l c t) bx [] kd r told ev) :=
  Rn.one (good_last h H.len H.rest H.hot) (st1_fall h)
/-- the same state behind a row -/
theorem Here.put {i : Ins} (H : Here F B g0 s bx st r ev) {bx' st' : List Int} (hb : bx'.length = bx.length) (ht : (st'.length : Int) = st.length + i.chg) : Here F B g0 (s.put ch p i) bx' st' r ev :=
  ⟨hb.trans H.len, H.rest, H.hot, by show _ = s.tall + i.chg; rw [← H.tall]; exact ht⟩
theorem Here.mle {s' : Ms} {bx' : List Int} {ev' : List (List Nat)} (H : Here F B g0 s bx [] r ev) (m : MLe s s') (hb : bx'.length = bx.length) (he : ev' = [] → ev = []) : Here F B g0 s' bx' [] r ev' :=
  ⟨hb.trans H.len, by rw [m.goal]; exact H.rest, fun z => by rw [m.cold]; exact H.hot (he z), by
    have := H.tall
    rw [m.tall (by rw [← this]; rfl)]; rfl⟩
theorem Here.exk {s' : Ms} {st' : List Int} {n : Int} (H : Here F B g0 s bx st r ev) (k : ExKeep s s' n) (ht : (st'.length : Int) = st.length + n) : Here F B g0 s' bx st' r ev :=
  ⟨H.len, by rw [k.goal]; exact H.rest, by rw [k.cold]; exact H.hot, by rw [k.tall, ← H.tall]; exact ht⟩
end
/-- calls of functions beyond ix do what is meant -/
def CalRun (F : Cd1) (B g0 ix : Nat) (many : List Nat) (c : Cy) : Prop := ∀ (g : Nat) (a : List Int) (told : List Int) (cnt : Nat) (tr : List (List Nat)) (r : List Fr1), ix < g → many[g]? = some a.length → (∀ v ∈ a, Rg v) → RestOk F B g0 g r →
  ∃ e t n u, c g a told cnt tr = (e, t, n, u) ∧ ((∃ v, e = .ret v ∧ Rg v ∧ Rn F (Good F B g0) (KK * (n - cnt) + 5) ⟨⟨F.ix (F.ent.getD g 0), 0, a ++ List.replicate (B - a.length) 0, [], 0⟩ :: r, told, tr, none⟩ (retd v t u r)) ∨
    (∃ k v, e = .thr k v ∧ k < 5 ∧ Rg v ∧ Rn F (Good F B g0) (KK * (n - cnt) + 5) ⟨⟨F.ix (F.ent.getD g 0), 0, a ++ List.replicate (B - a.length) 0, [], 0⟩ :: r, told, tr, none⟩ (thrw F k v t u [] [] r)))
section
variable {F : Cd1} {B g0 : Nat}
theorem thrw_nil {k : Nat} {v : Int} {told : List Int} {ev : List (List Nat)} {f : Fr1} {r : List Fr1} {b : Blk} {w : Rc} {bx : List Int} (h1 : F.bs[f.k]? = some b) (h2 : b.rows[f.i]? = some w) : thrw F k v told ev [] bx (f :: r) = thrw F k v told ev w.ch f.bx r := by
  have : F.row f.k f.i = some w := by rw [row_of h1]; exact h2
  conv => lhs; unfold thrw
  simp only [List.find?_nil]
  rw [this]
end
end CL
namespace CL
open PySem L2
section
variable {F : Cd1} {B g0 : Nat} {ls : List Lv} {Ls : List Ly} {ch : List Ct} {p : List Nat} {c : Cy}
theorem here0 {s : Ms} {bx : List Int} {r : List Fr1} {tr : List (List Nat)} (ht : s.tall = 0) (hb : bx.length = B) (hr : RestOk F B g0 s.cur.goal r) (hc : tr = [] → s.cur.cold = false) : Here F B g0 s bx [] r tr := ⟨hb, hr, hc, by rw [ht]; rfl⟩
/-- an expression that faults, and what stands behind it -/
theorem land_flt {lo : Nat} {bx : List Int} {r : List Fr1} {q : Ms} {told : List Int} {cnt : Nat} {tr : List (List Nat)} {k : Nat} {v : Int} : Land F lo bx r q (leave Ls ch (.thr k v, ⟨bx.take 8, told, cnt, tr⟩)) (thrw F k v told tr ch bx r) := by
  rw [leave_thr]
  exact ⟨⟨bx, 0, BxOk.refl, rfl⟩, by intro z; cases z⟩
theorem corr_set {b : Nat} {e : Ex} (hB : 8 ≤ B) (hb8 : b < 8) (he : e.ok 0) (hz : e.sz ≤ 30) : Corr F B g0 1 (Rw.cm ls ch p (.set b e)) (Rw.et c p (.set b e)) Ls ch := by
  intro s bx kd r told cnt tr hs ht hb hp h8 hv hr hc
  rw [Rw.cm] at hs hp ⊢
  have H := here0 ht hb hr hc
  have k1 := Ex.keep ch p e s
  obtain ⟨r1, r2⟩ := Ex.run ch p e 0 s bx [] kd r told tr he (Sub.put.trans hs) hb hB hv hr hc H.tall
  rw [Rw.et]
  dsimp only
  cases q : e.ev (bx.take 8) with
  | ok v =>
    dsimp only
    rw [leave_on]
    refine ⟨_, Rn.le _ (r1 v q) (run_store hs (H.exk k1 rfl)) (by show e.sz + 1 ≤ 75 * (cnt - cnt + 1); omega), ⟨⟨_, _, BxOk.refl.set hb8, rfl⟩, by intro z; cases z⟩⟩
  | flt v => exact ⟨_, (r2 v q).mono (by rw [leave_thr]; show e.sz ≤ 75 * (cnt - cnt + 1); omega), land_flt⟩
theorem corr_out {e : Ex} (hB : 8 ≤ B) (he : e.ok 0) (hz : e.sz ≤ 30) : Corr F B g0 1 (Rw.cm ls ch p (.out e)) (Rw.et c p (.out e)) Ls ch := by
  intro s bx kd r told cnt tr hs ht hb hp h8 hv hr hc
  rw [Rw.cm] at hs hp ⊢
  have H := here0 ht hb hr hc
  have k1 := Ex.keep ch p e s
  obtain ⟨r1, r2⟩ := Ex.run ch p e 0 s bx [] kd r told tr he (Sub.put.trans hs) hb hB hv hr hc H.tall
  rw [Rw.et]
  dsimp only
  cases q : e.ev (bx.take 8) with
  | ok v =>
    dsimp only
    rw [leave_on]
    refine ⟨_, Rn.le _ (r1 v q) (run_out hs (H.exk k1 rfl)) (by show e.sz + 1 ≤ 75 * (cnt - cnt + 1); omega), ⟨⟨_, _, BxOk.refl, rfl⟩, by intro z; cases z⟩⟩
  | flt v => exact ⟨_, (r2 v q).mono (by rw [leave_thr]; show e.sz ≤ 75 * (cnt - cnt + 1); omega), land_flt⟩
theorem corr_thr {k : Nat} {e : Ex} (hB : 8 ≤ B) (hk : 1 ≤ k ∧ k ≤ 4) (he : e.ok 0) (hz : e.sz ≤ 30) : Corr F B g0 1 (Rw.cm ls ch p (.thr k e)) (Rw.et c p (.thr k e)) Ls ch := by
  intro s bx kd r told cnt tr hs ht hb hp h8 hv hr hc
  rw [Rw.cm] at hs hp ⊢
  have H := here0 ht hb hr hc
  have k1 := Ex.keep ch p e s
  obtain ⟨r1, r2⟩ := Ex.run ch p e 0 s bx [] kd r told tr he (Sub.put.trans hs) hb hB hv hr hc H.tall
  have fine := Ex.ev_ok (by simp; omega) hv e 0 he
  rw [Rw.et]
  dsimp only
  cases q : e.ev (bx.take 8) with
  | ok v =>
    rw [q] at fine
    refine ⟨_, Rn.le _ (r1 v q) (run_throw hs (H.exk k1 rfl) (by omega) fine) (by rw [leave_thr]; show e.sz + 1 ≤ 75 * (cnt - cnt + 1); omega), land_flt⟩
  | flt v => exact ⟨_, (r2 v q).mono (by rw [leave_thr]; show e.sz ≤ 75 * (cnt - cnt + 1); omega), land_flt⟩
theorem corr_ret {e : Ex} (hP : Par F B g0 ls Ls) (hB : 8 ≤ B) (he : e.ok 0) (hz : e.sz ≤ 30) : Corr F B g0 1 (Rw.cm ls ch p (.ret e)) (Rw.et c p (.ret e)) Ls ch := by
  intro s bx kd r told cnt tr hs ht hb hp h8 hv hr hc
  rw [Rw.cm] at hs hp ⊢
  have H := here0 ht hb hr hc
  have k1 := Ex.keep ch p e (s.boxs 1)
  generalize hs1e : (e.cm ch p (s.boxs 1)).put ch p (.store s.spare) = s1 at hs hp ⊢
  have m1 : MLe (s.boxs 1) s1 := by rw [← hs1e]; exact MLe.ex e rfl
  have m2 := outA_le ls s1 hP.lvM
  have sB3 : Sub (((outA ls s1).put ch p (.load s.spare)).put ch p .ret).bs F.bs := Sub.begN.trans hs
  have sB2 : Sub ((outA ls s1).put ch p (.load s.spare)).bs F.bs := Sub.put.trans sB3
  have sB1 : Sub (outA ls s1).bs F.bs := Sub.put.trans sB2
  have sB0 : Sub s1.bs F.bs := m2.sub.trans sB1
  have sBe : Sub ((e.cm ch p (s.boxs 1)).put ch p (.store s.spare)).bs F.bs := by rw [hs1e]; exact sB0
  obtain ⟨r1, r2⟩ := Ex.run ch p e 0 (s.boxs 1) bx [] kd r told tr he (Sub.put.trans sBe) hb hB hv hr hc H.tall
  have fine := Ex.ev_ok (by simp; omega) hv e 0 he
  rw [Rw.et]
  dsimp only
  cases q : e.ev (bx.take 8) with
  | flt v => exact ⟨_, (r2 v q).mono (by rw [leave_thr]; show e.sz ≤ 75 * (cnt - cnt + 1); omega), land_flt⟩
  | ok v =>
    rw [q] at fine
    dsimp only
    have st := Rn.le (e.sz + 1) (r1 v q) (run_store sBe (Here.exk (s := s.boxs 1) ⟨hb, hr, hc, H.tall⟩ k1 rfl)) (Nat.le_refl _)
    rw [hs1e] at st
    have hlow : s.spare < B := by
      have : (outA ls s1).spare ≤ B := hp
      have := m1.spare
      have h1 : (s.boxs 1).spare = s.spare + 1 := rfl
      have := m2.spare
      omega
    have bo : BxOk bx (bx.set s.spare v) (bx.take 8) s.spare := BxOk.refl.hi h8 (Nat.le_refl _)
    have sp1 : s.spare + 1 ≤ s1.spare := m1.spare
    have o := outA_run hP hB s1 (bx.set s.spare v) kd r told cnt tr sB1 (m1.tall ht) (by simpa using hb) hp (by omega) (by rw [bo.own]; exact hv) (by rw [m1.goal]; exact hr) (by rw [m1.cold]; exact hc)
    rw [bo.own] at o
    rw [leave_ret]
    cases qe : endsA Ls ⟨bx.take 8, told, cnt, tr⟩ with
    | error t =>
      rw [qe] at o
      obtain ⟨o1, o2, σ, o3, o4⟩ := o
      refine ⟨σ, Rn.le _ st o3 ?_, (o4 s1).off o1 bo (by omega)⟩
      show e.sz + 1 + 75 * (t.2.cnt - cnt) ≤ 75 * (t.2.cnt - cnt + 1)
      omega
    | ok sy =>
      rw [qe] at o
      obtain ⟨⟨o1, o2⟩, bx', kd', o3, o4⟩ := o
      have hget : bx'.getD s.spare 0 = v := by
        have := o3.keep s.spare h8 (by omega)
        rw [List.getD_eq_getElem?_getD, this, List.getElem?_set_self (by rw [hb]; exact hlow)]
        rfl
      have H1 : Here F B g0 (outA ls s1) bx' [] r sy.tr := (Here.mle (s := s1) (bx := bx.set s.spare v) (ev := tr) ⟨by simpa using hb, by rw [m1.goal]; exact hr, by rw [m1.cold]; exact hc, by rw [m1.tall ht]; rfl⟩ m2 o3.len o2)
      have l1 := run_load (kd := kd') (told := sy.told) sB2 H1
      have l2 := run_ret (kd := kd') (told := sy.told) (v := bx'.getD s.spare 0) (st := []) sB3 (H1.put rfl rfl)
      rw [hget] at l1 l2
      refine ⟨_, Rn.le _ st (Rn.trans o4 (Rn.trans l1 l2)) ?_, ⟨⟨bx', kd', ?_, rfl⟩, by intro z; cases z⟩⟩
      · show e.sz + 1 + (75 * (sy.cnt - cnt) + (1 + 1)) ≤ 75 * (sy.cnt - cnt + 1)
        omega
      · exact bo.trans o3 (by omega)
theorem corr_brk (hP : Par F B g0 ls Ls) (hB : 8 ≤ B) (hl : hasL Ls = true) : Corr F B g0 1 (Rw.cm ls ch p .brk) (Rw.et c p .brk) Ls ch := by
  intro s bx kd r told cnt tr hs ht hb hp h8 hv hr hc
  rw [Rw.cm] at hs hp ⊢
  have H := here0 ht hb hr hc
  have m2 := outL_le ls s hP.lvM
  have sB2 : Sub ((outL ls s).2.put ch p (.jump (outL ls s).1)).bs F.bs := Sub.begN.trans hs
  have sB1 : Sub (outL ls s).2.bs F.bs := Sub.put.trans sB2
  have o := outL_run hP hl hB s bx kd r told cnt tr sB1 ht hb hp h8 hv hr hc
  rw [Rw.et, leave_brk]
  cases qe : endsL Ls ⟨bx.take 8, told, cnt, tr⟩ with
  | error t =>
    rw [qe] at o
    obtain ⟨o1, o2, σ, o3, o4⟩ := o
    exact ⟨σ, o3.mono (Nat.mul_le_mul_left _ (by dsimp only; omega)), (o4 s).off o1 BxOk.refl (Nat.le_refl _)⟩
  | ok x =>
    rw [qe] at o
    obtain ⟨o0, ⟨o1, o2⟩, bx', kd', o3, o4⟩ := o
    have H1 : Here F B g0 (outL ls s).2 bx' [] r x.2.tr := H.mle m2 o3.len o2
    refine ⟨_, Rn.le _ o4 (run_jump sB2 H1) ?_, ⟨⟨bx', kd', o3, ?_⟩, by intro z; cases z⟩⟩
    · show 75 * (x.2.cnt - cnt) + 1 ≤ 75 * (x.2.cnt - cnt + 1)
      omega
    · unfold landSt
      dsimp only
      rw [o0]
theorem corr_call {ix : Nat} {many : List Nat} {b g : Nat} {es : List Ex} (hcal : CalRun F B g0 ix many c) (hge : CyGe c) (hB : 8 ≤ B) (hb8 : b < 8) (hg : ix < g) (hm : many[g]? = some es.length) (he : ∀ e ∈ es, e.ok 0) (hz : szs es ≤ 60) : Corr F B g0 1 (Rw.cm ls ch p (.call b g es)) (Rw.et c p (.call b g es)) Ls ch := by
  intro s bx kd r told cnt tr hs ht hb hp h8 hv hr hc
  rw [Rw.cm] at hs hp ⊢
  have H := here0 ht hb hr hc
  have k1 := cms_keep ch p es s
  have sB2 : Sub ((cms ch p es s).put ch p (.call g es.length)).bs F.bs := Sub.put.trans hs
  obtain ⟨r1, r2⟩ := cms_run ch p es s bx [] kd r told tr he (Sub.put.trans sB2) hb hB hv hr hc H.tall
  obtain ⟨v1, v2, v3⟩ := evs_ok (bx := bx.take 8) (by simp; omega) hv es he
  rw [Rw.et]
  dsimp only
  cases q : (evs (bx.take 8) es).2 with
  | some v => exact ⟨_, (r2 v q).mono (by rw [leave_thr]; show szs es ≤ 75 * (cnt - cnt + 1); omega), land_flt⟩
  | none =>
    dsimp only
    have hl := v3 q
    have H1 : Here F B g0 (cms ch p es s) bx ((evs (bx.take 8) es).1.reverse ++ []) r tr := H.exk k1 (by simp [hl])
    have hrow := sB2.row
    obtain ⟨bb, b1, b2, b3, b4⟩ := (Sub.put.trans sB2 : Sub (cms ch p es s).bs F.bs).blk
    rw [row_of b1] at hrow
    have rest' : RestOk F B g0 g (⟨(cms ch p es s).pre.length, (cms ch p es s).cur.rows.length, bx, [], kd⟩ :: r) := ⟨hb, bb, _, es.length, b1, hrow, rfl, by rw [b4, k1.goal]; exact hr⟩
    have step := Rn.le (szs es + 1) (r1 q) (run_call (kd := kd) (told := told) sB2 H1 (by simp [hl])) (Nat.le_refl _)
    have e1 : (((evs (bx.take 8) es).1.reverse ++ []).take es.length).reverse = (evs (bx.take 8) es).1 := by
      rw [List.append_nil, List.take_of_length_le (by simp [hl])]
      simp
    have e2 : ((evs (bx.take 8) es).1.reverse ++ []).drop es.length = [] := by simp [hl]
    rw [e1, e2] at step
    obtain ⟨e, t, n, u, e3, e4⟩ := hcal g (evs (bx.take 8) es).1 told cnt tr _ hg (by rw [hl]; exact hm) v1 rest'
    have ge := hge g (evs (bx.take 8) es).1 told cnt tr
    rw [e3] at ge ⊢
    dsimp only at ge
    rw [hl] at e4
    rcases e4 with ⟨v, rfl, hv', run⟩ | ⟨k, v, rfl, hk, hv', run⟩
    · dsimp only
      rw [leave_on]
      have H2 : Here F B g0 ((cms ch p es s).put ch p (.call g es.length)) bx [v] r u := ⟨hb, by show RestOk F B g0 (cms ch p es s).cur.goal r; rw [k1.goal]; exact hr, fun z => by
        show (cms ch p es s).cur.cold = false
        rw [k1.cold]
        obtain ⟨x, hx⟩ := ge.2
        rw [hx] at z
        exact hc (List.append_eq_nil_iff.mp z).1, by
        show _ = (cms ch p es s).tall + (1 - (es.length : Int))
        rw [k1.tall, ht]; simp; omega⟩
      have fin := run_store (kd := kd) (told := t) (st := []) hs H2
      have e5 : retd v t u (⟨(cms ch p es s).pre.length, (cms ch p es s).cur.rows.length, bx, [], kd⟩ :: r) = atS ((cms ch p es s).put ch p (.call g es.length)) bx [v] kd r t u := by
        rw [atS_put] <;> rfl
      rw [e5] at run
      refine ⟨_, Rn.le _ step (Rn.trans run fin) ?_, ⟨⟨_, _, BxOk.refl.set hb8, rfl⟩, by intro z; cases z⟩⟩
      show szs es + 1 + (75 * (n - cnt) + 5 + 1) ≤ 75 * (n - cnt + 1)
      omega
    · dsimp only
      have e6 : thrw F k v t u [] [] (⟨(cms ch p es s).pre.length, (cms ch p es s).cur.rows.length, bx, [], kd⟩ :: r) = thrw F k v t u ch bx r := thrw_nil (f := ⟨(cms ch p es s).pre.length, (cms ch p es s).cur.rows.length, bx, [], kd⟩) (w := ⟨.call g es.length, ch, p, (cms ch p es s).tall⟩) b1 hrow
      rw [e6] at run
      refine ⟨_, Rn.le _ step run ?_, land_flt⟩
      rw [leave_thr]
      show szs es + 1 + (75 * (n - cnt) + 5) ≤ 75 * (n - cnt + 1)
      omega
end
end CL
namespace CL
open PySem L2
section
variable {F : Cd1} {B g0 : Nat} {ls : List Lv} {Ls : List Ly} {ch : List Ct} {p : List Nat} {c : Cy}
theorem corr_nil {k : Nat} : Corr F B g0 0 (Bd.cm ls ch p k .nil) (Bd.et c p k .nil) Ls ch := by
  intro s bx kd r told cnt tr hs ht hb hp h8 hv hr hc
  rw [Bd.et, leave_on, Bd.cm]
  exact ⟨_, .nil, ⟨⟨bx, kd, BxOk.refl, rfl⟩, by intro z; cases z⟩⟩
theorem corr_cons {k : Nat} {rw_ : Rw} {b : Bd} (hP : Par F B g0 ls Ls) (hB : 8 ≤ B) (h1 : Corr F B g0 1 (rw_.cm ls ch (p ++ [k])) (rw_.et c (p ++ [k])) Ls ch) (h2 : Corr F B g0 0 (b.cm ls ch p (k + 1)) (b.et c p (k + 1)) Ls ch)
    (gr : ∀ s, Ge s (rw_.et c (p ++ [k]) s).2) (okr : ∀ s, SyOk s → SyOk (rw_.et c (p ++ [k]) s).2) (gb : ∀ s, Ge s (b.et c p (k + 1) s).2) : Corr F B g0 0 (Bd.cm ls ch p k (.cons rw_ b)) (Bd.et c p k (.cons rw_ b)) Ls ch := by
  intro s bx kd r told cnt tr hs ht hb hp h8 hv hr hc
  rw [Bd.cm] at hs hp ⊢
  rw [Bd.et]
  dsimp only
  have m1 := Rw.mle rw_ ls ch (p ++ [k]) s hP.lvM
  have m2 := Bd.mle b ls ch p (k + 1) (rw_.cm ls ch (p ++ [k]) s) hP.lvM
  have g1 := gr ⟨bx.take 8, told, cnt + 1, tr⟩
  have ok1 := okr _ (syOk_of (told := told) (cnt := cnt + 1) (tr := tr) hb hB hv)
  rcases h1.cases (kd := kd) (r := r) (told := told) (cnt := cnt + 1) (tr := tr) (m2.sub.trans hs) ht hb (Nat.le_trans m2.spare hp) h8 hv hr hc with ⟨sy, bx', kd', e1, e2, e3⟩ | ⟨n1, σ, e2, e3⟩
  · rw [e1] at g1 ok1 ⊢
    dsimp only at g1 ok1 ⊢
    have c1 := g1.cnt
    dsimp only at c1
    have gb' := gb sy
    obtain ⟨σ, h3, h4⟩ := h2 (rw_.cm ls ch (p ++ [k]) s) bx' kd' r sy.told sy.cnt sy.tr hs (m1.tall ht) (e2.len.trans hb) hp (Nat.le_trans h8 m1.spare) (by rw [e2.own]; exact ok1.rg) (by rw [m1.goal]; exact hr) (fun z => by rw [m1.cold]; exact hc (g1.nil z))
    rw [e2.own] at h3 h4
    have lg := (gb'.trans (leave_ge hP ch _)).cnt
    refine ⟨σ, Rn.le _ e3 h3 ?_, ?_⟩
    · rw [← Nat.mul_add]
      exact Nat.mul_le_mul_left _ (by
        show sy.cnt - (cnt + 1) + 1 + ((leave Ls ch (Bd.et c p (k + 1) b sy)).2.cnt - sy.cnt + 0) ≤ _
        omega)
    · by_cases z : (leave Ls ch (Bd.et c p (k + 1) b sy)).1 = .on
      · obtain ⟨⟨bx2, kd2, i1, i2⟩, i3⟩ := h4
        exact ⟨⟨bx2, kd2, e2.trans i1 m1.spare, i2⟩, i3⟩
      · exact h4.off z e2 m1.spare
  · have lg := (g1.trans (leave_ge hP ch _)).cnt
    generalize rw_.et c (p ++ [k]) ⟨bx.take 8, told, cnt + 1, tr⟩ = y at n1 e2 e3 lg ⊢
    obtain ⟨e, sy⟩ := y
    have hne : (leave Ls ch (e, sy)).1 ≠ .on := fun z => n1 (leave_isOn _ _ _ z)
    cases e with
    | on => exact absurd rfl n1
    | _ =>
      dsimp only at lg ⊢
      exact ⟨σ, e2.mono (Nat.mul_le_mul_left _ (by omega)), e3.off hne BxOk.refl (Nat.le_refl _)⟩
theorem corr_ifs {e : Ex} {a b : Bd} (nd : (F.bs.map (·.lab)).Nodup) (hP : Par F B g0 ls Ls) (hB : 8 ≤ B) (he : e.ok 0) (hz : e.sz ≤ 30) (ha : Corr F B g0 0 (a.cm ls ch (p ++ [0]) 0) (a.et c (p ++ [0]) 0) Ls ch) (hb' : Corr F B g0 0 (b.cm ls ch (p ++ [1]) 0) (b.et c (p ++ [1]) 0) Ls ch)
    (ga : ∀ s, Ge s (a.et c (p ++ [0]) 0 s).2) (gb : ∀ s, Ge s (b.et c (p ++ [1]) 0 s).2) : Corr F B g0 1 (Rw.cm ls ch p (.ifs e a b)) (Rw.et c p (.ifs e a b)) Ls ch := by
  intro s bx kd r told cnt tr hs ht hb hp h8 hv hr hc
  rw [Rw.cm] at hs hp ⊢
  try dsimp only at hs hp ⊢
  have H := here0 ht hb hr hc
  have k1 := Ex.keep ch p e (s.labs 2)
  generalize es1 : (e.cm ch p (s.labs 2)).put ch p (.unless s.lab) = s1 at hs hp ⊢
  have m1 : MLe s s1 := by rw [← es1]; exact MLe.labs.trans (MLe.ex e rfl)
  have m2 := Bd.mle a ls ch (p ++ [0]) 0 s1 hP.lvM
  generalize es2 : a.cm ls ch (p ++ [0]) 0 s1 = s2 at hs hp m2 ⊢
  generalize es3 : s2.put ch p (.jump (s.lab + 1)) = s3 at hs hp ⊢
  have m3 : MLe s2 s3 := by rw [← es3]; exact MLe.put0 rfl
  have m4 : MLe s3 (s3.beg s.lab s3.cur.cold 0) := MLe.beg
  generalize es4 : s3.beg s.lab s3.cur.cold 0 = s4 at hs hp m4 ⊢
  have m5 := Bd.mle b ls ch (p ++ [1]) 0 s4 hP.lvM
  generalize es5 : b.cm ls ch (p ++ [1]) 0 s4 = s5 at hs hp m5 ⊢
  have B5 : Sub s5.bs F.bs := Sub.beg.trans hs
  have B4 : Sub s4.bs F.bs := m5.sub.trans B5
  have B3 : Sub s3.bs F.bs := m4.sub.trans B4
  have B2 : Sub s2.bs F.bs := m3.sub.trans B3
  have B1 : Sub s1.bs F.bs := m2.sub.trans B2
  have Be : Sub ((e.cm ch p (s.labs 2)).put ch p (.unless s.lab)).bs F.bs := by rw [es1]; exact B1
  obtain ⟨r1, r2⟩ := Ex.run ch p e 0 (s.labs 2) bx [] kd r told tr he (Sub.put.trans Be) hb hB hv hr hc H.tall
  have s12 := m2.spare
  have s23 := m3.spare
  have s34 := m4.spare
  have s45 := m5.spare
  have s01 := m1.spare
  have hp5 : s5.spare ≤ B := hp
  rw [Rw.et]
  dsimp only
  cases q : e.ev (bx.take 8) with
  | flt v => exact ⟨_, (r2 v q).mono (by rw [leave_thr]; show e.sz ≤ 75 * (cnt - cnt + 1); omega), land_flt⟩
  | ok v =>
    dsimp only
    have HH : Here F B g0 (e.cm ch p (s.labs 2)) bx [v] r tr := Here.exk (s := s.labs 2) ⟨hb, hr, hc, H.tall⟩ k1 rfl
    by_cases hv0 : v = 0
    · subst hv0
      rw [if_neg (by simp)]
      have st := Rn.le (e.sz + 1) (r1 0 q) (run_unless0 (kd := kd) (told := told) Be HH) (Nat.le_refl _)
      have e4 : (⟨⟨F.ix s.lab, 0, bx, [], kd⟩ :: r, told, tr, none⟩ : M1) = atS s4 bx [] kd r told tr := by
        rw [← es4]
        exact atS_ix nd (by rw [es4]; exact B4)
      rw [e4] at st
      have m04 : MLe s s4 := ((m1.trans m2).trans m3).trans m4
      have gb1 := gb ⟨bx.take 8, told, cnt, tr⟩
      rcases hb'.cases (kd := kd) (r := r) (told := told) (cnt := cnt) (tr := tr) (by rw [es5]; exact B5) (m04.tall ht) hb (by rw [es5]; exact hp5) (Nat.le_trans h8 m04.spare) hv (by rw [m04.goal]; exact hr) (by rw [m04.cold]; exact hc) with ⟨sy, bx', kd', i1, i2, i3⟩ | ⟨n1, σ, i2, i3⟩
      · rw [i1] at gb1 ⊢
        rw [leave_on]
        rw [es5] at i3
        have c1 := gb1.cnt
        dsimp only at c1
        have m05 : MLe s s5 := m04.trans m5
        have H5 : Here F B g0 s5 bx' [] r sy.tr := H.mle m05 i2.len gb1.nil
        refine ⟨_, Rn.le _ st (Rn.trans i3 (run_fall hs H5)) ?_, ⟨⟨bx', kd', ⟨i2.len, i2.own, fun i a1 a2 => i2.keep i a1 (Nat.lt_of_lt_of_le a2 m04.spare)⟩, rfl⟩, by intro z; cases z⟩⟩
        show e.sz + 1 + (75 * (sy.cnt - cnt + 0) + 1) ≤ 75 * (sy.cnt - cnt + 1)
        omega
      · have hne : (leave Ls ch (b.et c (p ++ [1]) 0 ⟨bx.take 8, told, cnt, tr⟩)).1 ≠ .on := fun z => n1 (leave_isOn _ _ _ z)
        have lg := (gb1.trans (leave_ge hP ch _)).cnt
        refine ⟨σ, Rn.le _ st i2 ?_, i3.off hne BxOk.refl m04.spare⟩
        dsimp only at lg
        show e.sz + 1 + 75 * _ ≤ 75 * _
        omega
    · rw [if_pos hv0]
      have st := Rn.le (e.sz + 1) (r1 v q) (run_unless1 (kd := kd) (told := told) hv0 Be HH) (Nat.le_refl _)
      rw [es1] at st
      have ga1 := ga ⟨bx.take 8, told, cnt, tr⟩
      rcases ha.cases (kd := kd) (r := r) (told := told) (cnt := cnt) (tr := tr) (by rw [es2]; exact B2) (m1.tall ht) hb (by rw [es2]; omega) (by omega) hv (by rw [m1.goal]; exact hr) (by rw [m1.cold]; exact hc) with ⟨sy, bx', kd', i1, i2, i3⟩ | ⟨n1, σ, i2, i3⟩
      · rw [i1] at ga1 ⊢
        rw [leave_on]
        rw [es2] at i3
        have c1 := ga1.cnt
        dsimp only at c1
        have H2 : Here F B g0 s2 bx' [] r sy.tr := H.mle (m1.trans m2) i2.len ga1.nil
        have j := run_jump (kd := kd') (told := sy.told) (l := s.lab + 1) (ch := ch) (p := p) (by rw [es3]; exact B3) H2
        rw [atS_ix nd hs] at j
        refine ⟨_, Rn.le _ st (Rn.trans i3 j) ?_, ⟨⟨bx', kd', ⟨i2.len, i2.own, fun i a1 a2 => i2.keep i a1 (Nat.lt_of_lt_of_le a2 m1.spare)⟩, rfl⟩, by intro z; cases z⟩⟩
        show e.sz + 1 + (75 * (sy.cnt - cnt + 0) + 1) ≤ 75 * (sy.cnt - cnt + 1)
        omega
      · have hne : (leave Ls ch (a.et c (p ++ [0]) 0 ⟨bx.take 8, told, cnt, tr⟩)).1 ≠ .on := fun z => n1 (leave_isOn _ _ _ z)
        have lg := (ga1.trans (leave_ge hP ch _)).cnt
        refine ⟨σ, Rn.le _ st i2 ?_, i3.off hne BxOk.refl m1.spare⟩
        dsimp only at lg
        show e.sz + 1 + 75 * _ ≤ 75 * _
        omega
end
end CL
namespace CL
open PySem L2
section
variable {F : Cd1} {B g0 : Nat} {ls : List Lv} {Ls : List Ly} {ch : List Ct} {p : List Nat} {c : Cy}
theorem getD_set {bx : List Int} {k : Nat} {v : Int} (h : k < bx.length) : (bx.set k v).getD k 0 = v := by
  rw [List.getD_eq_getElem?_getD, List.getElem?_set_self h]; rfl
theorem getD_keep {a b sb : List Int} {lo k : Nat} (h : BxOk a b sb lo) (h1 : 8 ≤ k) (h2 : k < lo) : b.getD k 0 = a.getD k 0 := by
  rw [List.getD_eq_getElem?_getD, List.getD_eq_getElem?_getD, h.keep k h1 h2]
/-- the rounds of a loop -/
theorem rounds {s : Ms} {a : Bd} {t u v w z fin : Ms} {r : List Fr1} (nd : (F.bs.map (·.lab)).Nodup) (hP : Par F B g0 ls Ls) (hB : 8 ≤ B)
    (ha : Corr F B g0 0 (a.cm (.loop (s.lab + 1) :: ls) ch (p ++ [0]) 0) (a.et c (p ++ [0]) 0) (.loop (s.lab + 1) :: Ls) ch) (ga : ∀ s, Ge s (a.et c (p ++ [0]) 0 s).2) (oka : ∀ s, SyOk s → SyOk (a.et c (p ++ [0]) 0 s).2)
    (pre : Ms) (et : pre.beg s.lab s.cur.cold 0 = t) (eu : a.cm (.loop (s.lab + 1) :: ls) ch (p ++ [0]) 0 t = u) (ev : u.put ch p (.count s.spare) = v) (ew : v.put ch p (.load s.spare) = w) (ez : w.put ch p (.unless (s.lab + 1)) = z) (ef : (z.put ch p (.jump s.lab)).beg (s.lab + 1) s.cur.cold 0 = fin)
    (hs : Sub fin.bs F.bs) (hp : fin.spare ≤ B) (h8 : 8 ≤ s.spare) (tsp : t.spare = s.spare + 1) (tg : t.cur.goal = s.cur.goal) (hr : RestOk F B g0 s.cur.goal r) :
    ∀ (m : Nat) (bx : List Int) (kd : Nat) (told : List Int) (cnt : Nat) (tr : List (List Nat)), 1 ≤ m → bx.length = B → bx.getD s.spare 0 = (m : Int) → (∀ v ∈ bx.take 8, Rg v) → (tr = [] → s.cur.cold = false) →
      ∃ σ, Rn F (Good F B g0) (KK * ((leave Ls ch (loopT (fun s => a.et c (p ++ [0]) 0 s) m ⟨bx.take 8, told, cnt, tr⟩)).2.cnt - cnt) + 5 * m) (atS t bx [] kd r told tr) σ ∧ Land F s.spare bx r fin (leave Ls ch (loopT (fun s => a.et c (p ++ [0]) 0 s) m ⟨bx.take 8, told, cnt, tr⟩)) σ := by
  have tc : t.cur.cold = s.cur.cold := by rw [← et]; rfl
  have tt : t.tall = 0 := by rw [← et]; rfl
  have mu : MLe t u := by rw [← eu]; exact Bd.mle a _ ch (p ++ [0]) 0 t hP.lvM.loop
  have Bz' : Sub (z.put ch p (.jump s.lab)).bs F.bs := by rw [← ef] at hs; exact Sub.beg.trans hs
  have Bz : Sub (w.put ch p (.unless (s.lab + 1))).bs F.bs := by rw [ez]; exact Sub.put.trans Bz'
  have Bw : Sub (v.put ch p (.load s.spare)).bs F.bs := by rw [ew]; exact Sub.put.trans Bz
  have Bv : Sub (u.put ch p (.count s.spare)).bs F.bs := by rw [ev]; exact Sub.put.trans Bw
  have Bu : Sub u.bs F.bs := Sub.put.trans Bv
  have usp : u.spare ≤ B := by
    have : fin.spare = u.spare := by rw [← ef, ← ez, ← ew, ← ev]; rfl
    omega
  have tsu := mu.spare
  have hfin : ∀ (bx : List Int) (kd : Nat) (told : List Int) (tr : List (List Nat)), (⟨⟨F.ix (s.lab + 1), 0, bx, [], kd⟩ :: r, told, tr, none⟩ : M1) = atS fin bx [] kd r told tr := fun bx kd told tr => by
    rw [← ef]
    exact atS_ix nd (by rw [ef]; exact hs)
  have ht0 : ∀ (bx : List Int) (kd : Nat) (told : List Int) (tr : List (List Nat)), (⟨⟨F.ix s.lab, 0, bx, [], kd⟩ :: r, told, tr, none⟩ : M1) = atS t bx [] kd r told tr := fun bx kd told tr => by
    rw [← et]
    exact atS_ix nd (by rw [et]; exact mu.sub.trans Bu)
  intro m
  induction m with
  | zero => intro bx kd told cnt tr h1; omega
  | succ m ih =>
    intro bx kd told cnt tr _ hb hbox hv hc
    have g1 := ga ⟨bx.take 8, told, cnt, tr⟩
    have ok1 := oka _ (syOk_of (told := told) (cnt := cnt) (tr := tr) hb hB hv)
    have Ht : Here F B g0 t bx [] r tr := ⟨hb, by rw [tg]; exact hr, by rw [tc]; exact hc, by rw [tt]; rfl⟩
    rw [loopT]
    rcases ha.cases (kd := kd) (r := r) (told := told) (cnt := cnt) (tr := tr) (by rw [eu]; exact Bu) tt hb (by rw [eu]; exact usp) (by omega) hv (by rw [tg]; exact hr) (by rw [tc]; exact hc) with ⟨sy, bx', kd', i1, i2, i3⟩ | ⟨n1, σ, i2, i3⟩
    · rw [i1] at g1 ok1 ⊢
      rw [eu] at i3
      dsimp only at g1 ok1 ⊢
      have c1 := g1.cnt
      dsimp only at c1
      have hb' : bx'.length = B := i2.len.trans hb
      have gk : bx'.getD s.spare 0 = (m : Int) + 1 := by
        rw [getD_keep i2 h8 (by omega), hbox]; omega
      have Hu : Here F B g0 u bx' [] r sy.tr := Ht.mle mu i2.len g1.nil
      have q1 := run_count (kd := kd') (told := sy.told) Bv Hu
      have e1 : bx'.getD s.spare 0 - 1 = (m : Int) := by rw [gk]; omega
      rw [e1, ev] at q1
      have bo : BxOk bx (bx'.set s.spare (m : Int)) sy.bx s.spare := BxOk.hi ⟨i2.len, i2.own, fun i a1 a2 => i2.keep i a1 (by omega)⟩ h8 (Nat.le_refl _)
      have Hv : Here F B g0 v (bx'.set s.spare (m : Int)) [] r sy.tr := by rw [← ev]; exact Hu.put (by simp) rfl
      have q2 := run_load (kd := kd') (told := sy.told) Bw Hv
      rw [getD_set (by omega), ew] at q2
      have Hw : Here F B g0 w (bx'.set s.spare (m : Int)) [(m : Int)] r sy.tr := by rw [← ew]; exact Hv.put rfl rfl
      cases m with
      | zero =>
        have q3 := run_unless0 (kd := kd') (told := sy.told) (st := []) Bz Hw
        rw [hfin] at q3
        rw [loopT, leave_on]
        refine ⟨_, Rn.le _ i3 (Rn.trans q1 (Rn.trans q2 q3)) ?_, ⟨⟨_, kd', bo, rfl⟩, by intro z; cases z⟩⟩
        show 75 * (sy.cnt - cnt + 0) + (1 + (1 + 1)) ≤ 75 * (sy.cnt - cnt) + 5 * 1
        omega
      | succ m =>
        have q3 := run_unless1 (kd := kd') (told := sy.told) (st := []) (v := ((m + 1 : Nat) : Int)) (by omega) Bz Hw
        rw [ez] at q3
        have Hz : Here F B g0 z (bx'.set s.spare ((m + 1 : Nat) : Int)) [] r sy.tr := by rw [← ez]; exact Hw.put rfl rfl
        have q4 := run_jump (kd := kd') (told := sy.told) Bz' Hz
        rw [ht0] at q4
        obtain ⟨σ, i4, i5⟩ := ih (bx'.set s.spare ((m + 1 : Nat) : Int)) kd' sy.told sy.cnt sy.tr (by omega) (by simpa using hb') (getD_set (by omega)) (by rw [bo.own]; exact ok1.rg) (fun z => hc (g1.nil z))
        rw [bo.own] at i4 i5
        have lg : sy.cnt ≤ (leave Ls ch (loopT (fun s => a.et c (p ++ [0]) 0 s) (m + 1) sy)).2.cnt := ((loopT_ge ga (m + 1) sy).trans (leave_ge hP ch _)).cnt
        refine ⟨σ, Rn.le _ i3 (Rn.trans q1 (Rn.trans q2 (Rn.trans q3 (Rn.trans q4 i4)))) ?_, ?_⟩
        · change 75 * (sy.cnt - cnt + 0) + (1 + (1 + (1 + (1 + (75 * ((leave Ls ch (loopT (fun s => a.et c (p ++ [0]) 0 s) (m + 1) sy)).2.cnt - sy.cnt) + 5 * (m + 1)))))) ≤ 75 * ((leave Ls ch (loopT (fun s => a.et c (p ++ [0]) 0 s) (m + 1) sy)).2.cnt - cnt) + 5 * (m + 1 + 1)
          omega
        · change Land F s.spare bx r fin (leave Ls ch (loopT (fun s => a.et c (p ++ [0]) 0 s) (m + 1) sy)) σ
          by_cases z : (leave Ls ch (loopT (fun s => a.et c (p ++ [0]) 0 s) (m + 1) sy)).1 = .on
          · obtain ⟨⟨bx2, kd2, j1, j2⟩, j3⟩ := i5
            exact ⟨⟨bx2, kd2, bo.trans j1 (Nat.le_refl _), j2⟩, j3⟩
          · exact i5.off z bo (Nat.le_refl _)
    · have lg := (g1.trans (leave_ge (Par.loop (a := s.lab + 1) hP) ch _)).cnt
      generalize a.et c (p ++ [0]) 0 ⟨bx.take 8, told, cnt, tr⟩ = y at n1 i2 i3 lg ⊢
      obtain ⟨e, sy⟩ := y
      cases e with
      | on => exact absurd rfl n1
      | brk =>
        change Land F t.spare bx r _ (.lab (s.lab + 1), sy) σ at i3
        change Rn F _ (KK * (sy.cnt - cnt + 0)) _ σ at i2
        obtain ⟨⟨bx2, kd2, j1, j2⟩, j3⟩ := i3
        subst j2
        dsimp only
        rw [leave_on]
        refine ⟨_, i2.mono ?_, ⟨⟨bx2, kd2, ⟨j1.len, j1.own, fun i a1 a2 => j1.keep i a1 (by omega)⟩, ?_⟩, by intro z; cases z⟩⟩
        · show 75 * (sy.cnt - cnt + 0) ≤ 75 * (sy.cnt - cnt) + 5 * (m + 1)
          omega
        · exact hfin bx2 kd2 sy.told sy.tr
      | ret v =>
        change Land F t.spare bx r _ (leave Ls ch (.ret v, sy)) σ at i3
        change Rn F _ (KK * ((leave Ls ch (.ret v, sy)).2.cnt - cnt + 0)) _ σ at i2
        dsimp only
        exact ⟨σ, i2.mono (by show 75 * _ ≤ 75 * _ + 5 * (m + 1); omega), i3.off (fun z => nomatch (leave_isOn _ _ _ z)) BxOk.refl (by omega)⟩
      | thr k v =>
        rw [leave_thr] at i2 i3
        dsimp only
        rw [leave_thr]
        exact ⟨σ, i2.mono (by show 75 * _ ≤ 75 * _ + 5 * (m + 1); omega), i3.off (fun z => nomatch z) BxOk.refl (by omega)⟩
theorem corr_loop {n : Nat} {a : Bd} (nd : (F.bs.map (·.lab)).Nodup) (hP : Par F B g0 ls Ls) (hB : 8 ≤ B) (hn : 1 ≤ n ∧ n ≤ 4)
    (ha : ∀ l, Corr F B g0 0 (a.cm (.loop l :: ls) ch (p ++ [0]) 0) (a.et c (p ++ [0]) 0) (.loop l :: Ls) ch) (ga : ∀ s, Ge s (a.et c (p ++ [0]) 0 s).2) (oka : ∀ s, SyOk s → SyOk (a.et c (p ++ [0]) 0 s).2) :
    Corr F B g0 1 (Rw.cm ls ch p (.loop n a)) (Rw.et c p (.loop n a)) Ls ch := by
  intro s bx kd r told cnt tr hs ht hb hp h8 hv hr hc
  rw [Rw.cm] at hs hp ⊢
  try dsimp only at hs hp ⊢
  rw [Rw.et]
  have H := here0 ht hb hr hc
  generalize e1 : ((s.boxs 1).labs 2).put ch p (.push n) = s1 at hs hp ⊢
  generalize e2 : s1.put ch p (.store s.spare) = s2 at hs hp ⊢
  generalize e3 : s2.beg s.lab s.cur.cold 0 = t at hs hp ⊢
  generalize e4 : a.cm (.loop (s.lab + 1) :: ls) ch (p ++ [0]) 0 t = u at hs hp ⊢
  generalize e5 : u.put ch p (.count s.spare) = v at hs hp ⊢
  generalize e6 : v.put ch p (.load s.spare) = w at hs hp ⊢
  generalize e7 : w.put ch p (.unless (s.lab + 1)) = z at hs hp ⊢
  generalize e8 : (z.put ch p (.jump s.lab)).beg (s.lab + 1) s.cur.cold 0 = fin at hs hp ⊢
  have mu : MLe t u := by rw [← e4]; exact Bd.mle a _ ch (p ++ [0]) 0 t hP.lvM.loop
  have Bu : Sub u.bs F.bs := by
    rw [← e8, ← e7, ← e6, ← e5] at hs
    exact ((((Sub.put.trans Sub.put).trans Sub.put).trans Sub.put).trans Sub.beg).trans hs
  have Bt : Sub t.bs F.bs := mu.sub.trans Bu
  have B2 : Sub (s2.beg s.lab s.cur.cold 0).bs F.bs := by rw [e3]; exact Bt
  have B1 : Sub (s1.put ch p (.store s.spare)).bs F.bs := by rw [e2]; exact Sub.beg.trans B2
  have B0 : Sub (((s.boxs 1).labs 2).put ch p (.push n)).bs F.bs := by rw [e1]; exact Sub.put.trans B1
  have tsp : t.spare = s.spare + 1 := by rw [← e3, ← e2, ← e1]; rfl
  have tg : t.cur.goal = s.cur.goal := by rw [← e3, ← e2, ← e1]; rfl
  have fsp : fin.spare = u.spare := by rw [← e8, ← e7, ← e6, ← e5]; rfl
  have tsu := mu.spare
  have H0 : Here F B g0 ((s.boxs 1).labs 2) bx [] r tr := ⟨hb, hr, hc, H.tall⟩
  have q1 := run_push (kd := kd) (told := told) B0 H0
  rw [e1] at q1
  have H1 : Here F B g0 s1 bx [(n : Int)] r tr := by rw [← e1]; exact H0.put rfl rfl
  have q2 := run_store (kd := kd) (told := told) (st := []) B1 H1
  rw [e2] at q2
  have H2 : Here F B g0 s2 (bx.set s.spare (n : Int)) [] r tr := by rw [← e2]; exact H1.put (by simp) rfl
  have q3 := run_fall (kd := kd) (told := told) B2 H2
  rw [e3] at q3
  have bo : BxOk bx (bx.set s.spare (n : Int)) (bx.take 8) s.spare := BxOk.refl.hi h8 (Nat.le_refl _)
  obtain ⟨σ, i1, i2⟩ := rounds (s := s) (a := a) nd hP hB (ha _) ga oka s2 e3 e4 e5 e6 e7 e8 hs hp h8 tsp tg hr n (bx.set s.spare (n : Int)) kd told cnt tr hn.1 (by simpa using hb) (getD_set (by omega)) (by rw [bo.own]; exact hv) hc
  rw [bo.own] at i1 i2
  refine ⟨σ, Rn.le _ q1 (Rn.trans q2 (Rn.trans q3 i1)) ?_, ?_⟩
  · generalize (leave Ls ch (loopT (fun s => a.et c (p ++ [0]) 0 s) n ⟨bx.take 8, told, cnt, tr⟩)).2.cnt = N
    show 1 + (1 + (1 + (75 * (N - cnt) + 5 * n))) ≤ 75 * (N - cnt + 1)
    omega
  · by_cases zz : (leave Ls ch (loopT (fun s => a.et c (p ++ [0]) 0 s) n ⟨bx.take 8, told, cnt, tr⟩)).1 = .on
    · obtain ⟨⟨bx2, kd2, j1, j2⟩, j3⟩ := i2
      exact ⟨⟨bx2, kd2, bo.trans j1 (Nat.le_refl _), j2⟩, j3⟩
    · exact i2.off zz bo (Nat.le_refl _)
end
end CL
namespace CL
open PySem L2
def CyThr (c : Cy) : Prop := ∀ g a t n u, isThr (c g a t n u).1 = true → (c g a t n u).2.2.2 ≠ []
theorem hit_ne {s : Sy} {p : List Nat} : (s.hit p).tr ≠ [] := by simp [Sy.hit]
theorem loopT_thr {f : Sy → Ed × Sy} (h : ∀ s, isThr (f s).1 = true → (f s).2.tr ≠ []) : ∀ (n : Nat) (s : Sy), isThr (loopT f n s).1 = true → (loopT f n s).2.tr ≠ []
  | 0, s => fun z => nomatch z
  | n + 1, s => by
    unfold loopT
    have h1 := h s
    split
    · rename_i s' e; exact loopT_thr h n s'
    · rename_i s' e; exact fun z => nomatch z
    · rename_i e' s' _ _ e; rw [e] at h1; exact h1
mutual
theorem Rw.thr_tr {c : Cy} (hc : CyThr c) : ∀ (r : Rw) (p : List Nat) (s : Sy), isThr (r.et c p s).1 = true → (r.et c p s).2.tr ≠ []
  | .set b e, p, s => by unfold Rw.et; split <;> first | exact fun _ => hit_ne | exact fun z => nomatch z
  | .out e, p, s => by unfold Rw.et; split <;> first | exact fun _ => hit_ne | exact fun z => nomatch z
  | .thr k e, p, s => by unfold Rw.et; split <;> exact fun _ => hit_ne
  | .call b g es, p, s => by
    unfold Rw.et
    split
    · exact fun _ => hit_ne
    · have h := hc g (evs s.bx es).1 s.told s.cnt s.tr
      split
      · exact fun z => nomatch z
      · rename_i e' t n u _ e; rw [e] at h; exact h
  | .ifs e a b, p, s => by
    unfold Rw.et
    split
    · split
      · exact Bd.thr_tr hc a _ 0 s
      · exact Bd.thr_tr hc b _ 0 s
    · exact fun _ => hit_ne
  | .loop n a, p, s => by unfold Rw.et; exact loopT_thr (fun s => Bd.thr_tr hc a _ 0 s) n s
  | .brk, p, s => by unfold Rw.et; exact fun z => nomatch z
  | .ret e, p, s => by unfold Rw.et; split <;> first | exact fun _ => hit_ne | exact fun z => nomatch z
  | .tri a hs l, p, s => by
    unfold Rw.et
    exact Lo.thr_tr hc l p _ _ (Hs.thr_tr hc hs p 1 _ (Bd.thr_tr hc a _ 0 s))
theorem Bd.thr_tr {c : Cy} (hc : CyThr c) : ∀ (b : Bd) (p : List Nat) (k : Nat) (s : Sy), isThr (b.et c p k s).1 = true → (b.et c p k s).2.tr ≠ []
  | .nil, p, k, s => by unfold Bd.et; exact fun z => nomatch z
  | .cons r b, p, k, s => by
    unfold Bd.et
    have h1 := Rw.thr_tr hc r (p ++ [k]) ⟨s.bx, s.told, s.cnt + 1, s.tr⟩
    split
    · rename_i s' e; exact Bd.thr_tr hc b p (k + 1) s'
    · rename_i e' s' _ e; rw [e] at h1; exact h1
theorem Hs.thr_tr {c : Cy} (hc : CyThr c) : ∀ (hs : Hs) (p : List Nat) (j : Nat) (x : Ed × Sy), (isThr x.1 = true → x.2.tr ≠ []) → isThr (hs.et c p j x).1 = true → (hs.et c p j x).2.tr ≠ []
  | .nil, p, j, x, h => by unfold Hs.et; exact h
  | .cons k b a hs, p, j, x, h => by
    unfold Hs.et
    split
    · split
      · exact Bd.thr_tr hc a _ 0 _
      · exact Hs.thr_tr hc hs p (j + 1) x h
    · exact h
theorem Lo.thr_tr {c : Cy} (hc : CyThr c) : ∀ (l : Lo) (p : List Nat) (j : Nat) (x : Ed × Sy), (isThr x.1 = true → x.2.tr ≠ []) → isThr (l.et c p j x).1 = true → (l.et c p j x).2.tr ≠ []
  | .non, p, j, x, h => by unfold Lo.et; exact h
  | .som a, p, j, x, h => by
    unfold Lo.et
    have h1 := Bd.thr_tr hc a (p ++ [j]) 0 x.2
    split
    · intro z
      dsimp only at z ⊢
      rw [if_pos z]
      exact hit_ne
    · rename_i e' s' _ e; rw [e] at h1; exact h1
end
section
variable {F : Cd1} {B g0 : Nat}
theorem thrw_some {k : Nat} {v : Int} {told : List Int} {ev : List (List Nat)} {ch : List Ct} {bx : List Int} {r : List Fr1} {ct : Ct} (h : ch.find? (fitC k) = some ct) : thrw F k v told ev ch bx r = ⟨⟨F.ix ct.2.1, 0, bx, [v], k⟩ :: r, told, ev, none⟩ := by
  cases r <;> (unfold thrw; rw [h])
theorem thrw_find {k : Nat} {v : Int} {told : List Int} {ev : List (List Nat)} {ch ch' : List Ct} {bx : List Int} {r : List Fr1} (h : ch.find? (fitC k) = ch'.find? (fitC k)) : thrw F k v told ev ch bx r = thrw F k v told ev ch' bx r := by
  cases r <;> (conv => lhs; unfold thrw) <;> (conv => rhs; unfold thrw) <;> rw [h]
end
/-- where a try lands: at its end, label A, or elsewhere -/
def triT (A : Nat) (Ls : List Ly) (ch : List Ct) (z : Ed × Sy) : Tg1 × Sy := match z.1 with
  | .on => (.lab A, z.2)
  | _ => leave Ls ch z
theorem triT_off {A : Nat} {Ls : List Ly} {ch : List Ct} {z : Ed × Sy} (h : z.1 ≠ .on) : triT A Ls ch z = leave Ls ch z := by
  obtain ⟨e, s⟩ := z
  cases e with
  | on => exact absurd rfl h
  | _ => rfl
/-- the end's body -/
def Lo.bd (c : Cy) (p : List Nat) (j : Nat) : Lo → Sy → Ed × Sy
  | .non => fun s => (.on, s)
  | .som a => fun s => a.et c (p ++ [j]) 0 s
section
variable {F : Cd1} {B g0 : Nat} {ls : List Lv} {Ls : List Ly} {ch : List Ct} {p : List Nat} {c : Cy}
/-- what is fixed of a try: its end l, the label A behind it, the label cl of the end for what was thrown, its code from u on -/
structure TriX (F : Cd1) (B g0 : Nat) (ls : List Lv) (Ls : List Ly) (ch : List Ct) (p : List Nat) (c : Cy) (l : Lo) (j A cl lo g : Nat) (u : Ms) (r : List Fr1) : Prop where
  par : Par F B g0 ls Ls
  nd : (F.bs.map (·.lab)).Nodup
  hB : 8 ≤ B
  h8 : 8 ≤ lo
  corr : Corr F B g0 0 (l.cm ls ch (p ++ [j])) (l.bd c p j) Ls ch
  ge : ∀ s, Ge s (l.bd c p j s).2
  ok : ∀ s, SyOk s → SyOk (l.bd c p j s).2
  mle : ∀ s, MLe s (l.cm ls ch (p ++ [j]) s)
  usp : lo ≤ u.spare
  ug : u.cur.goal = g
  rest : RestOk F B g0 g r
  cln : l.isS = true → Sub (((l.cm ls ch (p ++ [j])) (((u.beg cl true 1).boxs 2).put ch p (.keep u.spare (u.spare + 1)))).put ch p (.rethrow u.spare (u.spare + 1))).bs F.bs
  cls : l.isS = true → ((l.cm ls ch (p ++ [j])) (((u.beg cl true 1).boxs 2).put ch p (.keep u.spare (u.spare + 1)))).spare ≤ B
abbrev innerOf (l : Lo) (cl : Nat) (ch : List Ct) : List Ct := if l.isS then (none, cl, true) :: ch else ch
abbrev LsOf (l : Lo) (c : Cy) (p : List Nat) (j : Nat) (ch : List Ct) (Ls : List Ly) : List Ly := if l.isS then .fin (l.bd c p j) ch :: Ls else Ls
/-- behind the body, or a handler: the end is done, and it goes on as it went before -/
theorem fin_run {l : Lo} {j A cl lo g : Nat} {u : Ms} {r : List Fr1} (T : TriX F B g0 ls Ls ch p c l j A cl lo g u r) {q : Ms} {bx0 : List Int} {x : Ed × Sy} {σ1 : M1} (hb0 : bx0.length = B) (hsy : SyOk x.2) (hx : Ed.ok (hasL Ls) x.1) (hthr : isThr x.1 = true → x.2.tr ≠ []) (hcold : x.2.tr = [] → q.cur.cold = false) (qg : q.cur.goal = g) (qt : q.tall = 0) (qs : lo ≤ q.spare)
    (hsub : Sub ((l.cm ls ch (p ++ [j]) q).put (innerOf l cl ch) p (.jump A)).bs F.bs) (hsp : (l.cm ls ch (p ++ [j]) q).spare ≤ B)
    (h : Land F lo bx0 r q (leave (LsOf l c p j ch Ls) (innerOf l cl ch) x) σ1) :
    ∃ σ, Rn F (Good F B g0) (KK * ((leave Ls ch (l.et c p j x)).2.cnt - (leave (LsOf l c p j ch Ls) (innerOf l cl ch) x).2.cnt) + 6) σ1 σ ∧ ∀ q', Land F lo bx0 r q' (triT A Ls ch (l.et c p j x)) σ := by
  obtain ⟨e, sy⟩ := x
  have m1 := T.mle q
  have B0 : Sub (l.cm ls ch (p ++ [j]) q).bs F.bs := Sub.put.trans hsub
  cases e with
  | on =>
    rw [leave_on] at h ⊢
    obtain ⟨bx1, kd1, h1, rfl⟩ := h.on
    have hb1 : bx1.length = B := h1.len.trans hb0
    have g1 := T.ge sy
    rcases T.corr.cases (kd := kd1) (r := r) (told := sy.told) (cnt := sy.cnt) (tr := sy.tr) B0 qt hb1 hsp (Nat.le_trans T.h8 qs) (by rw [h1.own]; exact hsy.rg) (by rw [qg]; exact T.rest) hcold with ⟨sy2, bx', kd', i1, i2, i3⟩ | ⟨n1, σ, i2, i3⟩
    · rw [h1.own] at i1
      have i1' : l.bd c p j sy = (.on, sy2) := i1
      have e1 : l.et c p j (.on, sy) = (.on, sy2) := by
        cases l with
        | non => cases i1'; rw [Lo.et]
        | som a =>
          rw [Lo.et]
          have : a.et c (p ++ [j]) 0 sy = (.on, sy2) := i1'
          dsimp only
          rw [this]
          rfl
      rw [i1'] at g1
      rw [e1, leave_on]
      have H1 : Here F B g0 (l.cm ls ch (p ++ [j]) q) bx' [] r sy2.tr := ⟨i2.len.trans hb1, by rw [m1.goal, qg]; exact T.rest, fun z => by rw [m1.cold]; exact hcold (g1.nil z), by rw [m1.tall qt]; rfl⟩
      refine ⟨_, Rn.le _ i3 (run_jump hsub H1) ?_, fun q' => ⟨⟨bx', kd', h1.trans i2 qs, rfl⟩, by intro z; cases z⟩⟩
      show 75 * (sy2.cnt - sy.cnt + 0) + 1 ≤ 75 * (sy2.cnt - sy.cnt) + 6
      omega
    · rw [h1.own] at n1 i2 i3
      change (l.bd c p j sy).1 ≠ .on at n1
      change Rn F _ (KK * ((leave Ls ch (l.bd c p j sy)).2.cnt - sy.cnt + 0)) _ _ at i2
      change Land F q.spare bx1 r _ (leave Ls ch (l.bd c p j sy)) σ at i3
      have e1 : l.et c p j (.on, sy) = l.bd c p j sy := by
        cases l with
        | non => exact absurd rfl n1
        | som a =>
          rw [Lo.et]
          change (a.et c (p ++ [j]) 0 sy).1 ≠ .on at n1
          show (match a.et c (p ++ [j]) 0 sy with | (.on, s') => _ | (e, s') => _) = a.et c (p ++ [j]) 0 sy
          generalize a.et c (p ++ [j]) 0 sy = y at n1 ⊢
          obtain ⟨e, s'⟩ := y
          cases e with
          | on => exact absurd rfl n1
          | _ => rfl
      rw [e1, triT_off n1]
      exact ⟨σ, i2.mono (by dsimp only; show 75 * _ ≤ 75 * _ + 6; omega), fun q' => i3.off (fun z => n1 (leave_isOn _ _ _ z)) h1 qs⟩
  | brk =>
    have e1 : leave (LsOf l c p j ch Ls) (innerOf l cl ch) (.brk, sy) = leave Ls ch (l.et c p j (.brk, sy)) ∧ (l.et c p j (.brk, sy)).1 ≠ .on := by
      cases l with
      | non =>
        rw [Lo.et]
        exact ⟨rfl, by intro z; cases z⟩
      | som a =>
        rw [Lo.et]
        show leave Ls ch (match a.et c (p ++ [j]) 0 sy with | (.on, s) => (.brk, s) | y => y) = leave Ls ch (match a.et c (p ++ [j]) 0 sy with | (.on, s') => ((.brk : Ed), if isThr (.brk) = true then s'.hit p else s') | (e, s') => (e, s')) ∧ (match a.et c (p ++ [j]) 0 sy with | (.on, s') => ((.brk : Ed), if isThr (.brk) = true then s'.hit p else s') | (e, s') => (e, s')).1 ≠ .on
        generalize a.et c (p ++ [j]) 0 sy = y
        obtain ⟨e, s'⟩ := y
        cases e <;> exact ⟨rfl, by intro z; cases z⟩
    rw [e1.1] at h ⊢
    rw [triT_off e1.2]
    exact ⟨σ1, .nil, fun q' => h.off (fun z => e1.2 (leave_isOn _ _ _ z)) BxOk.refl (Nat.le_refl _)⟩
  | ret v =>
    have e1 : leave (LsOf l c p j ch Ls) (innerOf l cl ch) (.ret v, sy) = leave Ls ch (l.et c p j (.ret v, sy)) ∧ (l.et c p j (.ret v, sy)).1 ≠ .on := by
      cases l with
      | non =>
        rw [Lo.et]
        exact ⟨rfl, by intro z; cases z⟩
      | som a =>
        rw [Lo.et]
        show leave Ls ch (match a.et c (p ++ [j]) 0 sy with | (.on, s) => (.ret v, s) | y => y) = leave Ls ch (match a.et c (p ++ [j]) 0 sy with | (.on, s') => ((.ret v : Ed), if isThr (.ret v) = true then s'.hit p else s') | (e, s') => (e, s')) ∧ (match a.et c (p ++ [j]) 0 sy with | (.on, s') => ((.ret v : Ed), if isThr (.ret v) = true then s'.hit p else s') | (e, s') => (e, s')).1 ≠ .on
        generalize a.et c (p ++ [j]) 0 sy = y
        obtain ⟨e, s'⟩ := y
        cases e <;> exact ⟨rfl, by intro z; cases z⟩
    rw [e1.1] at h ⊢
    rw [triT_off e1.2]
    exact ⟨σ1, .nil, fun q' => h.off (fun z => e1.2 (leave_isOn _ _ _ z)) BxOk.refl (Nat.le_refl _)⟩
  | thr k v =>
    rw [leave_thr] at h ⊢
    cases hl : l with
    | non =>
      subst hl
      rw [Lo.et, leave_thr, triT_off (by intro z; cases z), leave_thr]
      exact ⟨σ1, .nil, fun q' => h.off (by intro z; cases z) BxOk.refl (Nat.le_refl _)⟩
    | som a =>
      have hS : l.isS = true := by rw [hl]; rfl
      obtain ⟨⟨bx1, kd1, h1, h2⟩, _⟩ := h
      have cln := T.cln hS
      have cls := T.cls hS
      generalize e0 : (u.beg cl true 1).boxs 2 = w at cln cls
      generalize e1 : w.put ch p (.keep u.spare (u.spare + 1)) = w0 at cln cls
      have mw := T.mle w0
      generalize e2 : l.cm ls ch (p ++ [j]) w0 = w1 at cln cls mw
      have Bw1 : Sub w1.bs F.bs := Sub.put.trans cln
      have Bw0 : Sub (w.put ch p (.keep u.spare (u.spare + 1))).bs F.bs := by rw [e1]; exact mw.sub.trans Bw1
      have Bw : Sub (u.beg cl true 1).bs F.bs := by
        have : Sub w.bs F.bs := Sub.put.trans Bw0
        rw [← e0] at this
        exact this
      have hb1 : bx1.length = B := h1.len.trans hb0
      have hne : sy.tr ≠ [] := hthr rfl
      have hs1 : σ1 = atS w bx1 [v] k r sy.told sy.tr := by
        rw [h2]
        show thrw F k v sy.told sy.tr (innerOf l cl ch) bx1 r = _
        rw [thrw_some (ct := (none, cl, true)) (by rw [show innerOf l cl ch = (none, cl, true) :: ch by simp [innerOf, hS]]; rfl), atS_ix T.nd Bw, ← e0]
        rfl
      subst hs1
      have wsp : w.spare = u.spare + 2 := by rw [← e0]; rfl
      have w0sp : w0.spare = u.spare + 2 := by rw [← e1]; exact wsp
      have mws := mw.spare
      have us := T.usp
      have h8 := T.h8
      have Hw : Here F B g0 w bx1 [v] r sy.tr := ⟨hb1, by rw [← e0]; show RestOk F B g0 u.cur.goal r; rw [T.ug]; exact T.rest, fun z => absurd z hne, by rw [← e0]; rfl⟩
      have q1 := run_keep (kd := k) (told := sy.told) (st := []) Bw0 Hw
      rw [e1] at q1
      have wt : w0.tall = 0 := by rw [← e1, ← e0]; rfl
      have wg : w0.cur.goal = g := by rw [← e1, ← e0]; exact T.ug
      have bo : BxOk bx0 ((bx1.set u.spare v).set (u.spare + 1) (k : Int)) sy.bx lo := BxOk.hi (BxOk.hi h1 h8 us) h8 (by omega)
      have g1 := T.ge sy
      have hx' : k < 5 ∧ Rg v := hx
      have eet : ∀ y, l.bd c p j sy = y → l.et c p j (.thr k v, sy) = match y with | (.on, s') => (.thr k v, s'.hit p) | (e, s') => (e, s') := fun y hy => by
        subst hl
        rw [Lo.et]
        have : a.et c (p ++ [j]) 0 sy = y := hy
        dsimp only
        rw [this]
        obtain ⟨e, s'⟩ := y
        cases e <;> rfl
      rcases T.corr.cases (s := w0) (bx := (bx1.set u.spare v).set (u.spare + 1) (k : Int)) (kd := k) (r := r) (told := sy.told) (cnt := sy.cnt) (tr := sy.tr) (by rw [e2]; exact Bw1) wt (by simpa using hb1) (by rw [e2]; exact cls) (by omega) (by rw [bo.own]; exact hsy.rg) (by rw [wg]; exact T.rest) (fun z => absurd z hne) with ⟨sy2, bx', kd', i1, i2, i3⟩ | ⟨n1, σ, i2, i3⟩
      · rw [bo.own] at i1
        have i1' : l.bd c p j sy = (.on, sy2) := i1
        have ee := eet _ i1'
        dsimp only at ee
        rw [e2] at i3
        rw [i1'] at g1
        rw [← hl, ee, triT_off (by intro z; cases z), leave_thr]
        have H1 : Here F B g0 w1 bx' [] r sy2.tr := ⟨i2.len.trans (by simpa using hb1), by rw [mw.goal, wg]; exact T.rest, fun z => absurd (g1.nil z) hne, by rw [mw.tall wt]; rfl⟩
        have gb : bx'.getD u.spare 0 = v := by
          rw [getD_keep i2 (by omega) (by omega), List.getD_eq_getElem?_getD, List.getElem?_set_ne (by omega), List.getElem?_set_self (by omega)]; rfl
        have gk : bx'.getD (u.spare + 1) 0 = (k : Int) := by
          rw [getD_keep i2 (by omega) (by omega)]
          exact getD_set (by simp; omega)
        have q2 := run_rethrow (kd := kd') (told := sy2.told) cln H1 gk gb hx'.1 hx'.2
        refine ⟨_, Rn.le _ q1 (Rn.trans i3 q2) ?_, fun q' => ⟨⟨bx', kd', bo.trans i2 (by omega), rfl⟩, by intro z; cases z⟩⟩
        show 1 + (75 * (sy2.cnt - sy.cnt + 0) + 1) ≤ 75 * (sy2.cnt - sy.cnt) + 6
        omega
      · rw [bo.own] at n1 i2 i3
        change (l.bd c p j sy).1 ≠ .on at n1
        change Rn F _ (KK * ((leave Ls ch (l.bd c p j sy)).2.cnt - sy.cnt + 0)) _ _ at i2
        change Land F w0.spare _ r _ (leave Ls ch (l.bd c p j sy)) σ at i3
        have ee : l.et c p j (.thr k v, sy) = l.bd c p j sy := by
          rw [eet _ rfl]
          generalize l.bd c p j sy = y at n1 ⊢
          obtain ⟨e, s'⟩ := y
          cases e with
          | on => exact absurd rfl n1
          | _ => rfl
        rw [← hl, ee, triT_off n1]
        exact ⟨σ, Rn.le _ q1 i2 (by dsimp only; show 1 + 75 * _ ≤ 75 * _ + 6; omega), fun q' => i3.off (fun z => n1 (leave_isOn _ _ _ z)) bo (by omega)⟩
end
end CL
namespace CL
open PySem L2
section
variable {F : Cd1} {B g0 : Nat} {ls : List Lv} {Ls : List Ly} {ch : List Ct} {p : List Nat} {c : Cy}
abbrev lvOf (l : Lo) (ls : List Lv) (ch : List Ct) (p : List Nat) (j : Nat) : List Lv := if l.isS then .fin (l.cm ls ch (p ++ [j])) :: ls else ls
theorem TriX.parI {l : Lo} {j A cl lo g : Nat} {u : Ms} {r : List Fr1} (T : TriX F B g0 ls Ls ch p c l j A cl lo g u r) : Par F B g0 (lvOf l ls ch p j) (LsOf l c p j ch Ls) := by
  unfold lvOf LsOf
  split
  · exact .fin T.par T.corr T.ge T.ok T.mle
  · exact T.par
theorem hasL_of {l : Lo} {c : Cy} {p : List Nat} {j : Nat} {ch : List Ct} {Ls : List Ly} : hasL (LsOf l c p j ch Ls) = hasL Ls := by
  unfold LsOf
  split <;> rfl
theorem leave_tri {l : Lo} {j cl : Nat} : ∀ (x : Ed × Sy), isThr x.1 = false → x.1 ≠ .on → leave (LsOf l c p j ch Ls) (innerOf l cl ch) x = leave Ls ch (l.et c p j x)
  | (.on, sy), _, h => absurd rfl h
  | (.thr k v, sy), h, _ => nomatch h
  | (.brk, sy), _, _ => by
    cases l with
    | non => rw [Lo.et] <;> rfl
    | som a =>
      rw [Lo.et]
      show leave Ls ch (match a.et c (p ++ [j]) 0 sy with | (.on, s) => (.brk, s) | y => y) = leave Ls ch (match a.et c (p ++ [j]) 0 sy with | (.on, s') => ((.brk : Ed), if isThr (.brk) = true then s'.hit p else s') | (e, s') => (e, s'))
      generalize a.et c (p ++ [j]) 0 sy = y
      obtain ⟨e, s'⟩ := y
      cases e <;> rfl
  | (.ret v, sy), _, _ => by
    cases l with
    | non => rw [Lo.et] <;> rfl
    | som a =>
      rw [Lo.et]
      show leave Ls ch (match a.et c (p ++ [j]) 0 sy with | (.on, s) => (.ret v, s) | y => y) = leave Ls ch (match a.et c (p ++ [j]) 0 sy with | (.on, s') => ((.ret v : Ed), if isThr (.ret v) = true then s'.hit p else s') | (e, s') => (e, s'))
      generalize a.et c (p ++ [j]) 0 sy = y
      obtain ⟨e, s'⟩ := y
      cases e <;> rfl
theorem leave_le {l : Lo} {j cl : Nat} (hge : CyGe c) (hP : Par F B g0 ls Ls) (x : Ed × Sy) : (leave (LsOf l c p j ch Ls) (innerOf l cl ch) x).2.cnt ≤ (leave Ls ch (l.et c p j x)).2.cnt := by
  obtain ⟨e, sy⟩ := x
  have h := ((Lo.ge hge l p j (e, sy)).trans (leave_ge hP ch _)).cnt
  cases e with
  | on => rw [leave_on]; exact h
  | thr k v => rw [leave_thr]; exact h
  | brk => rw [leave_tri (.brk, sy) rfl (by intro z; cases z)]; exact Nat.le_refl _
  | ret v => rw [leave_tri (.ret v, sy) rfl (by intro z; cases z)]; exact Nat.le_refl _
/-- what must be known of the handlers' bodies -/
def HsCorr (F : Cd1) (B g0 : Nat) (ls : List Lv) (Ls : List Ly) (inner : List Ct) (p : List Nat) (c : Cy) : Nat → Hs → Prop
  | _, .nil => True
  | j, .cons _ b a h => b < 8 ∧ Corr F B g0 0 (a.cm ls inner (p ++ [j]) 0) (a.et c (p ++ [j]) 0) Ls inner ∧ (∀ s, Ge s (a.et c (p ++ [j]) 0 s).2) ∧ (∀ s, SyOk s → SyOk (a.et c (p ++ [j]) 0 s).2 ∧ Ed.ok (hasL Ls) (a.et c (p ++ [j]) 0 s).1) ∧ (∀ s, isThr (a.et c (p ++ [j]) 0 s).1 = true → (a.et c (p ++ [j]) 0 s).2.tr ≠ []) ∧ HsCorr F B g0 ls Ls inner p c (j + 1) h
theorem fit_iff {k : Nat} {kk : Option Nat} {g : Nat} {b : Bool} : fitC k (kk, g, b) = true ↔ (kk = none ∨ kk = some k) := by
  unfold fitC
  simp
theorem Hs.find_none {c : Cy} {p : List Nat} {k : Nat} {v : Int} {sy : Sy} : ∀ (hs : Hs) (g j : Nat), (hs.cts g).find? (fitC k) = none → hs.et c p j (.thr k v, sy) = (.thr k v, sy)
  | .nil, g, j, h => by rw [Hs.et]
  | .cons kk b a hs, g, j, h => by
    rw [Hs.cts, List.find?_cons] at h
    cases q : fitC k (kk, g, false) with
    | true => rw [q] at h; cases h
    | false =>
      rw [q] at h
      rw [Hs.et]
      dsimp only
      rw [if_neg (fun z => by have := (fit_iff (g := g) (b := false)).mpr z; rw [q] at this; cases this)]
      exact Hs.find_none hs (g + 1) (j + 1) h
/-- a handler that fits is run, and then the end -/
theorem Hs.run {l : Lo} {jl A cl lo gg : Nat} {r : List Fr1} {v : Int} {k : Nat} {sy : Sy} {bx0 bx : List Int} {u' : Ms} (hge : CyGe c) (hb0 : bx0.length = B) (hsy : SyOk sy) (hne : sy.tr ≠ []) (hv : Rg v) (hbx : BxOk bx0 bx sy.bx lo) :
    ∀ (hs : Hs) (g j : Nat) (t u : Ms) (ct : Ct), TriX F B g0 ls Ls ch p c l jl A cl lo gg u r → HsCorr F B g0 (lvOf l ls ch p jl) (LsOf l c p jl ch Ls) (innerOf l cl ch) p c j hs → (hs.cts g).find? (fitC k) = some ct →
      hs.cm (lvOf l ls ch p jl) (innerOf l cl ch) (l.cm ls ch (p ++ [jl])) p A g j t = u' → Sub u'.bs F.bs → u'.spare ≤ B → lo ≤ t.spare → t.cur.goal = gg →
      ∃ σ, Rn F (Good F B g0) (KK * ((leave Ls ch (l.et c p jl (hs.et c p j (.thr k v, sy)))).2.cnt - sy.cnt) + 10) ⟨⟨F.ix ct.2.1, 0, bx, [v], k⟩ :: r, sy.told, sy.tr, none⟩ σ ∧ ∀ q', Land F lo bx0 r q' (triT A Ls ch (l.et c p jl (hs.et c p j (.thr k v, sy)))) σ
  | .nil, g, j, t, u, ct, T, hC, hf, he, hs, hsp, ht, hg => nomatch hf
  | .cons kk b a hs, g, j, t, u, ct, T, hC, hf, he, hsub, hsp, ht, hg => by
    obtain ⟨hb8, ca, ga, oka, tha, hC⟩ := hC
    rw [Hs.cm] at he
    generalize e1 : t.beg g true 1 = s1 at he
    generalize e2 : s1.put (innerOf l cl ch) p (.store b) = s2 at he
    have PI := T.parI
    have m3 := Bd.mle a (lvOf l ls ch p jl) (innerOf l cl ch) (p ++ [j]) 0 s2 PI.lvM
    generalize e3 : a.cm (lvOf l ls ch p jl) (innerOf l cl ch) (p ++ [j]) 0 s2 = s3 at he m3
    have m4 := T.mle s3
    generalize e4 : l.cm ls ch (p ++ [jl]) s3 = s4 at he m4
    generalize e5 : s4.put (innerOf l cl ch) p (.jump A) = s5 at he
    have mR := Hs.mlc hs (lvOf l ls ch p jl) (innerOf l cl ch) (l.cm ls ch (p ++ [jl])) p A (g + 1) (j + 1) s5 PI.lvM T.mle
    rw [he] at mR
    have B5 : Sub s5.bs F.bs := mR.sub.trans hsub
    have B4 : Sub (s4.put (innerOf l cl ch) p (.jump A)).bs F.bs := by rw [e5]; exact B5
    have B3 : Sub s3.bs F.bs := m4.sub.trans (Sub.put.trans B4)
    have B2 : Sub (s1.put (innerOf l cl ch) p (.store b)).bs F.bs := by rw [e2]; exact m3.sub.trans B3
    have B1 : Sub (t.beg g true 1).bs F.bs := by rw [e1]; exact Sub.put.trans B2
    have s2sp : s2.spare = t.spare := by rw [← e2, ← e1]; rfl
    have s5sp : s5.spare = s4.spare := by rw [← e5]; rfl
    have a1 := m3.spare
    have a2 := m4.spare
    have a3 := mR.spare
    have s2g : s2.cur.goal = gg := by rw [← e2, ← e1]; exact hg
    have s5g : s5.cur.goal = gg := by rw [← e5]; show s4.cur.goal = gg; rw [m4.goal, m3.goal, s2g]
    rw [Hs.cts, List.find?_cons] at hf
    rw [Hs.et]
    dsimp only
    cases q : fitC k (kk, g, false) with
    | true =>
      rw [q] at hf
      cases hf
      rw [if_pos (fit_iff.mp q)]
      have hb : bx.length = B := hbx.len.trans hb0
      have e0 : (⟨⟨F.ix g, 0, bx, [v], k⟩ :: r, sy.told, sy.tr, none⟩ : M1) = atS s1 bx [v] k r sy.told sy.tr := by
        rw [← e1]
        exact atS_ix T.nd B1
      dsimp only
      rw [e0]
      have H1 : Here F B g0 s1 bx [v] r sy.tr := ⟨hb, by rw [← e1]; show RestOk F B g0 t.cur.goal r; rw [hg]; exact T.rest, fun z => absurd z hne, by rw [← e1]; rfl⟩
      have q1 := run_store (kd := k) (told := sy.told) (st := []) B2 H1
      rw [e2] at q1
      have s2t : s2.tall = 0 := by rw [← e2, ← e1]; rfl
      have bo := hbx.set (v := v) hb8
      have okb : SyOk (sy.set b v) := Sx.ok.set (s := sy.sx) hsy hv
      have h8 := T.h8
      obtain ⟨σ1, i1, i2⟩ := ca s2 (bx.set b v) k r sy.told sy.cnt sy.tr (by rw [e3]; exact B3) s2t (by simpa using hb) (by rw [e3]; omega) (by omega) (by rw [bo.own]; exact okb.rg) (by rw [s2g]; exact T.rest) (fun z => absurd z hne)
      rw [bo.own, e3] at i2
      rw [bo.own] at i1
      change Rn F _ (KK * ((leave (LsOf l c p jl ch Ls) (innerOf l cl ch) (a.et c (p ++ [j]) 0 (sy.set b v))).2.cnt - sy.cnt + 0)) _ _ at i1
      change Land F s2.spare _ r s3 (leave (LsOf l c p jl ch Ls) (innerOf l cl ch) (a.et c (p ++ [j]) 0 (sy.set b v))) σ1 at i2
      have g1 := ga (sy.set b v)
      obtain ⟨ok1, ok2⟩ := oka _ okb
      have th1 := tha (sy.set b v)
      have lg := (g1.trans (leave_ge PI (innerOf l cl ch) _)).cnt
      generalize a.et c (p ++ [j]) 0 (sy.set b v) = x at i1 i2 g1 ok1 ok2 th1 lg ⊢
      have i3 : Land F lo bx0 r s3 (leave (LsOf l c p jl ch Ls) (innerOf l cl ch) x) σ1 := by
        obtain ⟨⟨bx2, kd2, j1, j2⟩, j3⟩ := i2
        exact ⟨⟨bx2, kd2, bo.trans j1 (by omega), j2⟩, j3⟩
      obtain ⟨σ, f1, f2⟩ := fin_run T hb0 ok1 (by rw [hasL_of] at ok2; exact ok2) th1 (fun z => absurd (g1.nil z) hne) (by rw [m3.goal, s2g]) (m3.tall s2t) (by omega) (by rw [e4]; exact B4) (by rw [e4]; omega) i3
      refine ⟨σ, Rn.le _ q1 (Rn.trans i1 f1) ?_, f2⟩
      have lg' : sy.cnt ≤ (leave (LsOf l c p jl ch Ls) (innerOf l cl ch) x).2.cnt := lg
      have key : (leave (LsOf l c p jl ch Ls) (innerOf l cl ch) x).2.cnt ≤ (leave Ls ch (l.et c p jl x)).2.cnt := leave_le hge T.par x
      show 1 + (75 * ((leave (LsOf l c p jl ch Ls) (innerOf l cl ch) x).2.cnt - sy.cnt + 0) + (75 * ((leave Ls ch (l.et c p jl x)).2.cnt - (leave (LsOf l c p jl ch Ls) (innerOf l cl ch) x).2.cnt) + 6)) ≤ 75 * ((leave Ls ch (l.et c p jl x)).2.cnt - sy.cnt) + 10
      omega
    | false =>
      rw [q] at hf
      rw [if_neg (fun z => by have := (fit_iff (g := g) (b := false)).mpr z; rw [q] at this; cases this)]
      exact Hs.run hge hb0 hsy hne hv hbx hs (g + 1) (j + 1) s5 u ct T hC hf he hsub hsp (by omega) s5g
end
end CL
namespace CL
open PySem L2
theorem Hs.et_off {c : Cy} {p : List Nat} : ∀ (hs : Hs) (j : Nat) (x : Ed × Sy), isThr x.1 = false → hs.et c p j x = x
  | .nil, j, x, h => by rw [Hs.et]
  | .cons k b a hs, j, (e, s), h => by
    rw [Hs.et]
    cases e <;> first | rfl | exact nomatch h
section
variable {F : Cd1} {B g0 : Nat} {ls : List Lv} {Ls : List Ly} {ch : List Ct} {p : List Nat} {c : Cy}
theorem corr_tri {a : Bd} {hs : Hs} {l : Lo} (nd : (F.bs.map (·.lab)).Nodup) (hP : Par F B g0 ls Ls) (hB : 8 ≤ B) (hge : CyGe c)
    (cL : Corr F B g0 0 (l.cm ls ch (p ++ [1 + hs.len])) (l.bd c p (1 + hs.len)) Ls ch) (gL : ∀ s, Ge s (l.bd c p (1 + hs.len) s).2) (okL : ∀ s, SyOk s → SyOk (l.bd c p (1 + hs.len) s).2)
    (cA : ∀ X, Corr F B g0 0 (a.cm (lvOf l ls ch p (1 + hs.len)) X (p ++ [0]) 0) (a.et c (p ++ [0]) 0) (LsOf l c p (1 + hs.len) ch Ls) X) (gA : ∀ s, Ge s (a.et c (p ++ [0]) 0 s).2)
    (okA : ∀ s, SyOk s → SyOk (a.et c (p ++ [0]) 0 s).2 ∧ Ed.ok (hasL Ls) (a.et c (p ++ [0]) 0 s).1) (tA : ∀ s, isThr (a.et c (p ++ [0]) 0 s).1 = true → (a.et c (p ++ [0]) 0 s).2.tr ≠ [])
    (cH : ∀ cl, HsCorr F B g0 (lvOf l ls ch p (1 + hs.len)) (LsOf l c p (1 + hs.len) ch Ls) (innerOf l cl ch) p c 1 hs) :
    Corr F B g0 1 (Rw.cm ls ch p (.tri a hs l)) (Rw.et c p (.tri a hs l)) Ls ch := by
  intro s bx kd r told cnt tr hsub ht hb hp h8 hv hr hc
  rw [Rw.cm] at hsub hp ⊢
  try dsimp only at hsub hp ⊢
  rw [Rw.et]
  generalize (if l.isS = true then 1 else 0) = cN at hsub hp ⊢
  change Sub (Ms.beg (if l.isS = true then ((l.cm ls ch (p ++ [1 + hs.len]) ((((hs.cm (lvOf l ls ch p (1 + hs.len)) (innerOf l (s.lab + 1) ch) (l.cm ls ch (p ++ [1 + hs.len])) p s.lab (s.lab + 1 + cN) 1 ((l.cm ls ch (p ++ [1 + hs.len]) (a.cm (lvOf l ls ch p (1 + hs.len)) (hs.cts (s.lab + 1 + cN) ++ innerOf l (s.lab + 1) ch) (p ++ [0]) 0 (s.labs (1 + cN + hs.len)))).put (innerOf l (s.lab + 1) ch) p (.jump s.lab))).beg (s.lab + 1) true 1).boxs 2).put ch p (.keep _ _))).put ch p (.rethrow _ _)) else _) s.lab s.cur.cold 0).bs F.bs at hsub
  generalize hj : 1 + hs.len = j at *
  have e0' : ∀ X : Ms, X = s.labs (1 + cN + hs.len) → X.spare = s.spare ∧ X.cur = s.cur ∧ X.tall = s.tall ∧ atS X = atS s := fun X h => by subst h; exact ⟨rfl, rfl, rfl, rfl⟩
  generalize e0 : s.labs (1 + cN + hs.len) = s0 at hsub hp ⊢
  obtain ⟨s0sp, s0c, s0t, s0a⟩ := e0' s0 e0.symm
  have PI : Par F B g0 (lvOf l ls ch p j) (LsOf l c p j ch Ls) := by
    unfold lvOf LsOf
    split
    · exact .fin hP cL gL okL (fun s => Lo.mle l ls ch _ s hP.lvM)
    · exact hP
  have mL : ∀ s, MLe s (l.cm ls ch (p ++ [j]) s) := fun s => Lo.mle l ls ch _ s hP.lvM
  have m1 := Bd.mle a (lvOf l ls ch p j) (hs.cts (s.lab + 1 + cN) ++ innerOf l (s.lab + 1) ch) (p ++ [0]) 0 s0 PI.lvM
  generalize e1 : a.cm (lvOf l ls ch p j) (hs.cts (s.lab + 1 + cN) ++ innerOf l (s.lab + 1) ch) (p ++ [0]) 0 s0 = t0 at hsub hp m1 ⊢
  have m2 := mL t0
  generalize e2 : l.cm ls ch (p ++ [j]) t0 = t1 at hsub hp m2 ⊢
  generalize e3 : t1.put (innerOf l (s.lab + 1) ch) p (.jump s.lab) = t at hsub hp ⊢
  have m3 := Hs.mlc hs (lvOf l ls ch p j) (innerOf l (s.lab + 1) ch) (l.cm ls ch (p ++ [j])) p s.lab (s.lab + 1 + cN) 1 t PI.lvM mL
  generalize e4 : hs.cm (lvOf l ls ch p j) (innerOf l (s.lab + 1) ch) (l.cm ls ch (p ++ [j])) p s.lab (s.lab + 1 + cN) 1 t = u at hsub hp m3 ⊢
  generalize e5 : (if l.isS = true then ((l.cm ls ch (p ++ [j]) (((u.beg (s.lab + 1) true 1).boxs 2).put ch p (.keep u.spare (u.spare + 1)))).put ch p (.rethrow u.spare (u.spare + 1))) else u) = x at hsub hp ⊢
  have Bx : Sub x.bs F.bs := Sub.beg.trans hsub
  have hpx : x.spare ≤ B := hp
  have mux : MLc u x := by
    rw [← e5]
    split
    · exact ((((MLc.beg (s := u)).trans (MLe.boxs (n := 2)).c).trans MLc.put).trans (mL _).c).trans MLc.put
    · exact (MLe.refl u).c
  have Bu : Sub u.bs F.bs := mux.sub.trans Bx
  have Bt : Sub t.bs F.bs := m3.sub.trans Bu
  have Bt1 : Sub (t1.put (innerOf l (s.lab + 1) ch) p (.jump s.lab)).bs F.bs := by rw [e3]; exact Bt
  have Bt0 : Sub t0.bs F.bs := m2.sub.trans (Sub.put.trans Bt1)
  have tsp : t.spare = t1.spare := by rw [← e3]; rfl
  have tg : t.cur.goal = s.cur.goal := by rw [← e3]; show t1.cur.goal = _; rw [m2.goal, m1.goal, s0c]
  have a1 := m1.spare
  have a2 := m2.spare
  have a3 := m3.spare
  have a4 := mux.spare
  have T : TriX F B g0 ls Ls ch p c l j s.lab (s.lab + 1) s.spare s.cur.goal u r := {
    par := hP, nd := nd, hB := hB, h8 := h8, corr := cL, ge := gL, ok := okL, mle := mL, usp := by omega
    ug := by rw [m3.goal, tg]
    rest := hr
    cln := fun h => by rw [if_pos h] at e5; rw [e5]; exact Bx
    cls := fun h => by
      rw [if_pos h] at e5
      rw [← e5] at hpx
      exact hpx }
  have finish : ∀ (z : Ed × Sy) (n : Nat) (σ : M1), Rn F (Good F B g0) n (atS s bx [] kd r told tr) σ → n ≤ KK * ((leave Ls ch z).2.cnt - cnt + 1) → (∀ q', Land F s.spare bx r q' (triT s.lab Ls ch z) σ) →
      ∃ σ, Rn F (Good F B g0) (KK * ((leave Ls ch z).2.cnt - cnt + 1)) (atS s bx [] kd r told tr) σ ∧ Land F s.spare bx r (x.beg s.lab s.cur.cold 0) (leave Ls ch z) σ := fun z n σ h1 h2 h3 => by
    refine ⟨σ, h1.mono h2, ?_⟩
    obtain ⟨e, sy⟩ := z
    cases e with
    | on =>
      rw [leave_on]
      obtain ⟨⟨bx', kd', i1, i2⟩, _⟩ := h3 s
      refine ⟨⟨bx', kd', i1, ?_⟩, by intro z; cases z⟩
      rw [i2]
      exact atS_ix nd hsub
    | brk => exact h3 _
    | ret v => exact h3 _
    | thr k v => exact h3 _
  have sy0 := syOk_of (told := told) (cnt := cnt) (tr := tr) hb hB hv
  obtain ⟨σ1, i1, i2⟩ := cA (hs.cts (s.lab + 1 + cN) ++ innerOf l (s.lab + 1) ch) s0 bx kd r told cnt tr (by rw [e1]; exact Bt0) (by rw [s0t]; exact ht) hb (by rw [e1]; omega) (by omega) hv (by rw [s0c]; exact hr) (by rw [s0c]; exact hc)
  rw [s0a] at i1
  rw [e1, s0sp] at i2
  have g1 := gA ⟨bx.take 8, told, cnt, tr⟩
  obtain ⟨ok1, ok2⟩ := okA _ sy0
  have th1 := tA ⟨bx.take 8, told, cnt, tr⟩
  have c1 := g1.cnt
  generalize a.et c (p ++ [0]) 0 ⟨bx.take 8, told, cnt, tr⟩ = y at i1 i2 g1 ok1 ok2 th1 c1 ⊢
  have t0t : t0.tall = 0 := m1.tall (by rw [s0t]; exact ht)
  have t0g : t0.cur.goal = s.cur.goal := by rw [m1.goal, s0c]
  have t0c : y.2.tr = [] → t0.cur.cold = false := fun z => by rw [m1.cold, s0c]; exact hc (g1.nil z)
  have lg := (g1.trans (leave_ge PI (innerOf l (s.lab + 1) ch) y)).cnt
  dsimp only at c1 lg
  cases hy : isThr y.1 with
  | false =>
    rw [leave_ch _ _ (innerOf l (s.lab + 1) ch) y hy] at i1 i2
    rw [Hs.et_off hs 1 y hy]
    obtain ⟨σ, f1, f2⟩ := fin_run T hb ok1 ok2 th1 t0c t0g t0t (by omega) (by rw [e2]; exact Bt1) (by rw [e2]; omega) i2
    have key := leave_le (l := l) (j := j) (cl := s.lab + 1) (ch := ch) (p := p) hge hP y
    refine finish _ _ σ (Rn.trans i1 f1) ?_ f2
    show 75 * ((leave (LsOf l c p j ch Ls) (innerOf l (s.lab + 1) ch) y).2.cnt - cnt + 0) + (75 * ((leave Ls ch (l.et c p j y)).2.cnt - (leave (LsOf l c p j ch Ls) (innerOf l (s.lab + 1) ch) y).2.cnt) + 6) ≤ 75 * ((leave Ls ch (l.et c p j y)).2.cnt - cnt + 1)
    omega
  | true =>
    obtain ⟨e, sy⟩ := y
    cases e with
    | on => exact nomatch hy
    | brk => exact nomatch hy
    | ret v => exact nomatch hy
    | thr k v =>
      rw [leave_thr] at i1 i2
      dsimp only at i1 c1
      have hne : sy.tr ≠ [] := th1 rfl
      obtain ⟨⟨bx1, kd1, j1, j2⟩, j3⟩ := i2
      change σ1 = thrw F k v sy.told sy.tr (hs.cts (s.lab + 1 + cN) ++ innerOf l (s.lab + 1) ch) bx1 r at j2
      cases hf : (hs.cts (s.lab + 1 + cN)).find? (fitC k) with
      | none =>
        rw [Hs.find_none hs _ 1 hf]
        have j2' : σ1 = thrw F k v sy.told sy.tr (innerOf l (s.lab + 1) ch) bx1 r := by
          rw [j2]
          exact thrw_find (by rw [List.find?_append, hf]; rfl)
        have i3 : Land F s.spare bx r t0 (leave (LsOf l c p j ch Ls) (innerOf l (s.lab + 1) ch) (.thr k v, sy)) σ1 := by
          rw [leave_thr]
          exact ⟨⟨bx1, kd1, j1, j2'⟩, by intro z; cases z⟩
        obtain ⟨σ, f1, f2⟩ := fin_run T hb ok1 ok2 th1 t0c t0g t0t (by omega) (by rw [e2]; exact Bt1) (by rw [e2]; omega) i3
        have key := leave_le (l := l) (j := j) (cl := s.lab + 1) (ch := ch) (p := p) hge hP (.thr k v, sy)
        rw [leave_thr] at f1 key
        dsimp only at f1 key
        refine finish _ _ σ (Rn.trans i1 f1) ?_ f2
        show 75 * (sy.cnt - cnt + 0) + (75 * ((leave Ls ch (l.et c p j (.thr k v, sy))).2.cnt - sy.cnt) + 6) ≤ 75 * ((leave Ls ch (l.et c p j (.thr k v, sy))).2.cnt - cnt + 1)
        omega
      | some ct =>
        have j2' : σ1 = ⟨⟨F.ix ct.2.1, 0, bx1, [v], k⟩ :: r, sy.told, sy.tr, none⟩ := by
          rw [j2]
          exact thrw_some (by rw [List.find?_append, hf]; rfl)
        subst j2'
        have hx2 : k < 5 ∧ Rg v := ok2
        obtain ⟨σ, f1, f2⟩ := Hs.run hge hb ok1 hne hx2.2 j1 hs (s.lab + 1 + cN) 1 t u ct T (cH _) hf e4 Bu (by omega) (by omega) tg
        have key := ((Hs.ge hge hs p 1 (.thr k v, sy)).trans ((Lo.ge hge l p j _).trans (leave_ge hP ch _))).cnt
        dsimp only at key
        refine finish _ _ σ (Rn.trans i1 f1) ?_ f2
        show 75 * (sy.cnt - cnt + 0) + (75 * ((leave Ls ch (l.et c p j (hs.et c p 1 (.thr k v, sy)))).2.cnt - sy.cnt) + 10) ≤ 75 * ((leave Ls ch (l.et c p j (hs.et c p 1 (.thr k v, sy)))).2.cnt - cnt + 1)
        omega
end
end CL
namespace CL
open PySem L2
theorem Ed.ok_mono {lp lq : Bool} {e : Ed} (h : lp = true → lq = true) (k : Ed.ok lp e) : Ed.ok lq e := by
  cases e with
  | brk => exact h k
  | _ => exact k
section
variable {ix : Nat} {many : List Nat} {c : Cy} {d : Cl}
theorem Rw.et_ok (h : CyCl c d) (hd : ClOk ix many d) (r : Rw) (dd : Nat) (lp : Bool) (p : List Nat) (hr : r.ok ix many dd lp) (s : Sy) (hs : SyOk s) : SyOk (r.et c p s).2 ∧ Ed.ok lp (r.et c p s).1 := by
  have := Rw.ev_ok hd r dd lp s.sx hr hs
  rw [Rw.et_ev h r p s] at this
  exact ⟨this.2, this.1⟩
theorem Bd.et_ok (h : CyCl c d) (hd : ClOk ix many d) (b : Bd) (dd : Nat) (lp : Bool) (p : List Nat) (k : Nat) (hr : b.rows ix many dd lp) (s : Sy) (hs : SyOk s) : SyOk (b.et c p k s).2 ∧ Ed.ok lp (b.et c p k s).1 := by
  have := Bd.ev_ok hd b dd lp s.sx hr hs
  rw [Bd.et_ev h b p k s] at this
  exact ⟨this.2, this.1⟩
end
/-- what is known of the calls -/
structure CalX (F : Cd1) (B g0 ix : Nat) (many : List Nat) (c : Cy) (d : Cl) : Prop where
  nd : (F.bs.map (·.lab)).Nodup
  hB : 8 ≤ B
  cl : CyCl c d
  ok : ClOk ix many d
  ge : CyGe c
  thr : CyThr c
  run : CalRun F B g0 ix many c
section
variable {F : Cd1} {B g0 ix : Nat} {many : List Nat} {c : Cy} {d : Cl}
mutual
theorem Rw.corr (X : CalX F B g0 ix many c d) : ∀ (r : Rw) (dd : Nat) (lp : Bool) (ls : List Lv) (Ls : List Ly) (ch : List Ct) (p : List Nat), r.ok ix many dd lp → r.sm → Par F B g0 ls Ls → (lp = true → hasL Ls = true) → Corr F B g0 1 (r.cm ls ch p) (r.et c p) Ls ch
  | .set b e, dd, lp, ls, Ls, ch, p, h, hz, hP, hl => corr_set X.hB h.1 h.2 hz
  | .out e, dd, lp, ls, Ls, ch, p, h, hz, hP, hl => corr_out X.hB h hz
  | .thr k e, dd, lp, ls, Ls, ch, p, h, hz, hP, hl => corr_thr X.hB h.1 h.2 hz
  | .call b g es, dd, lp, ls, Ls, ch, p, h, hz, hP, hl => corr_call X.run X.ge X.hB h.1 h.2.1 h.2.2.1 h.2.2.2 hz
  | .ret e, dd, lp, ls, Ls, ch, p, h, hz, hP, hl => corr_ret hP X.hB h hz
  | .brk, dd, lp, ls, Ls, ch, p, h, hz, hP, hl => corr_brk hP X.hB (hl h)
  | .ifs e a b, dd, lp, ls, Ls, ch, p, h, hz, hP, hl =>
    corr_ifs X.nd hP X.hB h.1 hz.1 (Bd.corr X a (dd + 1) lp ls Ls ch (p ++ [0]) 0 h.2.1.2.2 hz.2.1 hP hl) (Bd.corr X b (dd + 1) lp ls Ls ch (p ++ [1]) 0 h.2.2.2 hz.2.2 hP hl) (fun s => Bd.ge X.ge a _ 0 s) (fun s => Bd.ge X.ge b _ 0 s)
  | .loop n a, dd, lp, ls, Ls, ch, p, h, hz, hP, hl =>
    corr_loop X.nd hP X.hB h.1 (fun l => Bd.corr X a (dd + 1) true (.loop l :: ls) (.loop l :: Ls) ch (p ++ [0]) 0 h.2.2.2 hz (.loop hP) (fun _ => rfl)) (fun s => Bd.ge X.ge a _ 0 s) (fun s hs => (Bd.et_ok X.cl X.ok a (dd + 1) true _ 0 h.2.2.2 s hs).1)
  | .tri a hs l, dd, lp, ls, Ls, ch, p, h, hz, hP, hl => by
    have cL := Lo.corr X l (dd + 1) lp ls Ls ch p (1 + hs.len) h.2.2 hz.2.2 hP hl
    have gL : ∀ s, Ge s (l.bd c p (1 + hs.len) s).2 := fun s => by
      cases l with
      | non => exact Ge.refl s
      | som a => exact Bd.ge X.ge a _ 0 s
    have okL : ∀ s, SyOk s → SyOk (l.bd c p (1 + hs.len) s).2 := fun s hs' => by
      cases l with
      | non => exact hs'
      | som a => exact (Bd.et_ok X.cl X.ok a (dd + 1) lp _ 0 h.2.2.2 s hs').1
    have PI : Par F B g0 (lvOf l ls ch p (1 + hs.len)) (LsOf l c p (1 + hs.len) ch Ls) := by
      unfold lvOf LsOf
      split
      · exact .fin hP cL gL okL (fun s => Lo.mle l ls ch _ s hP.lvM)
      · exact hP
    have hl' : lp = true → hasL (LsOf l c p (1 + hs.len) ch Ls) = true := fun z => by rw [hasL_of]; exact hl z
    exact corr_tri X.nd hP X.hB X.ge cL gL okL (fun Y => Bd.corr X a (dd + 1) lp _ _ Y (p ++ [0]) 0 h.1.2.2 hz.1 PI hl') (fun s => Bd.ge X.ge a _ 0 s)
      (fun s hs' => let q := Bd.et_ok X.cl X.ok a (dd + 1) lp (p ++ [0]) 0 h.1.2.2 s hs'; ⟨q.1, Ed.ok_mono hl q.2⟩) (fun s => Bd.thr_tr X.thr a _ 0 s) (fun cl => Hs.corr X hs (dd + 1) lp _ _ _ p 1 h.2.1.2 hz.2.1 PI hl')
theorem Bd.corr (X : CalX F B g0 ix many c d) : ∀ (b : Bd) (dd : Nat) (lp : Bool) (ls : List Lv) (Ls : List Ly) (ch : List Ct) (p : List Nat) (k : Nat), b.rows ix many dd lp → b.sm → Par F B g0 ls Ls → (lp = true → hasL Ls = true) → Corr F B g0 0 (b.cm ls ch p k) (b.et c p k) Ls ch
  | .nil, dd, lp, ls, Ls, ch, p, k, h, hz, hP, hl => corr_nil
  | .cons r b, dd, lp, ls, Ls, ch, p, k, h, hz, hP, hl =>
    corr_cons hP X.hB (Rw.corr X r dd lp ls Ls ch (p ++ [k]) h.1 hz.1 hP hl) (Bd.corr X b dd lp ls Ls ch p (k + 1) h.2 hz.2 hP hl) (fun s => Rw.ge X.ge r _ s) (fun s hs => (Rw.et_ok X.cl X.ok r dd lp _ h.1 s hs).1) (fun s => Bd.ge X.ge b p (k + 1) s)
theorem Hs.corr (X : CalX F B g0 ix many c d) : ∀ (hs : Hs) (dd : Nat) (lp : Bool) (ls : List Lv) (Ls : List Ly) (ch : List Ct) (p : List Nat) (j : Nat), hs.ok ix many dd lp → hs.sm → Par F B g0 ls Ls → (lp = true → hasL Ls = true) → HsCorr F B g0 ls Ls ch p c j hs
  | .nil, dd, lp, ls, Ls, ch, p, j, h, hz, hP, hl => trivial
  | .cons k b a hs, dd, lp, ls, Ls, ch, p, j, h, hz, hP, hl =>
    ⟨h.2.1, Bd.corr X a dd lp ls Ls ch (p ++ [j]) 0 h.2.2.1.2 hz.1 hP hl, fun s => Bd.ge X.ge a _ 0 s, fun s hs' => (let q := Bd.et_ok X.cl X.ok a dd lp (p ++ [j]) 0 h.2.2.1.2 s hs'; ⟨q.1, Ed.ok_mono hl q.2⟩), fun s => Bd.thr_tr X.thr a _ 0 s, Hs.corr X hs dd lp ls Ls ch p (j + 1) h.2.2.2 hz.2 hP hl⟩
theorem Lo.corr (X : CalX F B g0 ix many c d) : ∀ (l : Lo) (dd : Nat) (lp : Bool) (ls : List Lv) (Ls : List Ly) (ch : List Ct) (p : List Nat) (j : Nat), l.ok ix many dd lp → l.sm → Par F B g0 ls Ls → (lp = true → hasL Ls = true) → Corr F B g0 0 (l.cm ls ch (p ++ [j])) (l.bd c p j) Ls ch
  | .non, dd, lp, ls, Ls, ch, p, j, h, hz, hP, hl => by
    intro s bx kd r told cnt tr hs ht hb hp h8 hv hr hc
    rw [Lo.cm]
    show ∃ σ, Rn F (Good F B g0) (KK * ((leave Ls ch (.on, _)).2.cnt - cnt + 0)) _ σ ∧ Land F s.spare bx r s (leave Ls ch (.on, _)) σ
    rw [leave_on]
    exact ⟨_, .nil, ⟨⟨bx, kd, BxOk.refl, rfl⟩, by intro z; cases z⟩⟩
  | .som a, dd, lp, ls, Ls, ch, p, j, h, hz, hP, hl => by
    intro s bx kd r told cnt tr hs ht hb hp h8 hv hr hc
    rw [Lo.cm] at hs hp ⊢
    exact Bd.corr X a dd lp ls Ls ch (p ++ [j]) 0 h.2 hz hP hl s bx kd r told cnt tr hs ht hb hp h8 hv hr hc
end
end
end CL
namespace CL
open PySem L2
def Ms.ll (s : Ms) : List Nat := s.bs.map (·.lab)
theorem ll_put {s : Ms} {ch : List Ct} {p : List Nat} {i : Ins} : (s.put ch p i).ll = s.ll := by simp [Ms.ll, Ms.bs, Ms.put]
theorem ll_beg {s : Ms} {l : Nat} {c : Bool} {t : Int} : (s.beg l c t).ll = s.ll ++ [l] := by simp [Ms.ll, Ms.bs, Ms.beg]
theorem ll_begN {s : Ms} : s.begN.ll = s.ll ++ [s.lab] := by simp [Ms.ll, Ms.bs, Ms.begN]
theorem ll_boxs {s : Ms} {n : Nat} : (s.boxs n).ll = s.ll := rfl
def ind (a b x : Nat) : Nat := if a ≤ x ∧ x < b then 1 else 0
theorem ind_cases (a b x : Nat) : (ind a b x = 1 ∧ a ≤ x ∧ x < b) ∨ (ind a b x = 0 ∧ (x < a ∨ b ≤ x)) := by
  unfold ind
  split <;> omega
theorem ind_self {a x : Nat} : ind a a x = 0 := by unfold ind; split <;> omega
/-- the labels that a part begins: all that it takes, and N -/
structure Lb (s s' : Ms) (N : Nat → Nat) : Prop where
  le : s.lab ≤ s'.lab
  ex : ∃ new, s'.ll = s.ll ++ new ∧ ∀ x, new.count x = ind s.lab s'.lab x + N x
abbrev Lb0 (s s' : Ms) : Prop := Lb s s' fun _ => 0
theorem Lb.refl (s : Ms) : Lb0 s s := ⟨Nat.le_refl _, [], by simp, fun x => by rw [ind_self]; rfl⟩
theorem Lb.trans {a b c : Ms} {N M : Nat → Nat} (h : Lb a b N) (k : Lb b c M) : Lb a c fun x => N x + M x := by
  obtain ⟨x, hx, hc⟩ := h.ex
  obtain ⟨y, hy, hd⟩ := k.ex
  refine ⟨Nat.le_trans h.le k.le, x ++ y, by rw [hy, hx, List.append_assoc], fun z => ?_⟩
  rw [List.count_append, hc, hd]
  have h1 := h.le
  have h2 := k.le
  unfold ind
  (repeat' split) <;> omega
theorem Lb.conv {a b : Ms} {N M : Nat → Nat} (h : Lb a b N) (e : ∀ x, N x = M x) : Lb a b M := by
  have : N = M := funext e
  rw [← this]; exact h
theorem Lb.put {s : Ms} {ch : List Ct} {p : List Nat} {i : Ins} : Lb0 s (s.put ch p i) := ⟨Nat.le_refl _, [], by simp [ll_put], fun x => by show 0 = ind s.lab s.lab x + 0; rw [ind_self]⟩
theorem Lb.beg {s : Ms} {l : Nat} {c : Bool} {t : Int} : Lb s (s.beg l c t) fun x => if l = x then 1 else 0 := ⟨Nat.le_refl _, [l], ll_beg, fun x => by
  have : ind s.lab (s.beg l c t).lab x = 0 := ind_self
  rw [this, List.count_singleton]
  simp⟩
theorem Lb.begN {s : Ms} : Lb0 s s.begN := ⟨Nat.le_succ _, [s.lab], ll_begN, fun x => by
  have : s.begN.lab = s.lab + 1 := rfl
  rw [this, List.count_singleton]
  unfold ind
  by_cases h : s.lab = x
  · subst h; simp
  · have h' : (s.lab == x) = false := by simpa using h
    rw [h']
    have : ¬ (s.lab ≤ x ∧ x < s.lab + 1) := by omega
    rw [if_neg this]
    rfl⟩
theorem Lb.ex1 (ch : List Ct) (p : List Nat) : ∀ (e : Ex) (s : Ms), (e.cm ch p s).ll = s.ll
  | .num n, s => ll_put
  | .box k, s => ll_put
  | .op sg a b, s => by rw [Ex.cm, ll_put, Lb.ex1 ch p b, Lb.ex1 ch p a]
theorem Lb.exs (ch : List Ct) (p : List Nat) : ∀ (es : List Ex) (s : Ms), (cms ch p es s).ll = s.ll
  | [], s => rfl
  | e :: es, s => by rw [cms, Lb.exs ch p es, Lb.ex1]
theorem Lb.ofEx {s : Ms} {ch : List Ct} {p : List Nat} (e : Ex) : Lb0 s (e.cm ch p s) := ⟨Nat.le_of_eq (Ex.keep ch p e s).lab.symm, [], by rw [Lb.ex1]; simp, fun x => by rw [(Ex.keep ch p e s).lab, ind_self]; rfl⟩
theorem Lb.ofExs {s : Ms} {ch : List Ct} {p : List Nat} (es : List Ex) : Lb0 s (cms ch p es s) := ⟨Nat.le_of_eq (cms_keep ch p es s).lab.symm, [], by rw [Lb.exs]; simp, fun x => by rw [(cms_keep ch p es s).lab, ind_self]; rfl⟩
theorem Lb.boxs {s : Ms} {n : Nat} : Lb0 s (s.boxs n) := ⟨Nat.le_refl _, [], by simp [ll_boxs], fun x => by show 0 = ind s.lab s.lab x + 0; rw [ind_self]⟩
/-- labels that are taken, and begun later -/
theorem Lb.labs {s s' : Ms} {n : Nat} {N : Nat → Nat} (h : Lb (s.labs n) s' N) (e : ∀ x, N x = ind s.lab (s.lab + n) x) : Lb0 s s' := by
  obtain ⟨y, hy, hd⟩ := h.ex
  have hl : s.lab + n ≤ s'.lab := h.le
  refine ⟨by omega, y, hy, fun x => ?_⟩
  rw [hd, e]
  show ind (s.lab + n) s'.lab x + ind s.lab (s.lab + n) x = _
  unfold ind
  (repeat' split) <;> omega
def LvB (ls : List Lv) : Prop := ∀ f, Lv.fin f ∈ ls → ∀ s, Lb0 s (f s)
theorem LvB.tl {x : Lv} {ls : List Lv} (h : LvB (x :: ls)) : LvB ls := fun f hf => h f (List.mem_cons_of_mem _ hf)
theorem LvB.loop {a : Nat} {ls : List Lv} (h : LvB ls) : LvB (.loop a :: ls) := fun f hf => by
  rcases List.mem_cons.mp hf with z | z
  · cases z
  · exact h f z
theorem LvB.fin {g : Ms → Ms} {ls : List Lv} (hg : ∀ s, Lb0 s (g s)) (h : LvB ls) : LvB (.fin g :: ls) := fun f hf => by
  rcases List.mem_cons.mp hf with z | z
  · cases z; exact hg
  · exact h f z
theorem outA_lb : ∀ (ls : List Lv) (s : Ms), LvB ls → Lb0 s (outA ls s)
  | [], s, _ => Lb.refl s
  | .fin f :: r, s, h => ((h f (by simp) s).trans (outA_lb r _ h.tl)).conv fun _ => rfl
  | .loop _ :: r, s, h => outA_lb r s h.tl
theorem outL_lb : ∀ (ls : List Lv) (s : Ms), LvB ls → Lb0 s (outL ls s).2
  | [], s, _ => Lb.refl s
  | .fin f :: r, s, h => ((h f (by simp) s).trans (outL_lb r _ h.tl)).conv fun _ => rfl
  | .loop _ :: r, s, h => Lb.refl s
mutual
theorem Rw.lb : ∀ (r : Rw) (ls : List Lv) (ch : List Ct) (p : List Nat) (s : Ms), LvB ls → Lb0 s (r.cm ls ch p s)
  | .set b e, ls, ch, p, s, h => by unfold Rw.cm; exact ((Lb.ofEx e).trans Lb.put).conv fun _ => rfl
  | .out e, ls, ch, p, s, h => by unfold Rw.cm; exact ((Lb.ofEx e).trans Lb.put).conv fun _ => rfl
  | .thr k e, ls, ch, p, s, h => by unfold Rw.cm; exact ((Lb.ofEx e).trans Lb.put).conv fun _ => rfl
  | .call b g es, ls, ch, p, s, h => by unfold Rw.cm; exact (((Lb.ofExs es).trans Lb.put).trans Lb.put).conv fun _ => rfl
  | .ret e, ls, ch, p, s, h => by
    unfold Rw.cm
    exact ((((((Lb.boxs.trans (Lb.ofEx e)).trans Lb.put).trans (outA_lb ls _ h)).trans Lb.put).trans Lb.put).trans Lb.begN).conv fun _ => rfl
  | .brk, ls, ch, p, s, h => by
    unfold Rw.cm
    exact (((outL_lb ls s h).trans Lb.put).trans Lb.begN).conv fun _ => rfl
  | .ifs e a b, ls, ch, p, s, h => by
    unfold Rw.cm
    dsimp only
    refine Lb.labs (n := 2) ((((((Lb.ofEx e).trans Lb.put).trans (Bd.lb a ls ch (p ++ [0]) 0 _ h)).trans Lb.put).trans Lb.beg).trans ((Bd.lb b ls ch (p ++ [1]) 0 _ h).trans Lb.beg)) fun x => ?_
    unfold ind
    try dsimp only
    (repeat' split) <;> omega
  | .loop n a, ls, ch, p, s, h => by
    unfold Rw.cm
    dsimp only
    have h1 : Lb0 s (((s.boxs 1).labs 2)) → True := fun _ => trivial
    refine ((Lb.boxs (n := 1)).trans (Lb.labs (s := s.boxs 1) (n := 2) ((((Lb.put.trans Lb.put).trans Lb.beg).trans (Bd.lb a (.loop (s.lab + 1) :: ls) ch (p ++ [0]) 0 _ h.loop)).trans ((((Lb.put.trans Lb.put).trans Lb.put).trans Lb.put).trans Lb.beg)) fun x => ?_)).conv fun _ => rfl
    show _ = ind s.lab (s.lab + 2) x
    have := ind_cases s.lab (s.lab + 2) x
    (repeat' split) <;> omega
  | .tri a hs l, ls, ch, p, s, h => by
    unfold Rw.cm
    dsimp only
    have hf : ∀ s, Lb0 s (l.cm ls ch (p ++ [1 + hs.len]) s) := fun s => Lo.lb l ls ch _ s h
    have hl : LvB (if l.isS = true then .fin (l.cm ls ch (p ++ [1 + hs.len])) :: ls else ls) := by
      split
      · exact LvB.fin hf h
      · exact h
    generalize (if l.isS = true then Lv.fin (l.cm ls ch (p ++ [1 + hs.len])) :: ls else ls) = ls' at hl ⊢
    generalize hin : (if l.isS = true then (none, s.lab + 1, true) :: ch else ch) = inner
    cases hS : l.isS with
    | true =>
      rw [hS] at hin
      simp only [if_true]
      refine Lb.labs (n := 1 + 1 + hs.len) ((((Bd.lb a ls' (hs.cts (s.lab + 1 + 1) ++ inner) (p ++ [0]) 0 _ hl).trans (hf _)).trans Lb.put).trans ((Hs.lb hs ls' inner _ p s.lab (s.lab + 1 + 1) 1 _ hl hf).trans (((((Lb.beg.trans Lb.boxs).trans Lb.put).trans (hf _)).trans Lb.put).trans Lb.beg))) fun x => ?_
      unfold ind
      try dsimp only
      (repeat' split) <;> omega
    | false =>
      rw [hS] at hin
      simp only [Bool.false_eq_true, if_false]
      refine Lb.labs (n := 1 + 0 + hs.len) ((((Bd.lb a ls' (hs.cts (s.lab + 1 + 0) ++ inner) (p ++ [0]) 0 _ hl).trans (hf _)).trans Lb.put).trans ((Hs.lb hs ls' inner _ p s.lab (s.lab + 1 + 0) 1 _ hl hf).trans Lb.beg)) fun x => ?_
      unfold ind
      try dsimp only
      (repeat' split) <;> omega
theorem Bd.lb : ∀ (b : Bd) (ls : List Lv) (ch : List Ct) (p : List Nat) (k : Nat) (s : Ms), LvB ls → Lb0 s (b.cm ls ch p k s)
  | .nil, ls, ch, p, k, s, h => by unfold Bd.cm; exact Lb.refl s
  | .cons r b, ls, ch, p, k, s, h => by unfold Bd.cm; exact ((Rw.lb r ls ch _ s h).trans (Bd.lb b ls ch p (k + 1) _ h)).conv fun _ => rfl
theorem Hs.lb : ∀ (hs : Hs) (ls : List Lv) (ch : List Ct) (fe : Ms → Ms) (p : List Nat) (after g j : Nat) (s : Ms), LvB ls → (∀ s, Lb0 s (fe s)) → Lb s (hs.cm ls ch fe p after g j s) fun x => ind g (g + hs.len) x
  | .nil, ls, ch, fe, p, after, g, j, s, h, hf => by unfold Hs.cm; exact (Lb.refl s).conv fun x => (ind_self (a := g)).symm
  | .cons k b a hs, ls, ch, fe, p, after, g, j, s, h, hf => by
    unfold Hs.cm
    refine (((((Lb.beg.trans Lb.put).trans (Bd.lb a ls ch _ 0 _ h)).trans (hf _)).trans Lb.put).trans (Hs.lb hs ls ch fe p after (g + 1) (j + 1) _ h hf)).conv fun x => ?_
    have h1 := ind_cases g (g + (hs.len + 1)) x
    have h2 := ind_cases (g + 1) (g + 1 + hs.len) x
    show _ = ind g (g + (hs.len + 1)) x
    (repeat' split) <;> omega
theorem Lo.lb : ∀ (l : Lo) (ls : List Lv) (ch : List Ct) (p : List Nat) (s : Ms), LvB ls → Lb0 s (l.cm ls ch p s)
  | .non, ls, ch, p, s, h => by unfold Lo.cm; exact Lb.refl s
  | .som a, ls, ch, p, s, h => by unfold Lo.cm; exact Bd.lb a ls ch p 0 s h
end
end CL
namespace CL
open PySem L2
theorem fnCm_le {g : Nat} {b : Bd} {bs : List Blk} {lab spare : Nat} : ∃ c rest, (fnCm g b bs lab spare).bs = bs ++ c :: rest ∧ lab + 1 ≤ (fnCm g b bs lab spare).lab ∧ spare ≤ (fnCm g b bs lab spare).spare := by
  have m1 := (Bd.mle b [] [] [g] 0 ⟨bs, ⟨lab, false, g, []⟩, lab + 1, spare, 0⟩ LvM.nil).c
  have m2 : MLc ⟨bs, ⟨lab, false, g, []⟩, lab + 1, spare, 0⟩ (fnCm g b bs lab spare) := (m1.trans MLc.put).trans MLc.put
  obtain ⟨pre, c, c', rest, t, e, e2, _⟩ := m2.sub
  obtain ⟨rfl, _⟩ := append_last (a := bs) e
  exact ⟨c', rest, e2, m2.lab, m2.spare⟩
theorem fnCm_lb {g : Nat} {b : Bd} {bs : List Blk} {lab spare : Nat} : ∃ new, (fnCm g b bs lab spare).ll = bs.map (·.lab) ++ new ∧ ∀ x, new.count x = ind lab (fnCm g b bs lab spare).lab x := by
  have h : Lb0 ⟨bs, ⟨lab, false, g, []⟩, lab + 1, spare, 0⟩ (fnCm g b bs lab spare) := (((Bd.lb b [] [] [g] 0 _ (fun f hf => by cases hf)).trans Lb.put).trans Lb.put).conv fun _ => rfl
  obtain ⟨y, hy, hd⟩ := h.ex
  have hle : lab + 1 ≤ (fnCm g b bs lab spare).lab := h.le
  refine ⟨lab :: y, ?_, fun x => ?_⟩
  · rw [hy]; simp [Ms.ll, Ms.bs]
  · rw [List.count_cons, hd]
    show ind (lab + 1) (fnCm g b bs lab spare).lab x + 0 + _ = _
    have h1 := ind_cases (lab + 1) (fnCm g b bs lab spare).lab x
    have h2 := ind_cases lab (fnCm g b bs lab spare).lab x
    by_cases z : lab = x
    · subst z; simp; omega
    · have : (lab == x) = false := by simpa using z
      rw [this]; simp; omega
structure PgI (P : Pg) (g : Nat) (m M : Mk) : Prop where
  bs : ∃ rest, M.bs = m.bs ++ rest
  ent : ∃ es, M.ent = m.ent ++ es ∧ es.length = P.length
  lab : m.lab ≤ M.lab
  spare : m.spare ≤ M.spare
  fn : ∀ (i : Nat) (f : Fn), P[i]? = some f → ∃ bs lab spare, m.spare ≤ spare ∧ M.ent[m.ent.length + i]? = some lab ∧ lab < M.lab ∧ Sub (fnCm (g + i) f.2 bs lab spare).bs M.bs ∧ (fnCm (g + i) f.2 bs lab spare).spare ≤ M.spare
  lbs : ∃ new, M.bs.map (·.lab) = m.bs.map (·.lab) ++ new ∧ ∀ x, new.count x = ind m.lab M.lab x
theorem sub_ext {s : Ms} {rest : List Blk} : Sub s.bs (s.bs ++ rest) := ⟨s.pre, s.cur, s.cur, rest, [], rfl, by simp [Ms.bs], rfl, rfl, rfl, by simp⟩
theorem pgCm_spec : ∀ (P : Pg) (g : Nat) (m : Mk), PgI P g m (pgCm g P m)
  | [], g, m => ⟨⟨[], by simp [pgCm]⟩, ⟨[], by simp [pgCm]⟩, Nat.le_refl _, Nat.le_refl _, fun i f h => by simp at h, ⟨[], by simp [pgCm], fun x => by rw [pgCm, ind_self]; rfl⟩⟩
  | f :: r, g, m => by
    obtain ⟨c, rest, e1, e2, e3⟩ := fnCm_le (g := g) (b := f.2) (bs := m.bs) (lab := m.lab) (spare := m.spare)
    obtain ⟨new, n1, n2⟩ := fnCm_lb (g := g) (b := f.2) (bs := m.bs) (lab := m.lab) (spare := m.spare)
    generalize hs : fnCm g f.2 m.bs m.lab m.spare = s at e1 e2 e3 n1 n2
    have ih := pgCm_spec r (g + 1) ⟨s.bs, m.ent ++ [m.lab], s.lab, s.spare⟩
    have eM : pgCm g (f :: r) m = pgCm (g + 1) r ⟨s.bs, m.ent ++ [m.lab], s.lab, s.spare⟩ := by rw [pgCm, hs]
    rw [eM]
    generalize pgCm (g + 1) r ⟨s.bs, m.ent ++ [m.lab], s.lab, s.spare⟩ = M at ih
    obtain ⟨rest2, r1⟩ := ih.bs
    obtain ⟨es, r2, r3⟩ := ih.ent
    have r4 := ih.lab
    have r5 := ih.spare
    dsimp only at r1 r2 r4 r5
    refine ⟨⟨c :: rest ++ rest2, by rw [r1, e1]; simp⟩, ⟨m.lab :: es, by rw [r2]; simp, by simp [r3]⟩, by omega, by omega, fun i f' hf => ?_, ?_⟩
    · cases i with
      | zero =>
        simp at hf
        subst hf
        refine ⟨m.bs, m.lab, m.spare, Nat.le_refl _, ?_, by omega, ?_, ?_⟩
        · rw [r2]; simp
        · rw [Nat.add_zero, hs, r1]; exact sub_ext
        · rw [Nat.add_zero, hs]; exact r5
      | succ i =>
        obtain ⟨bs, lab, spare, a1, a2, a2', a3, a4⟩ := ih.fn i f' (by simpa using hf)
        dsimp only at a1 a2
        have e : g + 1 + i = g + (i + 1) := by omega
        rw [e] at a3 a4
        refine ⟨bs, lab, spare, by omega, ?_, a2', a3, a4⟩
        rw [List.length_append] at a2
        have e2 : m.ent.length + (i + 1) = m.ent.length + [m.lab].length + i := by simp; omega
        rw [e2]
        exact a2
    · obtain ⟨new2, n3, n4⟩ := ih.lbs
      dsimp only at n3 n4
      refine ⟨new ++ new2, ?_, fun x => ?_⟩
      · rw [n3]
        have : s.bs.map (·.lab) = m.bs.map (·.lab) ++ new := n1
        rw [this, List.append_assoc]
      · rw [List.count_append, n2, n4]
        have h1 := ind_cases m.lab s.lab x
        have h2 := ind_cases s.lab M.lab x
        have h3 := ind_cases m.lab M.lab x
        omega
def Pg.sm (P : Pg) : Prop := ∀ f ∈ P, f.2.sm
theorem Pg.spec (P : Pg) : PgI P 0 ⟨[], [], 0, 8⟩ P.cm := pgCm_spec P 0 ⟨[], [], 0, 8⟩
theorem Pg.labs (P : Pg) : ∀ x, (P.cm.bs.map (·.lab)).count x = if x < P.cm.lab then 1 else 0 := fun x => by
  obtain ⟨new, h1, h2⟩ := P.spec.lbs
  have e : P.cm.bs.map (·.lab) = new := by simpa using h1
  rw [e, h2]
  have := ind_cases 0 P.cm.lab x
  show ind 0 P.cm.lab x = _
  split <;> omega
end CL
namespace CL
open PySem L2
def Ins.ends : Ins → Bool
  | .jump _ => true
  | .ret => true
  | .throw _ => true
  | .rethrow _ _ => true
  | _ => false
def Blk.falls (b : Blk) : Bool := match b.rows.getLast? with
  | none => true
  | some w => !w.ins.ends
def jumpsTo (w : Rc) (o : Option Nat) : Bool := match w.ins, o with
  | .jump l, some m => l == m
  | _, _ => false
/-- the rows of a block as it stands: nx the label of the block that was made behind it, fo of the one that stands behind it -/
def rowsAs (b : Blk) (nx fo : Option Nat) : List Rc :=
  let r1 := if b.falls && (nx != fo) then b.rows ++ [⟨.jump (nx.getD 0), [], [b.goal], 0⟩] else b.rows
  match r1.getLast? with
  | some w => if jumpsTo w fo then r1.dropLast else r1
  | none => r1
def labAt (bs : List Blk) (o : Option Nat) : Option Nat := match o with
  | none => none
  | some k => (bs[k]?).map (·.lab)
def hdL (bs : List Blk) (o : List Nat) (fo : Option Nat) : Option Nat := match o with
  | [] => fo
  | k :: _ => labAt bs (some k)
def layE (bs : List Blk) (fo : Option Nat) : List Nat → List (Blk × List Rc)
  | [] => []
  | k :: r => match bs[k]? with
    | some b => (b, rowsAs b (labAt bs (some (k + 1))) (hdL bs r fo)) :: layE bs fo r
    | none => layE bs fo r
abbrev lay (bs : List Blk) (o : List Nat) : List (Blk × List Rc) := layE bs none o
def stOf (l : Nat) : List (Blk × List Rc) → Nat
  | [] => 0
  | (b, rs) :: r => if b.lab = l then 0 else rs.length + stOf l r
end CL
namespace CL
open PySem L2
def CtOk (lab : Nat) (c : Ct) : Prop := c.2.1 < lab ∧ (c.2.2 = true → c.1 = none) ∧ ∀ k, c.1 = some k → k < 5
def IOk (many : List Nat) (lab spare : Nat) : Ins → Prop
  | .jump l => l < lab
  | .unless l => l < lab
  | .load b => b < spare
  | .store b => b < spare
  | .count b => b < spare
  | .keep b k => b < spare ∧ k < spare
  | .rethrow b k => b < spare ∧ k < spare
  | .throw k => k < 5
  | .call g n => many[g]? = some n
  | _ => True
structure WOk (many : List Nat) (lab spare : Nat) (w : Rc) : Prop where
  ins : IOk many lab spare w.ins
  ch : ∀ c ∈ w.ch, CtOk lab c
theorem CtOk.mono {l l' : Nat} {c : Ct} (h : CtOk l c) (hl : l ≤ l') : CtOk l' c := ⟨Nat.lt_of_lt_of_le h.1 hl, h.2⟩
theorem IOk.mono {m : List Nat} {l l' s s' : Nat} {i : Ins} (h : IOk m l s i) (hl : l ≤ l') (hs : s ≤ s') : IOk m l' s' i := by
  cases i <;> first | exact h | exact Nat.lt_of_lt_of_le h hl | exact Nat.lt_of_lt_of_le h hs | exact ⟨Nat.lt_of_lt_of_le h.1 hs, Nat.lt_of_lt_of_le h.2 hs⟩
theorem WOk.mono {m : List Nat} {l l' s s' : Nat} {w : Rc} (h : WOk m l s w) (hl : l ≤ l') (hs : s ≤ s') : WOk m l' s' w := ⟨h.ins.mono hl hs, fun c hc => (h.ch c hc).mono hl⟩
def RI (m : List Nat) (s : Ms) : Prop := ∀ b ∈ s.bs, ∀ w ∈ b.rows, WOk m s.lab s.spare w
section
variable {m : List Nat}
theorem RI.put {s : Ms} {ch : List Ct} {p : List Nat} {i : Ins} (h : RI m s) (hi : IOk m s.lab s.spare i) (hc : ∀ c ∈ ch, CtOk s.lab c) : RI m (s.put ch p i) := fun b hb w hw => by
  rcases List.mem_append.mp hb with hb | hb
  · exact h b (List.mem_append_left _ hb) w hw
  · have e : b = (s.put ch p i).cur := by simpa using hb
    subst e
    rcases List.mem_append.mp hw with hw | hw
    · exact h s.cur (by simp [Ms.bs]) w hw
    · have e : w = ⟨i, ch, p, s.tall⟩ := by simpa using hw
      subst e
      exact ⟨hi, hc⟩
theorem RI.beg {s : Ms} {l : Nat} {c : Bool} {t : Int} (h : RI m s) : RI m (s.beg l c t) := fun b hb w hw => by
  rcases List.mem_append.mp hb with hb | hb
  · exact h b hb w hw
  · have e : b = (s.beg l c t).cur := by simpa using hb
    subst e
    cases hw
theorem RI.begN {s : Ms} (h : RI m s) : RI m s.begN := fun b hb w hw => by
  rcases List.mem_append.mp hb with hb | hb
  · exact (h b hb w hw).mono (Nat.le_succ _) (Nat.le_refl _)
  · have e : b = s.begN.cur := by simpa using hb
    subst e
    cases hw
theorem RI.labs {s : Ms} {n : Nat} (h : RI m s) : RI m (s.labs n) := fun b hb w hw => (h b hb w hw).mono (Nat.le_add_right _ _) (Nat.le_refl _)
theorem RI.boxs {s : Ms} {n : Nat} (h : RI m s) : RI m (s.boxs n) := fun b hb w hw => (h b hb w hw).mono (Nat.le_refl _) (Nat.le_add_right _ _)
/-- leaves, from label L on -/
structure LvR (m : List Nat) (L : Nat) (ls : List Lv) : Prop where
  lp : ∀ a, Lv.loop a ∈ ls → a < L
  fn : ∀ f, Lv.fin f ∈ ls → ∀ s, L ≤ s.lab → 8 ≤ s.spare → RI m s → RI m (f s)
theorem LvR.mono {L L' : Nat} {ls : List Lv} (h : LvR m L ls) (hl : L ≤ L') : LvR m L' ls := ⟨fun a ha => Nat.lt_of_lt_of_le (h.lp a ha) hl, fun f hf s h1 h2 h3 => h.fn f hf s (Nat.le_trans hl h1) h2 h3⟩
theorem LvR.tl {x : Lv} {L : Nat} {ls : List Lv} (h : LvR m L (x :: ls)) : LvR m L ls := ⟨fun a ha => h.lp a (List.mem_cons_of_mem _ ha), fun f hf => h.fn f (List.mem_cons_of_mem _ hf)⟩
theorem LvR.loop {a L : Nat} {ls : List Lv} (ha : a < L) (h : LvR m L ls) : LvR m L (.loop a :: ls) := ⟨fun b hb => by
  rcases List.mem_cons.mp hb with z | z
  · cases z; exact ha
  · exact h.lp b z, fun f hf => by
  rcases List.mem_cons.mp hf with z | z
  · cases z
  · exact h.fn f z⟩
theorem LvR.fin {g : Ms → Ms} {L : Nat} {ls : List Lv} (hg : ∀ s, L ≤ s.lab → 8 ≤ s.spare → RI m s → RI m (g s)) (h : LvR m L ls) : LvR m L (.fin g :: ls) := ⟨fun b hb => by
  rcases List.mem_cons.mp hb with z | z
  · cases z
  · exact h.lp b z, fun f hf => by
  rcases List.mem_cons.mp hf with z | z
  · cases z; exact hg
  · exact h.fn f z⟩
end
end CL
namespace CL
open PySem L2
/-- what is known of blocks and their order -/
structure LayX (F : Cd1) (o : List Nat) (many : List Nat) (lab spare : Nat) : Prop where
  nd : (F.bs.map (·.lab)).Nodup
  on : o.Nodup
  oi : ∀ k, k ∈ o ↔ k < F.bs.length
  rows : ∀ b ∈ F.bs, ∀ w ∈ b.rows, WOk many lab spare w
  labs : ∀ l, l < lab → ∃ (k : Nat) (b : Blk), F.bs[k]? = some b ∧ b.lab = l
  entl : F.ent.length = many.length
  ent : ∀ (g l : Nat), F.ent[g]? = some l → l < lab
  last : ∀ (k : Nat) (b : Blk), F.bs[k]? = some b → b.falls = true → k + 1 < F.bs.length
def plc (F : Cd1) (o : List Nat) (k i : Nat) : Nat := match F.bs[k]? with
  | some b => stOf b.lab (lay F.bs o) + i
  | none => 0
section
variable {F : Cd1} {o many : List Nat} {lab spare B g0 : Nat}
theorem plc_of {k i : Nat} {b : Blk} (hb : F.bs[k]? = some b) : plc F o k i = stOf b.lab (lay F.bs o) + i := by unfold plc; rw [hb]
/-- a label's place -/
theorem LayX.ix (X : LayX F o many lab spare) {l : Nat} (hl : l < lab) : (∃ b, F.bs[F.ix l]? = some b ∧ b.lab = l) ∧ plc F o (F.ix l) 0 = stOf l (lay F.bs o) := by
  obtain ⟨k, b, h1, h2⟩ := X.labs l hl
  have := ix_of X.nd h1
  rw [h2] at this
  rw [this]
  exact ⟨⟨b, h1, h2⟩, by rw [plc_of h1, h2]; rfl⟩
end
end CL
namespace CL
open PySem L2
def Ins.thr : Ins → Bool
  | .throw _ => true
  | .rethrow _ _ => true
  | .call _ _ => true
  | .sign .div => true
  | _ => false
section
end
end CL
namespace CL
open PySem L2
end CL
namespace CL
open PySem L2
def RL (s : Ms) : Prop := ∀ b ∈ s.bs, ∀ w ∈ b.rows, w.ch.length ≤ 35
theorem RL.put {s : Ms} {ch : List Ct} {p : List Nat} {i : Ins} (h : RL s) (hc : ch.length ≤ 35) : RL (s.put ch p i) := fun b hb w hw => by
  rcases List.mem_append.mp hb with hb | hb
  · exact h b (List.mem_append_left _ hb) w hw
  · have e : b = (s.put ch p i).cur := by simpa using hb
    subst e
    rcases List.mem_append.mp hw with hw | hw
    · exact h s.cur (by simp [Ms.bs]) w hw
    · have e : w = ⟨i, ch, p, s.tall⟩ := by simpa using hw
      subst e
      exact hc
theorem RL.beg {s : Ms} {l : Nat} {c : Bool} {t : Int} (h : RL s) : RL (s.beg l c t) := fun b hb w hw => by
  rcases List.mem_append.mp hb with hb | hb
  · exact h b hb w hw
  · have e : b = (s.beg l c t).cur := by simpa using hb
    subst e
    cases hw
theorem RL.begN {s : Ms} (h : RL s) : RL s.begN := fun b hb w hw => by
  rcases List.mem_append.mp hb with hb | hb
  · exact h b hb w hw
  · have e : b = s.begN.cur := by simpa using hb
    subst e
    cases hw
theorem RL.labs {s : Ms} {n : Nat} (h : RL s) : RL (s.labs n) := h
theorem RL.boxs {s : Ms} {n : Nat} (h : RL s) : RL (s.boxs n) := h
def LvL (ls : List Lv) : Prop := ∀ f, Lv.fin f ∈ ls → ∀ s, RL s → RL (f s)
theorem LvL.tl {x : Lv} {ls : List Lv} (h : LvL (x :: ls)) : LvL ls := fun f hf => h f (List.mem_cons_of_mem _ hf)
theorem LvL.loop {a : Nat} {ls : List Lv} (h : LvL ls) : LvL (.loop a :: ls) := fun f hf => by
  rcases List.mem_cons.mp hf with z | z
  · cases z
  · exact h f z
theorem LvL.fin {g : Ms → Ms} {ls : List Lv} (hg : ∀ s, RL s → RL (g s)) (h : LvL ls) : LvL (.fin g :: ls) := fun f hf => by
  rcases List.mem_cons.mp hf with z | z
  · cases z; exact hg
  · exact h f z
end CL
namespace CL
open PySem L2
abbrev Rg2 := Nat × Nat × List Ct
/-- ranges that rise -/
def Rise : Nat → List Rg2 → Prop
  | _, [] => True
  | a, (b, e, ch) :: r => a ≤ b ∧ b < e ∧ ch ≠ [] ∧ Rise e r
end CL
namespace CL
open PySem L2
def ctD (c : Ct) : Da := .tup [onD c.1, .int c.2.1, .bl c.2.2]
def chD (ch : List Ct) : Da := .tup (ch.map ctD)
def rg2D (x : Rg2) : Da := .tup [.int (x.1 : Nat), .int (x.2.1 : Nat), chD x.2.2]
def tbD (T : List Rg2) : Da := .lst (T.map rg2D)
theorem some_lt' {st : Store} {i : Nat} {c : Cell} (h : st[i]? = some c) : i < st.length := (List.getElem?_eq_some_iff.mp h).1
section
variable {st : Store} {post : Da → Store → Prop} {ex : Str → List Da → Store → Prop}
theorem wq_add_ll {xs ys : List Da} (h : xs.length + ys.length ≤ 1000000) : Wq (addD (.lst xs) (.lst ys)) st post ex ↔ post (.lst (xs ++ ys)) st := by
  rw [wq_iff]; unfold Wp addD; simp [lsOf, szD]; rw [if_pos h]
theorem deq_onD {a b : Option Nat} : deq (onD a) (onD b) = decide (a = b) := by
  cases a <;> cases b <;> simp [onD]
  omega
theorem deq_ct {a b : Ct} : deq (ctD a) (ctD b) = decide (a = b) := by
  obtain ⟨a1, a2, a3⟩ := a
  obtain ⟨b1, b2, b3⟩ := b
  have e : ((a2 : Int) = b2) ↔ a2 = b2 := by omega
  have n0 : deqL [] [] = true := by simp [deqL, toPyL, PyData.eqvAll]
  simp only [ctD, deq_tup, deqL_cons, deq_onD, deq_int, deq_bl, n0, e]
  cases a3 <;> cases b3 <;> by_cases h1 : a1 = b1 <;> by_cases h2 : a2 = b2 <;> simp [h1, h2]
theorem deqL_cts : ∀ a b : List Ct, deqL (a.map ctD) (b.map ctD) = decide (a = b)
  | [], [] => by simp [deqL, toPyL, PyData.eqvAll]
  | [], b :: r => by simp [deqL, toPyL, PyData.eqvAll]
  | a :: r, [] => by simp [deqL, toPyL, PyData.eqvAll]
  | a :: r, b :: s => by
    rw [List.map_cons, List.map_cons, deqL_cons, deq_ct, deqL_cts r s]
    simp
theorem deq_chD (a b : List Ct) : deq (chD a) (chD b) = decide (a = b) := by unfold chD; rw [deq_tup, deqL_cts]
end
end CL
namespace CL
open PySem L2
structure Kx (st st' : Store) : Prop where
  len : st.length ≤ st'.length
  at_ : ∀ i, i < st.length → st'[i]? = st[i]?
theorem Kx.refl {st : Store} : Kx st st := ⟨Nat.le_refl _, fun _ _ => rfl⟩
theorem Kx.trans {a b c : Store} (h : Kx a b) (g : Kx b c) : Kx a c := ⟨Nat.le_trans h.len g.len, fun i hi => by rw [g.at_ i (Nat.lt_of_lt_of_le hi h.len), h.at_ i hi]⟩
theorem Kx.push {a b : Store} {c : Cell} (h : Kx a b) : Kx a (b ++ [c]) := ⟨by simp; have := h.len; omega, fun i hi => by rw [List.getElem?_append_left (Nat.lt_of_lt_of_le hi h.len), h.at_ i hi]⟩
theorem Kx.set {a b : Store} {c : Cell} {n : Nat} (h : Kx a b) (hn : a.length ≤ n) : Kx a (b.set n c) := ⟨by simp; exact h.len, fun i hi => by rw [List.getElem?_set_ne (by omega), h.at_ i hi]⟩
theorem Kx.get {a b : Store} {c : Cell} {n : Nat} (h : Kx a b) (hn : a[n]? = some c) : b[n]? = some c := by rw [h.at_ n (some_lt hn)]; exact hn
theorem Tw.kx {t r : Nat} {a b : Store} (h : Tw t r a) (k : Kx a b) : Tw t r b := by
  obtain ⟨hne, ⟨j, rest, hrest, hk⟩, xs, hx, hr⟩ := h
  exact ⟨hne, ⟨j, rest, hrest, k.get hk⟩, xs, hx, k.get hr⟩
end CL
namespace CL
open PySem L2
def dig (n : Nat) : List Nat := if n < 128 then [n] else (n % 128 + 128) :: dig (n / 128)
termination_by n
decreasing_by omega
theorem dig_lt {n : Nat} (h : n < 128) : dig n = [n] := by rw [dig, if_pos h]
theorem dig_ge {n : Nat} (h : ¬ n < 128) : dig n = (n % 128 + 128) :: dig (n / 128) := by rw [dig, if_neg h]
theorem dig_le (n : Nat) : ∀ d ∈ dig n, d ≤ 255 := by
  induction n using Nat.strongRecOn with
  | _ n ih =>
    by_cases h : n < 128
    · rw [dig_lt h]; simp; omega
    · rw [dig_ge h]
      intro d hd
      rcases List.mem_cons.mp hd with rfl | hd
      · omega
      · exact ih (n / 128) (by omega) d hd
theorem dig_len {n : Nat} (h : n < 2097152) : (dig n).length ≤ 3 := by
  by_cases h1 : n < 128
  · rw [dig_lt h1]; simp
  · rw [dig_ge h1, List.length_cons]
    by_cases h2 : n / 128 < 128
    · rw [dig_lt h2]; simp
    · rw [dig_ge h2, List.length_cons, dig_lt (by omega)]
      simp
abbrev inL (xs : List Nat) : List Da := xs.map fun (k : Nat) => Da.int k
section
variable {st : Store}
def SmI (n : Nat) (st : Store) (k : Nat) (ro : Sl) (s : Store) : Prop := ∃ (m : Nat) (pre : List Nat), k = m ∧ ro = [some (.int (m : Nat)), some (.han st.length)] ∧ s = st ++ [.lst (inL pre)] ∧ pre ++ dig m = dig n ∧ m ≤ n ∧ pre.length ≤ 100 ∧ m * 128 ^ pre.length ≤ n
theorem small_ok {n : Nat} (hn : n < 1000000) : Wq (f_small [.int (n : Nat)]) st (fun d s => d = .han (st.length + 1) ∧ s[st.length + 1]? = some (.lst (inL (dig n))) ∧ Kx st s ∧ s.length = st.length + 2) noEx := by
  unfold f_small m_small
  simp [startS, -wq_mSeq]
  rw [wq_mSeq]
  simp [-wq_mSeq]
  rw [wq_mSeq]
  refine wq_whileI (SmI n st) ?_ _ n (by omega) ⟨n, [], rfl, rfl, by simp, rfl, Nat.le_refl _, by simp, by simp⟩
  rintro k ro s ⟨m, pre, rfl, rfl, rfl, e, hm, hl, hp⟩
  have hc : (st ++ [Cell.lst (inL pre)])[st.length]? = some (.lst (inL pre)) := by simp
  by_cases h : k < 128
  · have h' : ¬ ((127 : Int) < (k : Int)) := by omega
    rw [dig_lt h] at e
    simp [h']
    have hlen : (dig n).length ≤ 3 := dig_len (by omega)
    have hpl : pre.length + 1 ≤ 3 := by rw [← e] at hlen; simpa using hlen
    rw [wq_catL_g (lsOf_han hc) rfl (by simp; omega)]
    have e2 : inL pre ++ [Da.int k] = inL (dig n) := by rw [← e]; simp
    rw [e2]
    refine wq_iff.mpr ?_
    show Wp _ _ _ _
    simp [Wp]
    exact ⟨by simp, fun i hi => by rw [List.getElem?_append_left hi]⟩
  · have h' : ((127 : Int) < (k : Int)) := by omega
    have hd : CDiv (k : Int) 128 := ⟨by decide, by decide⟩
    rw [dig_ge h] at e
    have hlen : (dig n).length ≤ 3 := dig_len (by omega)
    have hpl : pre.length + 1 ≤ 3 := by
      rw [← e, List.length_append, List.length_cons] at hlen
      omega
    simp [h']
    rw [wq_isLs_h hc]
    simp
    rw [wq_appD hc (by simp; omega)]
    simp
    rw [wq_fdivA hd]
    simp [loopP]
    refine ⟨k / 128, by omega, k / 128, pre ++ [k % 128 + 128], rfl, by simp, ?_, by simpa using e, by omega, by simp; omega, ?_⟩
    · have em : Int.fmod (k : Int) 128 = ((k % 128 : Nat) : Int) := by rw [Int.fmod_eq_emod_of_nonneg _ (by decide)]; omega
      simp [em]
    · rw [List.length_append, List.length_singleton, Nat.pow_succ]
      calc k / 128 * (128 ^ pre.length * 128) = (k / 128 * 128) * 128 ^ pre.length := by rw [Nat.mul_comm (128 ^ pre.length) 128, Nat.mul_assoc]
        _ ≤ k * 128 ^ pre.length := Nat.mul_le_mul_right _ (Nat.div_mul_le_self _ _)
        _ ≤ n := hp
theorem bytes_ok {n : Nat} (hn : n < 1000000) : Wq (f__law_bytes [.int (n : Nat)]) st (fun d s => d = .lst (inL (dig n)) ∧ Kx st s) noEx := by
  unfold f__law_bytes m__law_bytes
  simp [startS, -wq_mSeq]
  rw [wq_mSeq]
  simp [-wq_mSeq]
  rw [wq_mSeq]
  refine wq_whileI (SmI n st) ?_ _ n (by omega) ⟨n, [], rfl, rfl, by simp, rfl, Nat.le_refl _, by simp, by simp⟩
  rintro k ro s ⟨m, pre, rfl, rfl, rfl, e, hm, hl, hp⟩
  have hc : (st ++ [Cell.lst (inL pre)])[st.length]? = some (.lst (inL pre)) := by simp
  by_cases h : k < 128
  · have h' : ¬ ((128 : Int) ≤ (k : Int)) := by omega
    rw [dig_lt h] at e
    simp [h']
    have hlen : (dig n).length ≤ 3 := dig_len (by omega)
    have hpl : pre.length + 1 ≤ 3 := by rw [← e] at hlen; simpa using hlen
    rw [wq_catL_g (lsOf_han hc) rfl (by simp; omega)]
    have e2 : inL pre ++ [Da.int k] = inL (dig n) := by rw [← e]; simp
    rw [e2]
    simp
    exact ⟨by simp, fun i hi => by rw [List.getElem?_append_left hi]⟩
  · have h' : ((128 : Int) ≤ (k : Int)) := by omega
    have hd : CDivN (k : Int) 128 := ⟨by decide, by decide⟩
    rw [dig_ge h] at e
    have hlen : (dig n).length ≤ 3 := dig_len (by omega)
    have hpl : pre.length + 1 ≤ 3 := by
      rw [← e, List.length_append, List.length_cons] at hlen
      omega
    simp [h']
    rw [wq_isLs_h hc]
    simp
    rw [wq_appD hc (by simp; omega)]
    simp [hd, loopP]
    refine ⟨k / 128, by omega, k / 128, pre ++ [k % 128 + 128], rfl, ?_, ?_, by simpa using e, by omega, by simp; omega, ?_⟩
    · have em : Int.fdiv (k : Int) 128 = ((k / 128 : Nat) : Int) := by rw [Int.fdiv_eq_ediv_of_nonneg _ (by decide)]; omega
      simp [em]
    · have em : Int.fmod (k : Int) 128 = ((k % 128 : Nat) : Int) := by rw [Int.fmod_eq_emod_of_nonneg _ (by decide)]; omega
      simp [em]
      omega
    · rw [List.length_append, List.length_singleton, Nat.pow_succ]
      calc k / 128 * (128 ^ pre.length * 128) = (k / 128 * 128) * 128 ^ pre.length := by rw [Nat.mul_comm (128 ^ pre.length) 128, Nat.mul_assoc]
        _ ≤ k * 128 ^ pre.length := Nat.mul_le_mul_right _ (Nat.div_mul_le_self _ _)
        _ ≤ n := hp
end
end CL
namespace CL
open PySem L2
def LsAt (d : Da) (xs : List Da) (st : Store) : Prop := d = .lst xs ∨ ∃ q, d = .han q ∧ st[q]? = some (.lst xs)
section
variable {d : Da} {xs : List Da} {st st' : Store} {post : Da → Store → Prop} {postL : List Da → Store → Prop} {ex : Str → List Da → Store → Prop}
theorem LsAt.mono (h : LsAt d xs st) (hl : st.length ≤ st'.length) (hg : ∀ j, j < st.length → st'[j]? = st[j]?) : LsAt d xs st' := by
  rcases h with h | ⟨q, h1, h2⟩
  · exact .inl h
  · exact .inr ⟨q, h1, by rw [hg q (List.getElem?_eq_some_iff.mp h2).1]; exact h2⟩
theorem wq_is_han {b : Bool} {n : Nat} : Wq (isB b (.han n) .non) st post ex ↔ post (.bl b) st := by cases b <;> exact wq_iff
theorem LsAt.isL (h : LsAt d xs st) {t : Tn} : Wq (isT t d) st post ex ↔ post (.bl (isTn .list t)) st := by
  rcases h with rfl | ⟨q, rfl, h⟩
  · exact wq_isT rfl
  · exact wq_isT_h h
theorem LsAt.list (h : LsAt d xs st) : Wq (listD d) st postL ex ↔ postL xs st := by
  rcases h with rfl | ⟨q, rfl, h⟩
  · exact wq_list_l
  · exact wq_list_h h
theorem LsAt.len (h : LsAt d xs st) : Wq (lenD d) st post ex ↔ post (.int xs.length) st := by
  rcases h with rfl | ⟨q, rfl, h⟩
  · simp
  · exact wq_len_h h
theorem LsAt.ix {xs : List Da} (h : LsAt d xs st) {i : Int} {x : Da} (hx : atI xs i = some x) : Wq (ixD d (.int i)) st post ex ↔ post x st := by
  rcases h with rfl | ⟨q, rfl, h⟩
  · exact wq_ix_l hx
  · exact wq_ix_h h hx
end
end CL
namespace CL
open PySem L2
theorem ch_pl60 (ch : List Ct) : pl 60 (chD ch) = true := by
  have h2 : plL 59 (ch.map ctD) = true := by
    rw [plL_all, List.all_eq_true]
    intro x hx
    obtain ⟨⟨a, b, c⟩, _, rfl⟩ := List.mem_map.mp hx
    cases a <;> simp [ctD, onD, pl, plL]
  simpa [chD, pl] using h2
theorem ch_pl58 (ch : List Ct) : pl 58 (chD ch) = true := by
  have h2 : plL 57 (ch.map ctD) = true := by
    rw [plL_all, List.all_eq_true]
    intro x hx
    obtain ⟨⟨a, b, c⟩, _, rfl⟩ := List.mem_map.mp hx
    cases a <;> simp [ctD, onD, pl, plL]
  simpa [chD, pl] using h2
theorem chs_pl (cs : List (List Ct)) : plL 59 (cs.map chD) = true := by
  rw [plL_all, List.all_eq_true]
  intro x hx
  obtain ⟨a, _, rfl⟩ := List.mem_map.mp hx
  exact pl_le _ _ _ (by decide) (ch_pl58 a)
section
variable {st : Store} {post : Da → Store → Prop} {ex : Str → List Da → Store → Prop}
theorem any_chD (cs : List (List Ct)) (ch : List Ct) : ((cs.map chD).any fun z => deq z (chD ch)) = decide (ch ∈ cs) := by
  rw [List.any_map]
  induction cs with
  | nil => simp
  | cons a r ih =>
    rw [List.any_cons, ih]
    simp only [Function.comp_def, deq_chD]
    by_cases h : a = ch
    · subst h; simp
    · have : ¬ ch = a := fun z => h z.symm
      simp [h, this]
theorem wq_inU_ch {neg : Bool} {n : Nat} {cs : List (List Ct)} {ch : List Ct} (h : st[n]? = some (.lst (cs.map chD))) : Wq (inU neg (chD ch) (.han n)) st post ex ↔ post (.bl (if neg then !decide (ch ∈ cs) else decide (ch ∈ cs))) st := by
  rw [wq_inI (pl_is (n := 60) (by decide) (ch_pl60 ch)) (qs := toPyL (cs.map chD)) (.inr (han_is (n := 59) (by decide) h (chs_pl cs))), any_py, any_chD]
/-- each list of catchers once -/
def chsOf (T : List Rg2) : List (List Ct) := T.foldl (fun a x => if x.2.2 ∈ a then a else a ++ [x.2.2]) []
theorem chsOf_snoc {T : List Rg2} {x : Rg2} : chsOf (T ++ [x]) = if x.2.2 ∈ chsOf T then chsOf T else chsOf T ++ [x.2.2] := by unfold chsOf; rw [List.foldl_append]; rfl
theorem snoc_ind {α : Type} {Q : List α → Prop} (h0 : Q []) (hs : ∀ l a, Q l → Q (l ++ [a])) (l : List α) : Q l := by
  have h : ∀ r : List α, Q r.reverse := by
    intro r
    induction r with
    | nil => exact h0
    | cons a r ih => rw [List.reverse_cons]; exact hs _ a ih
  have := h l.reverse
  rwa [List.reverse_reverse] at this
theorem chsOf_len (T : List Rg2) : (chsOf T).length ≤ T.length := by
  refine snoc_ind (Q := fun T => (chsOf T).length ≤ T.length) (by simp [chsOf]) (fun T x ih => ?_) T
  rw [chsOf_snoc]
  split
  · simp; omega
  · simp; exact ih
theorem chsOf_mem (T : List Rg2) : ∀ x ∈ T, x.2.2 ∈ chsOf T := by
  refine snoc_ind (Q := fun T => ∀ x ∈ T, x.2.2 ∈ chsOf T) (by simp) (fun T y ih => ?_) T
  intro x hx
  rw [chsOf_snoc]
  rcases List.mem_append.mp hx with z | z
  · have := ih x z
    split
    · exact this
    · exact List.mem_append_left _ this
  · have e : x = y := by simpa using z
    subst e
    split
    · assumption
    · simp
def ChI (T : List Rg2) (d : Da) (st : Store) (i : Nat) (ro : Sl) (s : Store) : Prop := ∃ o2 o3 o4, ro = [some d, some (.han st.length), o2, o3, o4] ∧ s = st ++ [.lst ((chsOf (T.take i)).map chD)]
theorem chains_ok {T : List Rg2} {d : Da} (hT : T.length < 1000000) (hd : LsAt d (T.map rg2D) st) : Wq (f_chains_of [d]) st (fun x s => x = .lst ((chsOf T).map chD) ∧ Kx st s) noEx := by
  have step : ∀ (i : Nat) (x : Da) (ro : Sl) (s : Store), (T.map rg2D)[i]? = some x → ChI T d st i ro s → ∃ ro1, (gT 3 (gsC (gN 2) (gsC (gN 3) (gsC (gN 4) gsN)))) x ro = some ro1 ∧ ∀ {postF : Fl → Store → Prop}, Wq ((mIf (tst (e2 (inU true) (eVar 4) (eVar 1))) (mExpr (eApp (eVar 1) (eVar 4))) mNil) ro1) s (loopP (ChI T d st (i + 1)) postF) noEx := by
    rintro i x ro s hx ⟨o2, o3, o4, rfl, rfl⟩
    rw [List.getElem?_map] at hx
    cases hfi : T[i]? with
    | none => rw [hfi] at hx; simp at hx
    | some y =>
      rw [hfi] at hx
      simp at hx
      subst hx
      have hil := (List.getElem?_eq_some_iff.mp hfi).1
      refine ⟨[some d, some (.han st.length), some (.int (y.1 : Nat)), some (.int (y.2.1 : Nat)), some (chD y.2.2)], rfl, fun {postF} => ?_⟩
      have hc : (st ++ [Cell.lst ((chsOf (T.take i)).map chD)])[st.length]? = some (.lst ((chsOf (T.take i)).map chD)) := by simp
      have et : T.take (i + 1) = T.take i ++ [y] := by rw [List.take_add_one, hfi]; rfl
      have hl := chsOf_len (T.take i)
      simp at hl
      simp
      rw [wq_inU_ch hc]
      by_cases hm : y.2.2 ∈ chsOf (T.take i)
      · simp [hm]
        refine ⟨_, _, _, rfl, ?_⟩
        rw [et, chsOf_snoc, if_pos hm]
      · simp [hm]
        rw [wq_isLs_h hc]
        simp
        rw [wq_appD hc (by simp; omega)]
        simp
        refine ⟨_, _, _, rfl, ?_⟩
        rw [et, chsOf_snoc, if_neg hm]
        simp
  have fin : ∀ (ro : Sl) (s : Store), ChI T d st T.length ro s → Wq (mRet (eF (eVar 1)) ro) s (kb fnE (fun x s => x = .lst ((chsOf T).map chD) ∧ Kx st s) noEx) noEx := by
    rintro ro s ⟨o2, o3, o4, rfl, rfl⟩
    rw [List.take_length]
    have hc : (st ++ [Cell.lst ((chsOf T).map chD)])[st.length]? = some (.lst ((chsOf T).map chD)) := by simp
    simp
    rw [wq_fz hc]
    simp
    exact ⟨by simp, fun i hi => by rw [List.getElem?_append_left hi]⟩
  unfold f_chains_of m_chains_of
  simp [startS, -wq_mSeq]
  rw [wq_mSeq]
  simp [-wq_mSeq]
  rw [wq_mSeq]
  simp [-wq_mSeq]
  rcases hd with rfl | ⟨q, rfl, hq⟩
  · simp [-wq_mSeq]
    refine wq_forI (ChI T _ st) ⟨none, none, none, rfl, by simp [chsOf]⟩ (fun i x ro s hx hI => let ⟨ro1, h1, h2⟩ := step i x ro s hx hI; ⟨ro1, h1, h2⟩) (fun ro s hI => ?_)
    simp only [List.length_map] at hI
    exact fin ro s hI
  · have hq' : ∀ c : Cell, (st ++ [c])[q]? = some (.lst (T.map rg2D)) := fun c => by rw [List.getElem?_append_left (some_lt' hq)]; exact hq
    rw [wq_srcV_h (hq' _)]
    simp only [kb_app]
    refine wq_forIh (ChI T _ st) ⟨none, none, none, rfl, by simp [chsOf]⟩ (fun i ro s hI => by obtain ⟨o2, o3, o4, rfl, rfl⟩ := hI; exact hq' _) (fun i x ro s hx hI => let ⟨ro1, h1, h2⟩ := step i x ro s hx hI; ⟨ro1, h1, h2⟩) (fun ro s hI => ?_)
    simp only [List.length_map] at hI
    exact fin ro s hI
end
end CL
namespace CL
open PySem L2
def sgn (c : Ct) : Nat := (match c.1 with | none => 0 | some k => 2 * (k + 1)) + (if c.2.2 = true then 1 else 0)
def pkC (c : Ct) : List Nat := dig (sgn c) ++ dig c.2.1
def pkCh (ch : List Ct) : List Nat := dig ch.length ++ ch.flatMap pkC
def pkR (cs : List (List Ct)) : Nat → List Rg2 → List Nat
  | _, [] => []
  | a, (b, e, ch) :: r => dig (b - a) ++ dig (e - b) ++ dig (cs.idxOf ch) ++ pkR cs e r
def pk (T : List Rg2) : List Nat := dig (chsOf T).length ++ (chsOf T).flatMap pkCh ++ dig T.length ++ pkR (chsOf T) 0 T
section
variable {st s : Store} {f : Nat} {acc : List Nat}
/-- the bytes of a number are put behind what is there -/
theorem emit {n : Nat} {ro : Sl} {e : Sl → Mo Da} (hr : ro[2]? = some (some (.han f))) (hn : n < 1000000) (hf : st.length ≤ f) (hc : s[f]? = some (.lst (inL acc))) (hl : acc.length ≤ 900000) (k : Kx st s) (he : ∀ {post : Da → Store → Prop} {ex : Str → List Da → Store → Prop}, Wq (e ro) s post ex ↔ post (.int (n : Nat)) s) {postF : Fl → Store → Prop} {ex : Str → List Da → Store → Prop}
    (hp : ∀ s', s'[f]? = some (.lst (inL (acc ++ dig n))) → Kx st s' → postF (.nx ro) s') : Wq (mExt 2 (eCall (fun ds => ar 1 f_small ds) (aCons e aNil)) ro) s postF ex := by
  have hd := dig_len (n := n) (by omega)
  rw [wq_mExt, wq_var hr]
  simp [he]
  refine (small_ok hn).go ?_
  rintro _ s1 ⟨rfl, h1, k1, l1⟩
  simp
  have hc1 := k1.get hc
  rw [wq_extG hc1 (lsOf_han h1) (by simp; omega)]
  simp
  have e1 : ro.set 2 (some (.han f)) = ro := by
    apply List.ext_getElem?
    intro j
    by_cases z : j = 2
    · subst z; rw [List.getElem?_set_self (List.getElem?_eq_some_iff.mp hr).1, hr]
    · rw [List.getElem?_set_ne (Ne.symm z)]
  rw [e1]
  refine hp _ ?_ ((k.trans k1).set hf)
  rw [List.getElem?_set_self (some_lt' hc1)]
  simp
end
end CL
namespace CL
open PySem L2
section
variable {st s : Store} {f : Nat} {acc : List Nat} {post : Da → Store → Prop} {ex : Str → List Da → Store → Prop} {postF : Fl → Store → Prop}
theorem wq_add_h {n m : Nat} {xs ys : List Da} (h1 : s[n]? = some (.lst xs)) (h2 : s[m]? = some (.lst ys)) (hl : xs.length + ys.length ≤ 1000000) : Wq (addD (.han n) (.han m)) s post ex ↔ post (.lst (xs ++ ys)) s := by
  rw [wq_iff]
  unfold Wp addD
  dsimp only
  rw [lsOf_han h1, lsOf_han h2]
  dsimp only
  have : xs.length + ys.length ≤ szD := hl
  rw [if_pos this]
theorem wq_add_lh {m : Nat} {xs ys : List Da} (h2 : s[m]? = some (.lst ys)) (hl : xs.length + ys.length ≤ 1000000) : Wq (addD (.lst xs) (.han m)) s post ex ↔ post (.lst (xs ++ ys)) s := by
  rw [wq_iff]
  unfold Wp addD
  dsimp only
  rw [lsOf_han h2]
  dsimp only [lsOf]
  have : xs.length + ys.length ≤ szD := hl
  rw [if_pos this]
theorem set_slot {ro : Sl} (hr : ro[2]? = some (some (.han f))) : ro.set 2 (some (.han f)) = ro := by
  apply List.ext_getElem?
  intro j
  by_cases z : j = 2
  · subst z; rw [List.getElem?_set_self (List.getElem?_eq_some_iff.mp hr).1, hr]
  · rw [List.getElem?_set_ne (Ne.symm z)]
/-- the bytes of two numbers -/
theorem emit2 {n m : Nat} {ro : Sl} {e e' : Sl → Mo Da} (hr : ro[2]? = some (some (.han f))) (hn : n < 1000000) (hm : m < 1000000) (hf : st.length ≤ f) (hc : s[f]? = some (.lst (inL acc))) (hl : acc.length ≤ 900000) (k : Kx st s) (he : ∀ {s : Store} {post : Da → Store → Prop} {ex : Str → List Da → Store → Prop}, Wq (e ro) s post ex ↔ post (.int (n : Nat)) s) (he' : ∀ {s : Store} {post : Da → Store → Prop} {ex : Str → List Da → Store → Prop}, Wq (e' ro) s post ex ↔ post (.int (m : Nat)) s)
    (hp : ∀ s', s'[f]? = some (.lst (inL (acc ++ dig n ++ dig m))) → Kx st s' → postF (.nx ro) s') : Wq (mExt 2 (e2 addD (eCall (fun ds => ar 1 f_small ds) (aCons e aNil)) (eCall (fun ds => ar 1 f_small ds) (aCons e' aNil))) ro) s postF ex := by
  have hd := dig_len (n := n) (by omega)
  have hd' := dig_len (n := m) (by omega)
  rw [wq_mExt, wq_var hr]
  simp [he]
  refine (small_ok hn).go ?_
  rintro _ s1 ⟨rfl, h1, k1, l1⟩
  simp [he']
  refine (small_ok hm).go ?_
  rintro _ s2 ⟨rfl, h2, k2, l2⟩
  simp
  rw [wq_add_h (k2.get h1) h2 (by simp; omega)]
  have k3 := k1.trans k2
  have hc3 := k3.get hc
  simp
  rw [wq_extG hc3 (ys := inL (dig n) ++ inL (dig m)) rfl (by simp; omega)]
  simp
  rw [set_slot hr]
  refine hp _ ?_ ((k.trans k3).set hf)
  rw [List.getElem?_set_self (some_lt' hc3)]
  simp
/-- of three -/
theorem emit3 {n m q : Nat} {ro : Sl} {e e' e'' : Sl → Mo Da} (hr : ro[2]? = some (some (.han f))) (hn : n < 1000000) (hm : m < 1000000) (hq : q < 1000000) (hf : st.length ≤ f) (hc : s[f]? = some (.lst (inL acc))) (hl : acc.length ≤ 900000) (k : Kx st s) (he : ∀ {s : Store} {post : Da → Store → Prop} {ex : Str → List Da → Store → Prop}, Wq (e ro) s post ex ↔ post (.int (n : Nat)) s) (he' : ∀ {s : Store} {post : Da → Store → Prop} {ex : Str → List Da → Store → Prop}, Wq (e' ro) s post ex ↔ post (.int (m : Nat)) s) (he'' : ∀ {s : Store} {post : Da → Store → Prop} {ex : Str → List Da → Store → Prop}, Wq (e'' ro) s post ex ↔ post (.int (q : Nat)) s)
    (hp : ∀ s', s'[f]? = some (.lst (inL (acc ++ dig n ++ dig m ++ dig q))) → Kx st s' → postF (.nx ro) s') : Wq (mExt 2 (e2 addD (e2 addD (eCall (fun ds => ar 1 f_small ds) (aCons e aNil)) (eCall (fun ds => ar 1 f_small ds) (aCons e' aNil))) (eCall (fun ds => ar 1 f_small ds) (aCons e'' aNil))) ro) s postF ex := by
  have hd := dig_len (n := n) (by omega)
  have hd' := dig_len (n := m) (by omega)
  have hd'' := dig_len (n := q) (by omega)
  rw [wq_mExt, wq_var hr]
  simp [he]
  refine (small_ok hn).go ?_
  rintro _ s1 ⟨rfl, h1, k1, l1⟩
  simp [he']
  refine (small_ok hm).go ?_
  rintro _ s2 ⟨rfl, h2, k2, l2⟩
  simp
  rw [wq_add_h (k2.get h1) h2 (by simp; omega)]
  simp [he'']
  refine (small_ok hq).go ?_
  rintro _ s3 ⟨rfl, h3, k3, l3⟩
  simp
  rw [wq_add_lh h3 (by simp; omega)]
  have k4 := (k1.trans k2).trans k3
  have hc3 := k4.get hc
  simp
  rw [wq_extG hc3 (ys := inL (dig n) ++ (inL (dig m) ++ inL (dig q))) rfl (by simp; omega)]
  simp
  rw [set_slot hr]
  refine hp _ ?_ ((k.trans k4).set hf)
  rw [List.getElem?_set_self (some_lt' hc3)]
  simp
end
end CL
namespace CL
open PySem L2
def pkIn : Sl → Mo Fl := (mSeq (mSet 10 (eIf (tst (e2 (isB false) (eVar 7) (eC (.non)))) (eC (.int 0)) (e2 addD (eVar 7) (eC (.int 1))))) (mExt 2 (e2 addD (eCall (fun ds => ar 1 f_small ds) (aCons (e2 addD (e2 mulD (eC (.int 2)) (eVar 10)) (eIf (tst (eVar 9)) (eC (.int 1)) (eC (.int 0)))) aNil)) (eCall (fun ds => ar 1 f_small ds) (aCons (eVar 8) aNil)))))
def pkOut : Sl → Mo Fl := (mSeq (mExt 2 (eCall (fun ds => ar 1 f_small ds) (aCons (eCall (one lenD) (aCons (eVar 3) aNil)) aNil))) (mFor (iV (eVar 3)) (gT 3 (gsC (gN 7) (gsC (gN 8) (gsC (gN 9) gsN)))) pkIn))
def pkRow : Sl → Mo Fl := (mSeq (mExt 2 (e2 addD (e2 addD (eCall (fun ds => ar 1 f_small ds) (aCons (e2 subD (eVar 5) (eVar 4)) aNil)) (eCall (fun ds => ar 1 f_small ds) (aCons (e2 subD (eVar 6) (eVar 5)) aNil))) (eCall (fun ds => ar 1 f_small ds) (aCons (eIndex (eVar 1) (eVar 3)) aNil)))) (mSet 4 (eVar 6)))
theorem packed_eq : m_packed f_look_table f_chains_of f_small = (mSeq (mExpr (eCall (fun ds => ar 1 f_look_table ds) (aCons (eVar 0) aNil))) (mSeq (mSet 1 (eCall (fun ds => ar 1 f_chains_of ds) (aCons (eVar 0) aNil))) (mSeq (mSet 2 (eCall (fun ds => ar 1 f_small ds) (aCons (eCall (one lenD) (aCons (eVar 1) aNil)) aNil))) (mSeq (mFor (iV (eVar 1)) (gN 3) pkOut) (mSeq (mExt 2 (eCall (fun ds => ar 1 f_small ds) (aCons (eCall (one lenD) (aCons (eVar 0) aNil)) aNil))) (mSeq (mSet 4 (eC (.int 0))) (mSeq (mFor (iV (eVar 0)) (gT 3 (gsC (gN 5) (gsC (gN 6) (gsC (gN 3) gsN)))) pkRow) (mRet (eVar 2))))))))) := by
  unfold m_packed
  simp only [List.append_nil]
  rfl
section
variable {st s : Store} {f : Nat} {acc : List Nat} {o0 o1 o3 o4 o5 o6 o7 o8 o9 o10 : Option Da}
theorem pkIn_ok {c : Ct} (hk : ∀ k, c.1 = some k → k < 5) (hg : c.2.1 ≤ 100000) (hf : st.length ≤ f) (hc : s[f]? = some (.lst (inL acc))) (hl : acc.length ≤ 900000) (k : Kx st s) :
    Wq (pkIn [o0, o1, some (.han f), o3, o4, o5, o6, some (onD c.1), some (.int (c.2.1 : Nat)), some (.bl c.2.2), o10]) s (fun g s' => (∃ o10, g = .nx [o0, o1, some (.han f), o3, o4, o5, o6, some (onD c.1), some (.int (c.2.1 : Nat)), some (.bl c.2.2), o10]) ∧ s'[f]? = some (.lst (inL (acc ++ pkC c))) ∧ Kx st s') noEx := by
  obtain ⟨c1, c2, c3⟩ := c
  dsimp only at hk hg ⊢
  have go : ∀ q : Nat, q ≤ 5 → sgn (c1, c2, c3) = 2 * q + (if c3 = true then 1 else 0) → Wq (mExt 2 (e2 addD (eCall (fun ds => ar 1 f_small ds) (aCons (e2 addD (e2 mulD (eC (.int 2)) (eVar 10)) (eIf (tst (eVar 9)) (eC (.int 1)) (eC (.int 0)))) aNil)) (eCall (fun ds => ar 1 f_small ds) (aCons (eVar 8) aNil))) [o0, o1, some (.han f), o3, o4, o5, o6, some (onD c1), some (.int (c2 : Nat)), some (.bl c3), some (.int (q : Nat))]) s (fun g s' => (∃ o10, g = .nx [o0, o1, some (.han f), o3, o4, o5, o6, some (onD c1), some (.int (c2 : Nat)), some (.bl c3), o10]) ∧ s'[f]? = some (.lst (inL (acc ++ pkC (c1, c2, c3)))) ∧ Kx st s') noEx := by
    intro q hq hs
    have hcm : CMul 2 (q : Int) := by unfold CMul; omega
    refine emit2 (n := sgn (c1, c2, c3)) (m := c2) rfl (by rw [hs]; split <;> omega) (by omega) hf hc hl k ?_ ?_ ?_
    · intro s post ex
      rw [hs]
      cases c3 <;> simp [hcm]
    · intro s post ex
      simp
    · intro s' h1 h2
      exact ⟨⟨_, rfl⟩, by rw [h1]; simp [pkC], h2⟩
  unfold pkIn
  rw [wq_mSeq]
  cases c1 with
  | none =>
    have := go 0 (by omega) (by simp [sgn])
    simpa [onD, -wq_mExt] using this
  | some j =>
    have hj := hk j rfl
    have := go (j + 1) (by omega) (by simp [sgn])
    simpa [onD, -wq_mExt] using this
def InI (st : Store) (f : Nat) (acc : List Nat) (ch : List Ct) (o0 o1 o3 o4 o5 o6 : Option Da) (i : Nat) (ro : Sl) (s : Store) : Prop := (∃ o7 o8 o9 o10, ro = [o0, o1, some (.han f), o3, o4, o5, o6, o7, o8, o9, o10]) ∧ s[f]? = some (.lst (inL (acc ++ (ch.take i).flatMap pkC))) ∧ Kx st s
theorem pkC_len {c : Ct} (hk : ∀ k, c.1 = some k → k < 5) (hg : c.2.1 ≤ 100000) : (pkC c).length ≤ 6 := by
  have h1 : sgn c < 2097152 := by
    obtain ⟨c1, c2, c3⟩ := c
    cases c1 with
    | none => cases c3 <;> simp [sgn]
    | some k =>
      have := hk k rfl
      cases c3 <;> simp [sgn] <;> omega
  have := dig_len h1
  have := dig_len (n := c.2.1) (by omega)
  unfold pkC
  rw [List.length_append]
  omega
theorem pkCs_len : ∀ ch : List Ct, (∀ c ∈ ch, (∀ k, c.1 = some k → k < 5) ∧ c.2.1 ≤ 100000) → (ch.flatMap pkC).length ≤ 6 * ch.length
  | [], _ => by simp
  | c :: r, h => by
    have h1 := pkC_len (h c (by simp)).1 (h c (by simp)).2
    have h2 := pkCs_len r fun x hx => h x (by simp [hx])
    rw [List.flatMap_cons, List.length_append, List.length_cons]
    omega
theorem pkOut_ok {ch : List Ct} (hch : ∀ c ∈ ch, (∀ k, c.1 = some k → k < 5) ∧ c.2.1 ≤ 100000) (hcl : ch.length ≤ 1000) (hf : st.length ≤ f) (hc : s[f]? = some (.lst (inL acc))) (hl : acc.length ≤ 800000) (k : Kx st s) :
    Wq (pkOut [o0, o1, some (.han f), some (chD ch), o4, o5, o6, o7, o8, o9, o10]) s (fun g s' => (∃ o7 o8 o9 o10, g = .nx [o0, o1, some (.han f), some (chD ch), o4, o5, o6, o7, o8, o9, o10]) ∧ s'[f]? = some (.lst (inL (acc ++ pkCh ch))) ∧ Kx st s') noEx := by
  have hd := dig_len (n := ch.length) (by omega)
  unfold pkOut
  rw [wq_mSeq]
  refine emit (n := ch.length) rfl (by omega) hf hc (by omega) k ?_ fun s1 h1 k1 => ?_
  · intro post ex
    simp [chD]
  simp only [kb_app]
  have ec : chD ch = .tup (ch.map ctD) := rfl
  simp [ec]
  rw [← ec]
  refine wq_forI (InI st f (acc ++ dig ch.length) ch o0 o1 (some (chD ch)) o4 o5 o6) ⟨⟨_, _, _, _, rfl⟩, by simpa using h1, k1⟩ ?_ ?_
  · rintro i x ro s2 hx ⟨⟨p7, p8, p9, p10, rfl⟩, h2, k2⟩
    rw [List.getElem?_map] at hx
    cases hfi : ch[i]? with
    | none => rw [hfi] at hx; simp at hx
    | some c =>
      rw [hfi] at hx
      simp at hx
      subst hx
      have hm := List.mem_of_getElem? hfi
      refine ⟨[o0, o1, some (.han f), some (chD ch), o4, o5, o6, some (onD c.1), some (.int (c.2.1 : Nat)), some (.bl c.2.2), p10], rfl, ?_⟩
      have l2 := pkCs_len (ch.take i) fun x hx => hch x (List.mem_of_mem_take hx)
      have l3 : (ch.take i).length ≤ ch.length := by simp; omega
      refine (pkIn_ok (hch c hm).1 (hch c hm).2 hf h2 (by simp only [List.length_append]; omega) k2).go ?_
      rintro _ s3 ⟨⟨q10, rfl⟩, h3, k3⟩
      refine ⟨⟨_, _, _, _, rfl⟩, ?_, k3⟩
      rw [h3, List.take_add_one, hfi]
      simp
  · rintro ro s2 ⟨⟨p7, p8, p9, p10, rfl⟩, h2, k2⟩
    simp at h2
    refine ⟨⟨_, _, _, _, rfl⟩, ?_, k2⟩
    rw [h2]
    simp [pkCh]
end
end CL
namespace CL
open PySem L2
section
variable {st s : Store} {f : Nat} {acc : List Nat} {o0 o1 o3 o4 o5 o6 o7 o8 o9 o10 : Option Da} {post : Da → Store → Prop} {ex : Str → List Da → Store → Prop}
theorem find_py (cs : List (List Ct)) (ch : List Ct) : (toPyL (cs.map chD)).findIdx? (fun z => PyData.eqv z (toPy (chD ch))) = cs.findIdx? (fun y => decide (y = ch)) := by
  induction cs with
  | nil => rfl
  | cons a r ih =>
    have e : PyData.eqv (toPy (chD a)) (toPy (chD ch)) = decide (a = ch) := by
      have := deq_chD (a := a) (b := ch)
      exact this
    rw [List.map_cons, toPyL, List.findIdx?_cons, List.findIdx?_cons, e, ih]
theorem idxOf_find (cs : List (List Ct)) (ch : List Ct) (h : ch ∈ cs) : cs.findIdx? (fun y => decide (y = ch)) = some (cs.idxOf ch) := by
  induction cs with
  | nil => cases h
  | cons a r ih =>
    rw [List.findIdx?_cons, List.idxOf_cons]
    by_cases e : a = ch
    · subst e; simp
    · have hr : ch ∈ r := by
        rcases List.mem_cons.mp h with z | z
        · exact absurd z.symm e
        · exact z
      have e2 : (a == ch) = false := by simpa using e
      simp [e, e2, ih hr]
theorem wq_index_ch {cs : List (List Ct)} {ch : List Ct} (h : ch ∈ cs) : Wq (indexD (.lst (cs.map chD)) (chD ch)) s post ex ↔ post (.int (cs.idxOf ch : Nat)) s := by
  have h1 := pl_is (st := s) (n := 60) (by decide) (d := .lst (cs.map chD)) (by simpa [pl] using chs_pl cs)
  have h2 := pl_is (st := s) (n := 60) (by decide) (ch_pl60 ch)
  rw [wq_iff]
  unfold Wp indexD
  rw [h1.py, h2.py]
  dsimp only [toPy]
  have s1 := h1.sh
  have s2 := h2.sh
  dsimp only [toPy] at s1
  rw [if_pos (by rw [s1, s2]; rfl), find_py, idxOf_find cs ch h]
theorem pkRow_ok {cs : List (List Ct)} {a : Nat} {x : Rg2} (hx : x.2.2 ∈ cs) (hcs : cs.length ≤ 100000) (h1 : a ≤ x.1) (h2 : x.1 < x.2.1) (h3 : x.2.1 ≤ 100000) (hf : st.length ≤ f) (hc : s[f]? = some (.lst (inL acc))) (hl : acc.length ≤ 900000) (k : Kx st s) :
    Wq (pkRow [o0, some (.lst (cs.map chD)), some (.han f), some (chD x.2.2), some (.int (a : Nat)), some (.int (x.1 : Nat)), some (.int (x.2.1 : Nat)), o7, o8, o9, o10]) s (fun g s' => g = .nx [o0, some (.lst (cs.map chD)), some (.han f), some (chD x.2.2), some (.int (x.2.1 : Nat)), some (.int (x.1 : Nat)), some (.int (x.2.1 : Nat)), o7, o8, o9, o10] ∧ s'[f]? = some (.lst (inL (acc ++ dig (x.1 - a) ++ dig (x.2.1 - x.1) ++ dig (cs.idxOf x.2.2)))) ∧ Kx st s') noEx := by
  have hi : cs.idxOf x.2.2 < cs.length := List.idxOf_lt_length_iff.mpr hx
  unfold pkRow
  rw [wq_mSeq]
  refine emit3 (n := x.1 - a) (m := x.2.1 - x.1) (q := cs.idxOf x.2.2) rfl (by omega) (by omega) (by omega) hf hc hl k ?_ ?_ ?_ ?_
  · intro s post ex
    simp
    rw [show (x.1 : Int) - (a : Int) = ((x.1 - a : Nat) : Int) by omega]
  · intro s post ex
    simp
    rw [show (x.2.1 : Int) - (x.1 : Int) = ((x.2.1 - x.1 : Nat) : Int) by omega]
  · intro s post ex
    simp
    rw [wq_index_ch hx]
  · intro s' e1 e2
    simp
    exact ⟨by simpa using e1, e2⟩
end
end CL
namespace CL
open PySem L2
theorem chsOf_from (T : List Rg2) : ∀ ch ∈ chsOf T, ∃ x ∈ T, x.2.2 = ch := by
  refine snoc_ind (Q := fun T => ∀ ch ∈ chsOf T, ∃ x ∈ T, x.2.2 = ch) (by simp [chsOf]) (fun T y ih => ?_) T
  intro ch hc
  rw [chsOf_snoc] at hc
  have old : ch ∈ chsOf T → ∃ x ∈ T ++ [y], x.2.2 = ch := fun z => by
    obtain ⟨x, h1, h2⟩ := ih ch z
    exact ⟨x, List.mem_append_left _ h1, h2⟩
  split at hc
  · exact old hc
  · rcases List.mem_append.mp hc with z | z
    · exact old z
    · have e : ch = y.2.2 := by simpa using z
      exact ⟨y, by simp, e.symm⟩
def atE : Nat → List Rg2 → Nat
  | a, [] => a
  | _, x :: r => atE x.2.1 r
theorem atE_snoc : ∀ (T : List Rg2) (a : Nat) (x : Rg2), atE a (T ++ [x]) = x.2.1
  | [], a, x => rfl
  | y :: r, a, x => atE_snoc r _ x
theorem pkR_snoc (cs : List (List Ct)) : ∀ (T : List Rg2) (a : Nat) (x : Rg2), pkR cs a (T ++ [x]) = pkR cs a T ++ (dig (x.1 - atE a T) ++ dig (x.2.1 - x.1) ++ dig (cs.idxOf x.2.2))
  | [], a, (b, e, ch) => by simp [pkR, atE]
  | (b, e, ch) :: r, a, x => by
    rw [List.cons_append, pkR, pkR, pkR_snoc cs r e x]
    simp [atE]
theorem Rise.at_ : ∀ {T : List Rg2} {a i : Nat} {x : Rg2}, Rise a T → T[i]? = some x → atE a (T.take i) ≤ x.1 ∧ x.1 < x.2.1
  | [], a, i, x, _, h => by cases h
  | (b, e, ch) :: r, a, 0, x, ⟨h1, h2, _, _⟩, h => by
    have e' : (b, e, ch) = x := by simpa using h
    subst e'
    exact ⟨h1, h2⟩
  | (b, e, ch) :: r, a, i + 1, x, ⟨_, _, _, h4⟩, h => by
    rw [List.take_succ_cons]
    exact Rise.at_ h4 (by simpa using h)
structure Pk (T : List Rg2) : Prop where
  rise : Rise 0 T
  len : T.length ≤ 1000
  in_ : ∀ x ∈ T, x.2.1 ≤ 100000 ∧ x.2.2.length ≤ 100 ∧ ∀ c ∈ x.2.2, (∀ k, c.1 = some k → k < 5) ∧ c.2.1 ≤ 100000
theorem pkCh_len {ch : List Ct} (hl : ch.length ≤ 100) (h : ∀ c ∈ ch, (∀ k, c.1 = some k → k < 5) ∧ c.2.1 ≤ 100000) : (pkCh ch).length ≤ 603 := by
  have h1 := dig_len (n := ch.length) (by omega)
  have h2 := pkCs_len ch h
  unfold pkCh
  rw [List.length_append]
  omega
theorem flat_le {α : Type} {g : α → List Nat} {B : Nat} : ∀ xs : List α, (∀ x ∈ xs, (g x).length ≤ B) → (xs.flatMap g).length ≤ xs.length * B
  | [], _ => by simp
  | x :: r, h => by
    rw [List.flatMap_cons, List.length_append, List.length_cons, Nat.succ_mul]
    have h1 := h x (by simp)
    have h2 := flat_le (g := g) r fun y hy => h y (by simp [hy])
    omega
theorem pkR_len (cs : List (List Ct)) (hcs : cs.length ≤ 1000) : ∀ (T : List Rg2) (a : Nat), (∀ x ∈ T, x.2.1 ≤ 100000 ∧ x.1 ≤ 100000 ∧ x.2.2 ∈ cs) → (pkR cs a T).length ≤ 9 * T.length
  | [], a, _ => by simp [pkR]
  | (b, e, ch) :: r, a, h => by
    have h0 := h (b, e, ch) (by simp)
    dsimp only at h0
    have hi : cs.idxOf ch < cs.length := List.idxOf_lt_length_iff.mpr h0.2.2
    have h1 := dig_len (n := b - a) (by omega)
    have h2 := dig_len (n := e - b) (by omega)
    have h3 := dig_len (n := cs.idxOf ch) (by omega)
    have h4 := pkR_len cs hcs r e fun x hx => h x (by simp [hx])
    rw [pkR]
    simp only [List.length_append, List.length_cons]
    omega
section
variable {st : Store}
def P1I (T : List Rg2) (st : Store) (f : Nat) (i : Nat) (ro : Sl) (s : Store) : Prop := (∃ o3 o7 o8 o9 o10, ro = [some (tbD T), some (.lst ((chsOf T).map chD)), some (.han f), o3, none, none, none, o7, o8, o9, o10]) ∧ s[f]? = some (.lst (inL (dig (chsOf T).length ++ ((chsOf T).take i).flatMap pkCh))) ∧ Kx st s
def P2I (T : List Rg2) (st : Store) (f : Nat) (A : List Nat) (i : Nat) (ro : Sl) (s : Store) : Prop := (∃ o3 o5 o6 o7 o8 o9 o10, ro = [some (tbD T), some (.lst ((chsOf T).map chD)), some (.han f), o3, some (.int (atE 0 (T.take i) : Nat)), o5, o6, o7, o8, o9, o10]) ∧ s[f]? = some (.lst (inL (A ++ pkR (chsOf T) 0 (T.take i)))) ∧ Kx st s
theorem packed_ok {T : List Rg2} (h : Pk T) (hlk : Wq (f_look_table [tbD T]) st (fun x s' => x = .non ∧ st = s') noEx) : Wq (f_packed [tbD T]) st (fun d s => ∃ f, d = .han f ∧ st.length ≤ f ∧ s[f]? = some (.lst (inL (pk T))) ∧ Kx st s) noEx := by
  have hl := h.len
  have hc := chsOf_len T
  have hin : ∀ ch ∈ chsOf T, ch.length ≤ 100 ∧ ∀ c ∈ ch, (∀ k, c.1 = some k → k < 5) ∧ c.2.1 ≤ 100000 := fun ch hch => by
    obtain ⟨x, hx, rfl⟩ := chsOf_from T ch hch
    exact (h.in_ x hx).2
  have dl := dig_len (n := (chsOf T).length) (by omega)
  have dt := dig_len (n := T.length) (by omega)
  unfold f_packed
  rw [packed_eq]
  simp [startS, -wq_mSeq]
  rw [wq_mSeq]
  simp [-wq_mSeq]
  refine hlk.go ?_
  rintro _ _ ⟨rfl, rfl⟩
  simp [-wq_mSeq]
  rw [wq_mSeq]
  simp [-wq_mSeq]
  refine (chains_ok (by omega) (.inl rfl)).go ?_
  rintro _ s1 ⟨rfl, k1⟩
  simp [-wq_mSeq]
  rw [wq_mSeq]
  simp [-wq_mSeq]
  refine (small_ok (n := (chsOf T).length) (by omega)).go ?_
  rintro _ s2 ⟨rfl, h2, k2, l2⟩
  simp [-wq_mSeq]
  rw [wq_mSeq]
  simp [-wq_mSeq]
  have hf : st.length ≤ s1.length + 1 := by have := k1.len; omega
  generalize s1.length + 1 = f at h2 hf ⊢
  refine wq_forI (P1I T st f) ⟨⟨_, _, _, _, _, rfl⟩, by simpa using h2, k1.trans k2⟩ ?_ ?_
  · rintro i x ro s hx ⟨⟨o3, o7, o8, o9, o10, rfl⟩, h3, k3⟩
    rw [List.getElem?_map] at hx
    cases hfi : (chsOf T)[i]? with
    | none => rw [hfi] at hx; simp at hx
    | some ch =>
      rw [hfi] at hx
      simp at hx
      subst hx
      obtain ⟨q1, q2⟩ := hin ch (List.mem_of_getElem? hfi)
      have fl := flat_le (g := pkCh) (B := 603) ((chsOf T).take i) fun y hy => pkCh_len (hin y (List.mem_of_mem_take hy)).1 (hin y (List.mem_of_mem_take hy)).2
      have tl : ((chsOf T).take i).length ≤ 1000 := by simp; omega
      refine ⟨_, rfl, ?_⟩
      refine (pkOut_ok q2 (by omega) hf h3 (by simp only [List.length_append]; omega) k3).go ?_
      rintro _ s4 ⟨⟨p7, p8, p9, p10, rfl⟩, h4, k4⟩
      refine ⟨⟨_, _, _, _, _, rfl⟩, ?_, k4⟩
      rw [h4, List.take_add_one, hfi]
      simp
  rintro ro s3 ⟨⟨o3, o7, o8, o9, o10, rfl⟩, h3, k3⟩
  simp only [List.length_map, List.take_length] at h3
  have fl := flat_le (g := pkCh) (B := 603) (chsOf T) fun y hy => pkCh_len (hin y hy).1 (hin y hy).2
  have fl2 : (chsOf T).length * 603 ≤ 603000 := by omega
  simp [-wq_mSeq, -wq_mExt]
  rw [wq_mSeq]
  refine emit (n := T.length) rfl (by omega) hf h3 (by simp only [List.length_append]; omega) k3 ?_ fun s4 h4 k4 => ?_
  · intro post ex
    simp [tbD]
  simp [-wq_mSeq, -wq_mExt]
  rw [wq_mSeq]
  simp [-wq_mSeq, -wq_mExt]
  rw [wq_mSeq]
  simp [-wq_mSeq, -wq_mExt, tbD]
  refine wq_forI (P2I T st f (dig (chsOf T).length ++ (chsOf T).flatMap pkCh ++ dig T.length)) ⟨⟨_, _, _, _, _, _, _, rfl⟩, by simpa [pkR] using h4, k4⟩ ?_ ?_
  · rintro i x ro s hx ⟨⟨o3, o5, o6, o7, o8, o9, o10, rfl⟩, h5, k5⟩
    rw [List.getElem?_map] at hx
    cases hfi : T[i]? with
    | none => rw [hfi] at hx; simp at hx
    | some y =>
      rw [hfi] at hx
      simp at hx
      subst hx
      have hm := List.mem_of_getElem? hfi
      obtain ⟨r1, r2⟩ := h.rise.at_ hfi
      have hi := h.in_ y hm
      have pl := pkR_len (chsOf T) (by omega) (T.take i) 0 fun z hz => by
        have hz' := List.mem_of_mem_take hz
        obtain ⟨j, hj⟩ := List.mem_iff_getElem?.mp hz'
        have := (h.rise.at_ hj).2
        exact ⟨(h.in_ z hz').1, by have := (h.in_ z hz').1; omega, chsOf_mem T z hz'⟩
      have tl : (T.take i).length ≤ 1000 := by simp; omega
      refine ⟨[some (tbD T), some (.lst ((chsOf T).map chD)), some (.han f), some (chD y.2.2), some (.int (atE 0 (T.take i) : Nat)), some (.int (y.1 : Nat)), some (.int (y.2.1 : Nat)), o7, o8, o9, o10], rfl, ?_⟩
      refine (pkRow_ok (chsOf_mem T y hm) (by omega) r1 r2 hi.1 hf h5 (by simp only [List.length_append]; omega) k5).go ?_
      rintro _ s6 ⟨rfl, h6, k6⟩
      have et : T.take (i + 1) = T.take i ++ [y] := by rw [List.take_add_one, hfi]; rfl
      refine ⟨⟨_, _, _, _, _, _, _, by rw [et, atE_snoc]⟩, ?_, k6⟩
      rw [h6, et, pkR_snoc]
      simp
  rintro ro s5 ⟨⟨o3, o5, o6, o7, o8, o9, o10, rfl⟩, h5, k5⟩
  simp only [List.length_map, List.take_length] at h5
  simp
  exact ⟨hf, by rw [h5]; simp [pk], k5⟩
end
end CL
namespace CL
open PySem L2
def rdN : Nat → List Nat → Option (Nat × List Nat)
  | _, [] => none
  | j, b :: r => if 5 ≤ j then none else if b < 128 then (if b = 0 ∧ 0 < j then none else some (b, r)) else (rdN (j + 1) r).map fun p => (b % 128 + 128 * p.1, p.2)
theorem rdN_dig (n : Nat) : ∀ (j : Nat) (r : List Nat), (dig n).length + j ≤ 5 → (0 < j → 0 < n) → rdN j (dig n ++ r) = some (n, r) := by
  induction n using Nat.strongRecOn with
  | _ n ih =>
    intro j r h1 h2
    by_cases h : n < 128
    · rw [dig_lt h] at h1 ⊢
      simp at h1
      simp only [List.singleton_append, rdN]
      rw [if_neg (by omega), if_pos h, if_neg (by omega)]
    · rw [dig_ge h] at h1 ⊢
      simp at h1
      simp only [List.cons_append, rdN]
      rw [if_neg (by omega), if_neg (by omega), ih (n / 128) (by omega) (j + 1) r (by omega) (by omega)]
      simp
      omega
theorem rdN_of : ∀ (l : List Nat) (j n : Nat) (r : List Nat), (∀ b ∈ l, b ≤ 255) → rdN j l = some (n, r) → l = dig n ++ r ∧ (0 < j → 0 < n) ∧ (dig n).length + j ≤ 5
  | [], j, n, r, _, h => by simp [rdN] at h
  | b :: l, j, n, r, hb, h => by
    simp only [rdN] at h
    by_cases h5 : 5 ≤ j
    · rw [if_pos h5] at h; cases h
    · rw [if_neg h5] at h
      by_cases hl : b < 128
      · rw [if_pos hl] at h
        by_cases h0 : b = 0 ∧ 0 < j
        · rw [if_pos h0] at h; cases h
        · rw [if_neg h0] at h
          cases h
          rw [dig_lt hl]
          refine ⟨rfl, by omega, by simp; omega⟩
      · rw [if_neg hl] at h
        obtain ⟨⟨m, r'⟩, hm, he⟩ := Option.map_eq_some_iff.mp h
        cases he
        obtain ⟨k1, k2, k3⟩ := rdN_of l (j + 1) m r' (fun x hx => hb x (by simp [hx])) hm
        have hb' := hb b (by simp)
        have hm0 := k2 (by omega)
        have hge : ¬ (b % 128 + 128 * m < 128) := by omega
        rw [dig_ge hge]
        have e1 : (b % 128 + 128 * m) % 128 + 128 = b := by omega
        have e2 : (b % 128 + 128 * m) / 128 = m := by omega
        rw [e1, e2]
        refine ⟨by rw [k1]; rfl, by omega, by simp; omega⟩
theorem dig_ne (n : Nat) : 0 < (dig n).length := by
  by_cases h : n < 128
  · rw [dig_lt h]; simp
  · rw [dig_ge h]; simp
theorem rdN_len : ∀ (l : List Nat) (j n : Nat) (r : List Nat), rdN j l = some (n, r) → r.length < l.length ∧ ∃ k, r = l.drop k
  | [], j, n, r, h => by simp [rdN] at h
  | b :: l, j, n, r, h => by
    simp only [rdN] at h
    by_cases h5 : 5 ≤ j
    · rw [if_pos h5] at h; cases h
    · rw [if_neg h5] at h
      by_cases hl : b < 128
      · rw [if_pos hl] at h
        by_cases h0 : b = 0 ∧ 0 < j
        · rw [if_pos h0] at h; cases h
        · rw [if_neg h0] at h
          cases h
          exact ⟨by simp, 1, rfl⟩
      · rw [if_neg hl] at h
        obtain ⟨⟨m, r'⟩, hm, he⟩ := Option.map_eq_some_iff.mp h
        cases he
        obtain ⟨k1, k, k2⟩ := rdN_len l (j + 1) m _ hm
        exact ⟨by simp; omega, k + 1, by simpa using k2⟩
theorem rdN_lt : ∀ (l : List Nat) (j n : Nat) (r : List Nat), j ≤ 5 → rdN j l = some (n, r) → n < 128 ^ (5 - j)
  | [], j, n, r, _, h => by simp [rdN] at h
  | b :: l, j, n, r, hj, h => by
    simp only [rdN] at h
    by_cases h5 : 5 ≤ j
    · rw [if_pos h5] at h; cases h
    · rw [if_neg h5] at h
      have e : 128 ^ (5 - j) = 128 ^ (5 - (j + 1)) * 128 := by rw [← Nat.pow_succ]; congr 1; omega
      have p : 0 < 128 ^ (5 - (j + 1)) := Nat.pow_pos (by decide)
      by_cases hl : b < 128
      · rw [if_pos hl] at h
        by_cases h0 : b = 0 ∧ 0 < j
        · rw [if_pos h0] at h; cases h
        · rw [if_neg h0] at h
          cases h
          omega
      · rw [if_neg hl] at h
        obtain ⟨⟨m, r'⟩, hm, he⟩ := Option.map_eq_some_iff.mp h
        cases he
        have := rdN_lt l (j + 1) m _ (by omega) hm
        omega
def rdM {α : Type} (f : List Nat → Option (α × List Nat)) : Nat → List Nat → Option (List α × List Nat)
  | 0, l => some ([], l)
  | n + 1, l => (f l).bind fun p => (rdM f n p.2).map fun q => (p.1 :: q.1, q.2)
def rdC (l : List Nat) : Option (Ct × List Nat) := (rdN 0 l).bind fun p => (rdN 0 p.2).map fun q => ((if p.1 / 2 = 0 then none else some (p.1 / 2 - 1), q.1, decide (p.1 % 2 = 1)), q.2)
def rdCh (l : List Nat) : Option (List Ct × List Nat) := (rdN 0 l).bind fun p => rdM rdC p.1 p.2
def rdChs (l : List Nat) : Option (List (List Ct) × List Nat) := (rdN 0 l).bind fun p => rdM rdCh p.1 p.2
def rdR (cs : List (List Ct)) (a : Nat) (l : List Nat) : Option (Rg2 × List Nat) := (rdN 0 l).bind fun p => (rdN 0 p.2).bind fun q => (rdN 0 q.2).bind fun t => (cs[t.1]?).map fun ch => ((a + p.1, a + p.1 + q.1, ch), t.2)
def rdRs (cs : List (List Ct)) : Nat → Nat → List Nat → Option (List Rg2 × List Nat)
  | 0, _, l => some ([], l)
  | n + 1, a, l => (rdR cs a l).bind fun p => (rdRs cs n p.1.2.1 p.2).map fun q => (p.1 :: q.1, q.2)
/-- whether it is a table -/
def okC (c : Ct) : Bool := decide (c.2.1 ≤ 100000) && (match c.1 with | none => true | some k => decide (k < 5))
def okR (x : Rg2) : Bool := decide (x.1 < x.2.1) && decide (x.2.1 ≤ 100000) && decide (x.2.2 ≠ []) && x.2.2.all okC
def unp (l : List Nat) : Option (List Rg2) := (rdChs l).bind fun p => (rdN 0 p.2).bind fun q => (rdRs p.1 q.1 0 q.2).bind fun t => if t.2 = [] ∧ t.1.all okR = true ∧ chsOf t.1 = p.1 then some t.1 else none
theorem rdM_flat {α : Type} {f : List Nat → Option (α × List Nat)} {g : α → List Nat} : ∀ (xs : List α) (r : List Nat), (∀ x ∈ xs, ∀ r, f (g x ++ r) = some (x, r)) → rdM f xs.length (xs.flatMap g ++ r) = some (xs, r)
  | [], r, _ => rfl
  | x :: xs, r, h => by
    rw [List.flatMap_cons, List.append_assoc, List.length_cons, rdM, h x (by simp), Option.bind_some, rdM_flat xs r fun y hy => h y (by simp [hy])]
    rfl
theorem rdM_of {α : Type} {f : List Nat → Option (α × List Nat)} {g : α → List Nat} {B : List Nat → Prop} (hB : ∀ k l, B l → B (l.drop k)) (hd : ∀ l x r, f l = some (x, r) → ∃ k, r = l.drop k) (h : ∀ l x r, B l → f l = some (x, r) → l = g x ++ r) : ∀ (n : Nat) (l : List Nat) (xs : List α) (r : List Nat), B l → rdM f n l = some (xs, r) → l = xs.flatMap g ++ r ∧ xs.length = n ∧ ∃ k, r = l.drop k
  | 0, l, xs, r, _, e => by cases e; exact ⟨rfl, rfl, 0, rfl⟩
  | n + 1, l, xs, r, b, e => by
    rw [rdM] at e
    obtain ⟨⟨x, l1⟩, h1, e⟩ := Option.bind_eq_some_iff.mp e
    obtain ⟨⟨ys, l2⟩, h2, e⟩ := Option.map_eq_some_iff.mp e
    cases e
    obtain ⟨k, hk⟩ := hd l x l1 h1
    obtain ⟨i1, i2, k', hk'⟩ := rdM_of hB hd h n l1 ys l2 (by rw [hk]; exact hB k l b) h2
    refine ⟨?_, by simp [i2], k + k', ?_⟩
    · rw [h l x l1 b h1, i1]; simp
    · dsimp only at hk' ⊢
      rw [hk', hk, List.drop_drop]
theorem sgn_back (c : Ct) : (if sgn c / 2 = 0 then none else some (sgn c / 2 - 1)) = c.1 ∧ decide (sgn c % 2 = 1) = c.2.2 := by
  obtain ⟨c1, c2, c3⟩ := c
  cases c1 with
  | none => cases c3 <;> simp [sgn]
  | some k =>
    cases c3 with
    | true =>
      have e1 : (2 * (k + 1) + 1) / 2 = k + 1 := by omega
      have e2 : (2 * (k + 1) + 1) % 2 = 1 := by omega
      simp [sgn, e1, e2]
    | false =>
      have e1 : (2 * (k + 1)) / 2 = k + 1 := by omega
      have e2 : (2 * (k + 1)) % 2 = 0 := by omega
      simp [sgn, e1, e2]
theorem dig_sm {n : Nat} (h : n < 2097152) : (dig n).length + 0 ≤ 5 := by have := dig_len h; omega
theorem rdC_pk {c : Ct} (hk : ∀ k, c.1 = some k → k < 5) (hg : c.2.1 ≤ 100000) (r : List Nat) : rdC (pkC c ++ r) = some (c, r) := by
  have h1 : sgn c < 2097152 := by
    obtain ⟨c1, c2, c3⟩ := c
    cases c1 with
    | none => cases c3 <;> simp [sgn]
    | some k =>
      have := hk k rfl
      cases c3 <;> simp [sgn] <;> omega
  unfold rdC pkC
  rw [List.append_assoc, rdN_dig _ 0 _ (dig_sm h1) (by omega), Option.bind_some, rdN_dig _ 0 _ (dig_sm (by omega)) (by omega), Option.map_some]
  obtain ⟨b1, b2⟩ := sgn_back c
  rw [b1, b2]
theorem rdCh_pk {ch : List Ct} (hl : ch.length ≤ 1000) (h : ∀ c ∈ ch, (∀ k, c.1 = some k → k < 5) ∧ c.2.1 ≤ 100000) (r : List Nat) : rdCh (pkCh ch ++ r) = some (ch, r) := by
  unfold rdCh pkCh
  rw [List.append_assoc, rdN_dig _ 0 _ (dig_sm (by omega)) (by omega), Option.bind_some, rdM_flat ch r fun c hc r => rdC_pk (h c hc).1 (h c hc).2 r]
theorem rdRs_pk {cs : List (List Ct)} (hcs : cs.length ≤ 1000) : ∀ (T : List Rg2) (a : Nat) (r : List Nat), Rise a T → (∀ x ∈ T, x.2.1 ≤ 100000 ∧ x.2.2 ∈ cs) → rdRs cs T.length a (pkR cs a T ++ r) = some (T, r)
  | [], a, r, _, _ => rfl
  | (b, e, ch) :: T, a, r, ⟨h1, h2, h3, h4⟩, h => by
    have h0 := h (b, e, ch) (by simp)
    dsimp only at h0
    have hi : cs.idxOf ch < cs.length := List.idxOf_lt_length_iff.mpr h0.2
    have hx : cs[cs.idxOf ch]? = some ch := by
      rw [List.getElem?_eq_getElem hi]
      congr 1
      simp
    rw [List.length_cons, rdRs, pkR]
    simp only [List.append_assoc]
    unfold rdR
    rw [rdN_dig _ 0 _ (dig_sm (by omega)) (by omega), Option.bind_some, rdN_dig _ 0 _ (dig_sm (by omega)) (by omega), Option.bind_some, rdN_dig _ 0 _ (dig_sm (by omega)) (by omega), Option.bind_some]
    dsimp only
    rw [hx, Option.map_some, Option.bind_some]
    have e1 : a + (b - a) = b := by omega
    have e2 : b + (e - b) = e := by omega
    dsimp only
    rw [e1, e2, rdRs_pk hcs T e r h4 fun x hx => h x (by simp [hx])]
    rfl
theorem Rise.okR : ∀ {T : List Rg2} {a : Nat}, Rise a T → (∀ x ∈ T, x.2.1 ≤ 100000 ∧ ∀ c ∈ x.2.2, (∀ k, c.1 = some k → k < 5) ∧ c.2.1 ≤ 100000) → T.all okR = true
  | [], _, _, _ => rfl
  | (b, e, ch) :: T, a, ⟨h1, h2, h3, h4⟩, h => by
    have h0 := h (b, e, ch) (by simp)
    dsimp only at h0
    rw [List.all_cons, Rise.okR h4 fun x hx => h x (by simp [hx]), Bool.and_true]
    unfold CL.okR
    have hc : ch.all okC = true := by
      rw [List.all_eq_true]
      intro c hc
      obtain ⟨k1, k2⟩ := h0.2 c hc
      obtain ⟨c1, c2, c3⟩ := c
      cases c1 with
      | none => simpa [okC] using k2
      | some k => simpa [okC] using ⟨k2, k1 k rfl⟩
    simp [h2, h0.1, h3]
    simpa using hc
theorem unp_pk {T : List Rg2} (h : Pk T) : unp (pk T) = some T := by
  have hl := h.len
  have hc := chsOf_len T
  have hin : ∀ ch ∈ chsOf T, ch.length ≤ 100 ∧ ∀ c ∈ ch, (∀ k, c.1 = some k → k < 5) ∧ c.2.1 ≤ 100000 := fun ch hch => by
    obtain ⟨x, hx, rfl⟩ := chsOf_from T ch hch
    exact (h.in_ x hx).2
  unfold unp pk rdChs
  simp only [List.append_assoc]
  rw [rdN_dig _ 0 _ (dig_sm (by omega)) (by omega), Option.bind_some, rdM_flat (chsOf T) _ fun ch hch r => rdCh_pk (by have := (hin ch hch).1; omega) (hin ch hch).2 r, Option.bind_some, rdN_dig _ 0 _ (dig_sm (by omega)) (by omega), Option.bind_some]
  have := rdRs_pk (cs := chsOf T) (by omega) T 0 [] h.rise fun x hx => ⟨(h.in_ x hx).1, chsOf_mem T x hx⟩
  rw [List.append_nil] at this
  rw [this, Option.bind_some, if_pos ⟨rfl, h.rise.okR fun x hx => ⟨(h.in_ x hx).1, (h.in_ x hx).2.2⟩, rfl⟩]
end CL
namespace CL
open PySem L2
section
variable {st : Store} {ex : Str → List Da → Store → Prop} {post : Da → Store → Prop} {postF : Fl → Store → Prop} {ro : Sl} {a b : Sl → Mo Da}
@[simp] theorem wq_mRaise {c : Str} : Wq (mRaise c ro) st postF ex ↔ ex c [] st := wq_iff
/-- a try: its body may refuse -/
theorem wq_mTry {cs : List Str} {i j : Nat} {m : Sl → Mo Fl} : Wq (mTry cs i j m ro) st postF ex ↔ Wq (m ro) st postF (fun c as s => c ∈ cs ∧ i < ro.length ∧ as = [] ∧ postF (.nx ((ro.set i none).set j (some (.han s.length)))) (s ++ [.exn c])) := by
  rw [wq_iff, wq_iff]
  unfold Wp mTry
  cases q : m ro st with
  | ok f s => exact Iff.rfl
  | bad => exact Iff.rfl
  | exc c as s =>
    dsimp only
    by_cases h : c ∈ cs ∧ i < ro.length ∧ as = []
    · rw [if_pos h]
      exact ⟨fun z => ⟨h.1, h.2.1, h.2.2, z⟩, fun z => z.2.2.2⟩
    · rw [if_neg h]
      exact ⟨fun z => z.elim, fun z => h ⟨z.1, z.2.1, z.2.2.1⟩⟩
theorem wq_isX {tab : List (Str × Bool)} {n : Nat} {c : Str} {v : Bool} (h : st[n]? = some (.exn c)) (ht : tab.lookup c = some v) : Wq (isX tab (.han n)) st post ex ↔ post (.bl v) st := by
  rw [wq_iff]
  unfold Wp isX
  dsimp only
  rw [h]
  dsimp only
  rw [ht]
@[simp] theorem wq_eCount : Wq (eCount a b ro) st post ex ↔ Wq (a ro) st (kb (fun d => bnd (isLs d) fun _ => bnd (b ro) fun x => countD d x) post ex) ex := wq_bnd
end
end CL
namespace CL
open PySem L2
section
variable {A B : Type} {st : Store} {ex : Str → List Da → Store → Prop}
variable {a b c v o i' : Sl → Mo Da} {p q : Sl → Mo Bool} {al kl : Sl → Mo (List Da)} {ro : Sl} {post : Da → Store → Prop} {postB : Bool → Store → Prop} {postL : List Da → Store → Prop} {postF : Fl → Store → Prop} {postS : Src → Store → Prop} {postU : Unit → Store → Prop} {m n : Sl → Mo Fl}
@[simp] theorem wq_iE : Wq (iE al ro) st postS ex ↔ Wq (al ro) st (kb srcE postS ex) ex := wq_bnd
@[simp] theorem wq_iZ : Wq (iZ al ro) st postS ex ↔ Wq (al ro) st (kb srcZ postS ex) ex := wq_bnd
@[simp] theorem wq_iEZ : Wq (iEZ al ro) st postS ex ↔ Wq (al ro) st (kb srcEZ postS ex) ex := wq_bnd
@[simp] theorem wq_srcE {xs : List Da} : Wq (srcE [.lst xs]) st postS ex ↔ postS ⟨enumL 0 xs, none⟩ st := wq_iff
@[simp] theorem wq_srcZ {xs ys : List Da} : Wq (srcZ [.lst xs, .lst ys]) st postS ex ↔ postS ⟨zipL xs ys, none⟩ st := wq_iff
@[simp] theorem wq_srcEZ {xs ys : List Da} : Wq (srcEZ [.lst xs, .lst ys]) st postS ex ↔ postS ⟨enumL 0 (zipL xs ys), none⟩ st := wq_iff
@[simp] theorem wq_mPar3 {i j k : Nat} : Wq (mPar3 i j k al ro) st postF ex ↔ Wq (al ro) st (kb (fun ds => match ds with | [d, e, f] => ret (Fl.nx (((ro.set i (some d)).set j (some e)).set k (some f))) | _ => nop) postF ex) ex := by
  unfold mPar3
  exact wq_bnd
@[simp] theorem wq_mFlds2 {cs1 cs2 : List Str} {f1 f2 : Str} : Wq (mFlds2 cs1 f1 a cs2 f2 b al ro) st postF ex ↔ Wq (al ro) st (kb (fun xs => match xs with | [x, y] => bnd (a ro) fun p => bnd (setFD cs1 f1 p x) fun _ => bnd (b ro) fun q => bnd (setFD cs2 f2 q y) fun _ => ret (.nx ro) | _ => nop) postF ex) ex := by
  unfold mFlds2
  rw [wq_bnd, wq_eTup]
  rw [wq_iff, wq_iff]
  refine Wp.congr fun xs s1 => ?_
  rw [kb_app, kb_app]
  by_cases h : xs.length ≤ 1000
  · rw [if_pos h, wq_ret, kb_app]
    match xs with
    | [] => exact Iff.rfl
    | [_] => exact Iff.rfl
    | [_, _] => exact Iff.rfl
    | _ :: _ :: _ :: _ => exact Iff.rfl
  · rw [if_neg h]
    match xs, h with
    | [], h => exact absurd (by simp) h
    | [_], h => exact absurd (by simp) h
    | [_, _], h => exact absurd (by simp) h
    | _ :: _ :: _ :: _, h => simp
@[simp] theorem wq_mFldAug {cl f : Str} {g : Int → Int → Int} : Wq (mFldAug cl f g a b ro) st postF ex ↔ Wq (a ro) st (kb (fun d => bnd (fldD [cl] f d) fun x => bnd (b ro) fun y => match x, y with | .int p, .int q => bnd (setFD [cl] f d (.int (g p q))) fun _ => ret (.nx ro) | _, _ => nop) postF ex) ex := wq_bnd
@[simp] theorem wq_mAugI {f : Int → Int → Int} : Wq (mAugI a b f c ro) st postF ex ↔ Wq (a ro) st (kb (fun d => bnd (b ro) fun k => bnd (getL d k) fun x => bnd (c ro) fun y => match x, y with | .int p, .int q => bnd (setD d k (.int (f p q))) fun _ => ret (.nx ro) | _, _ => nop) postF ex) ex := wq_bnd
@[simp] theorem wq_eDict : Wq (eDict ro) st post ex ↔ post (.han st.length) (st ++ [.dK []]) := wq_iff
@[simp] theorem wq_mPutK : Wq (mPutK v o i' ro) st postF ex ↔ Wq (v ro) st (kb (fun x => bnd (o ro) fun d => bnd (i' ro) fun k => bnd (setK d k x) fun _ => ret (.nx ro)) postF ex) ex := wq_bnd
@[simp] theorem wq_eFF : Wq (eFF a ro) st post ex ↔ Wq (a ro) st (kb fzO post ex) ex := wq_bnd
end
end CL
namespace CL
open PySem L2
section
variable {d : Da} {xs : List Da} {st : Store} {post : Da → Store → Prop} {postF : Fl → Store → Prop} {ex : Str → List Da → Store → Prop} {ro : Sl}
theorem wq_forLs {t : Tg} {body : Sl → Mo Fl} (h : LsAt d xs st) (I : Nat → Sl → Store → Prop) (h0 : I 0 ro st) (hk : ∀ i ro s, I i ro s → LsAt d xs s)
    (hs : ∀ (i : Nat) (x : Da) (ro : Sl) (st : Store), xs[i]? = some x → I i ro st → ∃ ro1, t x ro = some ro1 ∧ Wq (body ro1) st (loopP (I (i + 1)) postF) ex)
    (hd : ∀ ro st, I xs.length ro st → postF (.nx ro) st) : Wq (srcV d) st (kb (fun s => forGo s.o s.xs t body s.xs ro) postF ex) ex := by
  rcases h with rfl | ⟨q, rfl, hq⟩
  · simp only [wq_srcV_l, kb_app]
    exact wq_forI I h0 hs hd
  · rw [wq_srcV_h hq]
    simp only [kb_app]
    refine wq_forIh I h0 (fun i ro s hi => ?_) hs hd
    rcases hk i ro s hi with z | ⟨q', z, hz⟩
    · cases z
    · cases z; exact hz
end
/-- a catcher, its place perhaps too far -/
def LinkW (d : Da) : Prop := ∃ (a : Da) (b : Int) (c : Bool), d = .tup [a, .int b, .bl c] ∧ (a = .non ∨ ∃ k : Int, a = .int k ∧ 0 ≤ k ∧ k ≤ 4) ∧ 0 ≤ b
def inR : Da → Bool
  | .tup [_, .int b, _] => decide (b ≤ 100000)
  | _ => false
/-- rows in order that may reach too far -/
def RowsW : Int → List Row → Prop
  | _, [] => True
  | at_, (b, e, c) :: r => at_ ≤ b ∧ b < e ∧ (∃ xs, c = .tup xs ∧ xs ≠ [] ∧ ∀ x ∈ xs, LinkW x) ∧ RowsW e r
def rowInW (r : Row) : Bool := decide (r.2.1 ≤ 100000) && (match r.2.2 with | .tup xs => xs.all inR | _ => false)
theorem RowsW.of : ∀ {a : Int} {rs : List Row}, Rows a rs → RowsW a rs ∧ rs.all rowInW = true
  | _, [], _ => ⟨trivial, rfl⟩
  | a, (b, e, c) :: rs, h => by
    obtain ⟨h1, h2, h3, ⟨xs, rfl, hne, _, hx⟩, h5⟩ := h
    obtain ⟨i1, i2⟩ := RowsW.of h5
    refine ⟨⟨h1, h2, ⟨xs, rfl, hne, fun x hm => ?_⟩, i1⟩, ?_⟩
    · obtain ⟨a, b, c, rfl, h1, h2, _⟩ := hx x hm
      exact ⟨a, b, c, rfl, h1, h2⟩
    · rw [List.all_cons, i2, Bool.and_true]
      have : xs.all inR = true := by
        rw [List.all_eq_true]
        intro x hm
        obtain ⟨a, b, c, rfl, h1, h2, h3⟩ := hx x hm
        simp [inR, h3]
      simp [rowInW, h3]
      simpa using this
theorem RowsW.get : ∀ {a : Int} {rs : List Row} {i : Nat} {r : Row}, 0 ≤ a → RowsW a rs → rs[i]? = some r → 0 ≤ r.1 ∧ r.1 < r.2.1 ∧ (∃ xs, r.2.2 = .tup xs ∧ xs ≠ [] ∧ ∀ x ∈ xs, LinkW x) ∧ (i = 0 → a ≤ r.1) ∧ ∀ j q, i = j + 1 → rs[j]? = some q → q.2.1 ≤ r.1
  | a, (b, e, c) :: rs, 0, r, ha, h, hr => by
    obtain ⟨h1, h2, h3, _⟩ := h
    simp at hr
    subst hr
    exact ⟨by omega, h2, h3, fun _ => h1, fun j q z => by omega⟩
  | a, (b, e, c) :: rs, i + 1, r, ha, h, hr => by
    obtain ⟨h1, h2, h3, h4⟩ := h
    simp at hr
    obtain ⟨k1, k2, k3, k4, k5⟩ := RowsW.get (show 0 ≤ e by omega) h4 hr
    refine ⟨k1, k2, k3, by omega, fun j q z hq => ?_⟩
    cases j with
    | zero =>
      simp at hq
      subst hq
      exact k4 (by omega)
    | succ j => exact k5 j q (by omega) (by simpa using hq)
section
variable {st : Store} {ex : Str → List Da → Store → Prop} {post : Da → Store → Prop} {postF : Fl → Store → Prop}
@[simp] theorem wq_wholeI {i lo hi : Int} : Wq (f_is_whole [.int i, .int lo, .int hi]) st post ex ↔ post (.bl (decide (lo ≤ i ∧ i ≤ hi))) st := wq_iff.trans wp_whole
def bodyT (g f : List Da → Mo Da) : Sl → Mo Fl := (mSeq (mIf (tOr_ (tNot_ (tst (e1 (isT .tuple) (eVar 2)))) (tOr_ (tst (e2 neD (eCall (one lenD) (aCons (eVar 2) aNil)) (eC (.int 3)))) (tNot_ (tst (eCall (fun ds => ar 1 g (ds ++ [])) (aCons (e2 ixD (eVar 2) (eC (.int 2))) aNil)))))) (mRet (eC (.bl false))) mNil) (mSeq (mIf (tOr_ (tNot_ (tst (eCall (one allD) (aCons (eL (lComp (iV (eSl slA (eVar 2) noP (soP (eC (.int 2))))) (gN 3) tYes_ (eCall (fun ds => ar 3 f (ds ++ [])) (aCons (eVar 3) (aCons (eC (.int 0)) (aCons (eC (.int 100000)) aNil)))) [3])) aNil)))) (tOr_ (tst (e2 ltD (e2 ixD (eVar 2) (eC (.int 0))) (eVar 1))) (tst (e2 leD (e2 ixD (eVar 2) (eC (.int 1))) (e2 ixD (eVar 2) (eC (.int 0))))))) (mRet (eC (.bl false))) mNil) (mSet 1 (e2 ixD (eVar 2) (eC (.int 1))))))
theorem is_table_eq (g f : List Da → Mo Da) : m_is_table g f = (mSeq (mIf (tNot_ (tst (e1 (isT .list) (eVar 0)))) (mRet (eC (.bl false))) mNil) (mSeq (mSet 1 (eC (.int 0))) (mSeq (mFor (iV (eVar 0)) (gN 2) (bodyT g f)) (mRet (eC (.bl true)))))) := rfl
end
end CL
namespace CL
open PySem L2
def rdrF (d : Da) (sp : Nat) : Cell := .ins "Reader" [("numbers", d), ("spot", .int sp)]
structure Rst (st : Store) (d : Da) (ns : List Nat) (r : Nat) (l : List Nat) (s : Store) : Prop where
  at_ : ∃ sp : Nat, s[r]? = some (rdrF d sp) ∧ l = ns.drop sp ∧ sp ≤ ns.length
  kx : Kx st s
section
variable {st s : Store} {d : Da} {ns l : List Nat} {r : Nat} {post : Da → Store → Prop} {ex : Str → List Da → Store → Prop}
def TkI (s : Store) (d : Da) (ns : List Nat) (r : Nat) (l0 : List Nat) (k : Nat) (ro : Sl) (s1 : Store) : Prop :=
  ∃ (j sp : Nat) (f : Nat) (o3 : Option Da), k = 10 - j ∧ j ≤ 5 ∧ ro = [some (.han r), some (.int f), some (.int (128 ^ j : Nat)), o3] ∧ sp ≤ ns.length ∧ s1 = s.set r (rdrF d sp) ∧ rdN 0 l0 = (rdN j (ns.drop sp)).map fun p => (f + 128 ^ j * p.1, p.2)
theorem set_same {s : Store} {r : Nat} {c : Cell} (h : s[r]? = some c) : s.set r c = s := by
  apply List.ext_getElem?
  intro i
  by_cases z : i = r
  · subst z; rw [List.getElem?_set_self (some_lt' h), h]
  · rw [List.getElem?_set_ne (Ne.symm z)]
theorem pow_le4 {j : Nat} (h : ¬ (268435456 : Int) < ((128 ^ j : Nat) : Int)) : j ≤ 4 := by
  have h2 : 128 ^ j ≤ 268435456 := by omega
  by_cases z : j ≤ 4
  · exact z
  · have : 128 ^ 5 ≤ 128 ^ j := Nat.pow_le_pow_right (by decide) (by omega)
    omega
theorem pow_gt4 {j : Nat} (h : (268435456 : Int) < ((128 ^ j : Nat) : Int)) : 5 ≤ j := by
  by_cases z : 5 ≤ j
  · exact z
  · have : 128 ^ j ≤ 128 ^ 4 := Nat.pow_le_pow_right (by decide) (by omega)
    omega
theorem take_go (hd : LsAt d (inL ns) st) (hb : ∀ b ∈ ns, b ≤ 255) (hr : st.length ≤ r) (h : Rst st d ns r l s)
    (hok : ∀ (n : Nat) l' s', rdN 0 l = some (n, l') → Rst st d ns r l' s' → (∀ i, i ≠ r → s'[i]? = s[i]?) → s'.length = s.length → post (.int n) s')
    (hno : ∀ s', rdN 0 l = none → Kx st s' → ex "BadTable" [] s') : Wq (f_Reader_take [.han r]) s post ex := by
  obtain ⟨⟨sp0, hc0, rfl, hsp0⟩, kx⟩ := h
  have lt : r < s.length := some_lt' hc0
  have e0 : s.set r (rdrF d sp0) = s := set_same hc0
  unfold f_Reader_take m_Reader_take
  simp [startS, -wq_mSeq]
  rw [wq_mSeq]
  simp [-wq_mSeq]
  rw [wq_mSeq]
  refine wq_whileI (TkI s d ns r (ns.drop sp0)) ?_ _ 10 (by omega) ⟨0, sp0, 0, _, rfl, by omega, by simp; rfl, hsp0, e0.symm, by simp⟩
  rintro k ro s1 ⟨j, sp, f, o3, rfl, hj, rfl, hsp, rfl, he⟩
  have hc1 : (s.set r (rdrF d sp))[r]? = some (rdrF d sp) := List.getElem?_set_self lt
  have kx1 : Kx st (s.set r (rdrF d sp)) := kx.set hr
  have hd1 := hd.mono kx1.len kx1.at_
  have hp : CPow 128 4 := by decide
  simp [-wq_mSeq]
  rw [wq_mSeq]
  simp [-wq_mSeq]
  rw [wq_fldD hc1 (by simp) (x := .int sp) rfl]
  simp [-wq_mSeq]
  rw [wq_fldD hc1 (by simp) (x := d) rfl]
  simp [-wq_mSeq]
  rw [hd1.len]
  simp [-wq_mSeq]
  by_cases z1 : sp = ns.length
  · have e1 : rdN j (List.drop sp ns) = none := by rw [z1, List.drop_length]; rfl
    rw [e1] at he
    simp [z1]
    rw [← z1]
    exact hno _ he kx1
  · have hlt : sp < ns.length := by omega
    have ed : ns.drop sp = ns[sp] :: ns.drop (sp + 1) := List.drop_eq_getElem_cons hlt
    have z1' : ¬ (sp : Int) = (ns.length : Int) := by omega
    simp only [z1', if_false]
    simp [hp, -wq_mSeq]
    have hcast : ((128 ^ j : Nat) : Int) = (128 : Int) ^ j := by simp
    rw [← hcast]
    by_cases z2 : (268435456 : Int) < ((128 ^ j : Nat) : Int)
    · have h5 := pow_gt4 z2
      have e1 : rdN j (List.drop sp ns) = none := by rw [ed, rdN, if_pos h5]
      rw [e1] at he
      simp only [z2, if_true]
      simp
      exact hno _ he kx1
    · have h4 := pow_le4 z2
      simp only [z2, if_false]
      simp [-wq_mSeq]
      rw [wq_mSeq]
      simp [-wq_mSeq]
      rw [wq_fldD hc1 (by simp) (x := d) rfl]
      simp [-wq_mSeq]
      rw [wq_fldD hc1 (by simp) (x := .int sp) rfl]
      simp [-wq_mSeq]
      have hx : atI (inL ns) (sp : Int) = some (.int (ns[sp] : Nat)) := atI_nat (by rw [List.getElem?_map, List.getElem?_eq_getElem hlt]; rfl)
      rw [hd1.ix hx]
      have hbs : ns[sp] ≤ 255 := hb _ (List.getElem_mem hlt)
      generalize ns[sp] = b at ed hbs
      simp [-wq_mSeq]
      rw [wq_mSeq]
      simp [-wq_mSeq]
      rw [wq_fldD hc1 (by simp) (x := .int sp) rfl]
      simp [-wq_mSeq]
      rw [wq_setFD hc1 (by simp) (by simp)]
      have es : (s.set r (rdrF d sp)).set r (Cell.ins "Reader" (putD "spot" (.int ((sp : Int) + 1)) [("numbers", d), ("spot", .int sp)])) = s.set r (rdrF d (sp + 1)) := by
        rw [List.set_set]
        rfl
      rw [es]
      have hm : Int.fmod (b : Int) 128 = ((b % 128 : Nat) : Int) := by rw [Int.fmod_eq_emod_of_nonneg _ (by decide)]; omega
      have hcm : CMul ((b : Int) % 128) ((128 : Int) ^ j) := by
        unfold CMul
        exact .inl (by omega)
      have hm' : Int.fmod (b : Int) 128 = (b : Int) % 128 := by omega
      simp [-wq_mSeq]
      rw [wq_mSeq]
      simp [-wq_mSeq, hm', hcm]
      rw [wq_mSeq]
      simp [-wq_mSeq]
      have hfn : (f : Int) + (b : Int) % 128 * (128 : Int) ^ j = ((f + 128 ^ j * (b % 128) : Nat) : Int) := by
        rw [Int.natCast_add, Int.natCast_mul, hcast, Int.mul_comm]
        rfl
      have hR : Rst st d ns r (ns.drop (sp + 1)) (s.set r (rdrF d (sp + 1))) := ⟨⟨sp + 1, List.getElem?_set_self lt, rfl, by omega⟩, kx.set hr⟩
      rw [ed] at he
      simp only [rdN] at he
      rw [if_neg (by omega)] at he
      by_cases zb : b < 128
      · have zb' : (b : Int) < 128 := by omega
        rw [if_pos zb] at he
        simp only [zb', if_true]
        simp [-wq_mSeq]
        rw [wq_mSeq]
        simp [-wq_mSeq]
        by_cases z0 : b = 0 ∧ 0 < j
        · obtain ⟨rfl, hj0⟩ := z0
          have e1 : (1 : Int) < (128 : Int) ^ j := by
            have : 128 ^ 1 ≤ 128 ^ j := Nat.pow_le_pow_right (by decide) hj0
            omega
          rw [if_pos ⟨rfl, hj0⟩] at he
          simp [e1]
          exact hno _ he hR.kx
        · rw [if_neg z0] at he
          have bm : b % 128 = b := by omega
          simp only [Option.map_some] at he
          have fin := hok (f + 128 ^ j * b) (ns.drop (sp + 1)) _ he hR (fun i hi => by rw [List.getElem?_set_ne (Ne.symm hi)]) (by simp)
          rw [bm] at hfn
          have hbm : (b : Int) % 128 = b := by omega
          rw [hbm] at *
          by_cases zz : b = 0
          · have : j = 0 := by omega
            subst this zz
            simp at fin ⊢
            exact fin
          · have zz' : ¬ (b : Int) = 0 := by omega
            simp [zz, hfn]
            simpa [Int.mul_comm] using fin
      · have zb' : ¬ (b : Int) < 128 := by omega
        rw [if_neg zb] at he
        have hcm2 : CMul ((128 : Int) ^ j) 128 := by
          unfold CMul
          exact .inr (by omega)
        simp only [zb', if_false]
        simp [-wq_mSeq, hcm2, loopP]
        refine ⟨10 - (j + 1), by omega, j + 1, sp + 1, f + 128 ^ j * (b % 128), some (.int b), rfl, by omega, ?_, by omega, rfl, ?_⟩
        · rw [hfn]
          simp [Int.pow_succ]
        · rw [he, Option.map_map]
          congr 1
          funext p
          simp [Nat.pow_succ, Nat.mul_add, Nat.mul_assoc, Nat.add_assoc]
end
end CL
namespace CL
open PySem L2
def Asc : Nat → List Rg2 → Prop
  | _, [] => True
  | a, (b, e, ch) :: r => a ≤ b ∧ b ≤ e ∧ Asc e r
theorem Asc.get : ∀ {a : Nat} {T : List Rg2} {i : Nat} {x : Rg2}, Asc a T → T[i]? = some x → x.1 ≤ x.2.1 ∧ (i = 0 → a ≤ x.1) ∧ ∀ j y, i = j + 1 → T[j]? = some y → y.2.1 ≤ x.1
  | a, [], i, x, _, h => by simp at h
  | a, (b, e, ch) :: r, 0, x, ⟨h1, h2, h3⟩, h => by
    have e' : (b, e, ch) = x := by simpa using h
    subst e'
    exact ⟨h2, fun _ => h1, fun j y z => by omega⟩
  | a, (b, e, ch) :: r, i + 1, x, ⟨h1, h2, h3⟩, h => by
    obtain ⟨k1, k2, k3⟩ := Asc.get (i := i) h3 (by simpa using h)
    refine ⟨k1, fun z => by omega, fun j y z hy => ?_⟩
    cases j with
    | zero =>
      have e' : (b, e, ch) = y := by simpa using hy
      subst e'
      exact k2 (by omega)
    | succ j => exact k3 j y (by omega) (by simpa using hy)
section
variable {st : Store} {ex : Str → List Da → Store → Prop} {post : Da → Store → Prop} {postF : Fl → Store → Prop}
theorem chainG {ch : List Ct} (hp : post (.bl (decide (ch ≠ []) && ch.all okC)) st) : Wq (f_is_chain [chD ch]) st post ex := by
  by_cases hne : ch = []
  · subst hne
    unfold f_is_chain m_is_chain
    simp [startS, isTn, chD]
    simpa using hp
  have hpl := ch_pl60 ch
  have hne' : ch.map ctD ≠ [] := by simpa using hne
  have ec : chD ch = .tup (ch.map ctD) := rfl
  unfold f_is_chain m_is_chain
  rw [ec] at hpl ⊢
  simp [startS, isTn]
  rw [wq_eq hpl (by simp [CL.pl, plL])]
  simp [deqL_ne, hne]
  refine wq_forI (fun i ro s => (∃ o, ro = [some (.tup (ch.map ctD)), o]) ∧ s = st ∧ (ch.take i).all okC = true) ⟨⟨_, rfl⟩, rfl, by simp⟩ ?_ ?_
  · rintro i x ro s hx ⟨⟨o, rfl⟩, rfl, ht⟩
    rw [List.getElem?_map] at hx
    obtain ⟨⟨c1, c2, c3⟩, hr, rfl⟩ := Option.map_eq_some_iff.mp hx
    obtain ⟨hi, he⟩ := List.getElem?_eq_some_iff.mp hr
    refine ⟨_, rfl, ?_⟩
    have good : okC (c1, c2, c3) = true → (ch.take (i + 1)).all okC = true := fun z => by
      rw [List.take_succ_eq_append_getElem hi, List.all_append, ht, he]
      simp [z]
    have bad : okC (c1, c2, c3) = false → ch.all okC = false := fun z => by
      rw [List.all_eq_false]
      exact ⟨_, List.mem_of_getElem? hr, by simp [z]⟩
    by_cases z : c2 ≤ 100000
    · have z' : (c2 : Int) ≤ 100000 := by omega
      cases c1 with
      | none =>
        have := good (by simp [okC, z])
        simp [ctD, onD, isTn, z', loopP]
        simpa using this
      | some k =>
        by_cases hk : k < 5
        · have := good (by simp [okC, z, hk])
          have hk' : (k : Int) ≤ 4 := by omega
          simp [ctD, onD, isTn, z', hk', loopP]
          simpa using this
        · have hf := bad (by simp [okC, hk])
          rw [hf] at hp
          have hk' : ¬ (k : Int) ≤ 4 := by omega
          simp [ctD, onD, isTn, z', hk', loopP]
          simpa using hp
    · have z' : ¬ (c2 : Int) ≤ 100000 := by omega
      have hf := bad (by simp [okC, z])
      rw [hf] at hp
      simp [ctD, isTn, z', loopP]
      simpa using hp
  · rintro ro s ⟨⟨o, rfl⟩, rfl, ht⟩
    rw [List.length_map, List.take_length] at ht
    rw [ht] at hp
    simpa [hne] using hp
theorem rowG {L : Da} {a : Nat} {x : Rg2} {o3 : Option Da} (h1 : a ≤ x.1)
    (hy : okR x = true → ∀ o3, postF (.nx [some L, some (.int (x.2.1 : Nat)), some (rg2D x), o3]) st) (hn : okR x = false → postF (.rt (.bl false)) st) :
    Wq (bodyT f_is_chain f_is_whole [some L, some (.int (a : Nat)), some (rg2D x), o3]) st postF ex := by
  obtain ⟨b, e, ch⟩ := x
  dsimp only at *
  unfold bodyT
  simp [isTn, rg2D]
  refine chainG ?_
  by_cases hin : (decide (ch ≠ []) && ch.all okC) = true
  · rw [hin]
    have hin' := hin
    simp only [Bool.and_eq_true, decide_eq_true_eq] at hin'
    have hcut : cutD [.int (b : Nat), .int (e : Nat), chD ch] none (some 2) = [Da.int (b : Nat), Da.int (e : Nat)] := rfl
    simp [hcut, wipeS]
    refine wq_compM (rs := [b, e]) (f := fun (i : Nat) => Da.int i) (g := fun (i : Nat) => Da.bl (decide (0 ≤ (i : Int) ∧ (i : Int) ≤ 100000))) (by simp) (fun i hi => ⟨_, rfl, by simp⟩) ?_
    simp
    have hae : ¬ b < a := by omega
    by_cases z : b < e ∧ e ≤ 100000
    · have := hy (by simp [okR, z, hin'.1]; simpa using hin'.2)
      rw [if_neg (by omega)]
      have heb : ¬ e ≤ b := by omega
      simp [hae, heb]
      exact this _
    · have := hn (by
        simp only [okR]
        by_cases z1 : b < e
        · have z2 : ¬ e ≤ 100000 := fun w => z ⟨z1, w⟩
          simp [z2]
        · simp [z1])
      by_cases z2 : b ≤ 100000 ∧ e ≤ 100000
      · rw [if_neg (by omega)]
        have heb : e ≤ b := by omega
        simp [hae, heb]
        exact this
      · rw [if_pos (by omega)]
        simp
        exact this
  · have hf : (decide (ch ≠ []) && ch.all okC) = false := Bool.eq_false_iff.mpr hin
    have := hn (by simp only [okR]; rw [Bool.and_assoc, hf]; simp)
    rw [hf]
    simpa using this
theorem istabG {d : Da} {T : List Rg2} (h : Asc 0 T) (hd : LsAt d (T.map rg2D) st) (hp : post (.bl (T.all okR)) st) : Wq (f_is_table [d]) st post ex := by
  unfold f_is_table
  rw [is_table_eq]
  simp [startS, hd.isL, isTn]
  refine wq_forLs hd (I := fun i ro s => s = st ∧ (T.take i).all okR = true ∧ ∃ (a : Nat) (o2 o3 : Option Da), ro = [some d, some (.int (a : Nat)), o2, o3] ∧ (∀ x, T[i]? = some x → a ≤ x.1)) ⟨rfl, rfl, 0, _, _, rfl, fun r hr => (h.get hr).2.1 rfl⟩ (fun i ro s z => z.1 ▸ hd) ?_ ?_
  · rintro i x ro s hx ⟨rfl, ht, a, o2, o3, rfl, ha⟩
    rw [List.getElem?_map] at hx
    obtain ⟨x, hr, rfl⟩ := Option.map_eq_some_iff.mp hx
    obtain ⟨hi, he⟩ := List.getElem?_eq_some_iff.mp hr
    refine ⟨_, rfl, ?_⟩
    refine rowG (ha x hr) (fun hin o3 => ?_) (fun hin => ?_)
    · refine ⟨rfl, ?_, _, _, _, rfl, fun q hq => ?_⟩
      · rw [List.take_succ_eq_append_getElem hi, List.all_append, ht, he]
        simp [hin]
      · exact (h.get hq).2.2 i x rfl hr
    · have hf : T.all okR = false := by
        rw [List.all_eq_false]
        exact ⟨x, List.mem_of_getElem? hr, by simp [hin]⟩
      rw [hf] at hp
      simpa [loopP] using hp
  · rintro ro s ⟨rfl, ht, a, o2, o3, rfl, _⟩
    rw [List.length_map, List.take_length] at ht
    rw [ht] at hp
    simpa using hp
theorem lookG {d : Da} {T : List Rg2} (h : Asc 0 T) (hd : LsAt d (T.map rg2D) st) (hok : T.all okR = true) : Wq (f_look_table [d]) st (fun x s => x = .non ∧ st = s) ex := by
  unfold f_look_table m_look_table
  simp [startS]
  refine istabG h hd ?_
  simp [hok]
end
theorem Rise.asc : ∀ {T : List Rg2} {a : Nat}, Rise a T → Asc a T
  | [], _, _ => trivial
  | (b, e, ch) :: T, a, ⟨h1, h2, h3, h4⟩ => ⟨h1, by omega, h4.asc⟩
theorem rdRs_asc {cs : List (List Ct)} : ∀ {n a : Nat} {l l' : List Nat} {T : List Rg2}, rdRs cs n a l = some (T, l') → Asc a T
  | 0, a, l, l', T, h => by cases h; trivial
  | n + 1, a, l, l', T, h => by
    rw [rdRs] at h
    obtain ⟨⟨x, l1⟩, h1, e⟩ := Option.bind_eq_some_iff.mp h
    obtain ⟨⟨ys, l2⟩, h2, e⟩ := Option.map_eq_some_iff.mp e
    cases e
    have i := rdRs_asc h2
    unfold rdR at h1
    obtain ⟨⟨p, m1⟩, _, h1⟩ := Option.bind_eq_some_iff.mp h1
    obtain ⟨⟨q, m2⟩, _, h1⟩ := Option.bind_eq_some_iff.mp h1
    obtain ⟨⟨t, m3⟩, _, h1⟩ := Option.bind_eq_some_iff.mp h1
    obtain ⟨ch, _, h1⟩ := Option.map_eq_some_iff.mp h1
    cases h1
    exact ⟨by omega, by dsimp only; omega, i⟩
end CL
namespace CL
open PySem L2
def tkE : Sl → Mo Da := eMeth "Reader" "take" (fun ds => ar 1 f_Reader_take (ds ++ [])) (eVar 1) aNil
def upC : Sl → Mo Fl := (mSeq (mSet 10 tkE) (mSeq (mSet 11 (eIf (tst (e2 eqD (e2 fdivD (eVar 10) (eC (.int 2))) (eC (.int 0)))) (eC (.non)) (e2 subD (e2 fdivD (eVar 10) (eC (.int 2))) (eC (.int 1))))) (mExpr (eApp (eVar 6) (eTup (aCons (eVar 11) (aCons tkE (aCons (e2 eqD (e2 modD (eVar 10) (eC (.int 2))) (eC (.int 1))) aNil))))))))
def upCh : Sl → Mo Fl := (mSeq (mSet 6 (eH (lDisp aNil))) (mSeq (mFor (iR1 (aCons tkE aNil)) (gN 7) upC) (mExpr (eApp (eVar 2) (eCall (one tupleD) (aCons (eVar 6) aNil))))))
def upR : Sl → Mo Fl := (mSeq (mSet 8 (e2 addD (eVar 5) tkE)) (mSeq (mSet 5 (e2 addD (eVar 8) tkE)) (mSeq (mSet 9 tkE) (mSeq (mIf (tst (e2 geD (eVar 9) (eCall (one lenD) (aCons (eVar 2) aNil)))) (mRaise "BadTable") mNil) (mExpr (eApp (eVar 4) (eTup (aCons (eVar 8) (aCons (eVar 5) (aCons (e2 ixD (eVar 2) (eVar 9)) aNil))))))))))
def upEnd : Sl → Mo Fl := (mSeq (mIf (tOr_ (tst (e2 neD (eFld ["Reader"] "spot" (eVar 1)) (eCall (one lenD) (aCons (eVar 0) aNil)))) (tOr_ (tNot_ (tst (eCall (fun ds => ar 1 f_is_table (ds ++ [])) (aCons (eVar 4) aNil)))) (tst (e2 neD (eCall (fun ds => ar 1 f_chains_of (ds ++ [])) (aCons (eVar 4) aNil)) (eVar 2))))) (mRaise "BadTable") mNil) (mRet (eF (eVar 4))))
theorem unpacked_eq : m_unpacked f_Reader___init__ f_Reader_take f_is_table f_chains_of = (mSeq (mSet 1 (eMake "Reader" (fun ds => ar 2 f_Reader___init__ ds) (fun ro => bnd ((aCons (eVar 0) aNil) ro) fun ds => ret (ds ++ [])))) (mSeq (mSet 2 (eH (lDisp aNil))) (mSeq (mFor (iR1 (aCons tkE aNil)) (gN 3) upCh) (mSeq (mSet 4 (eH (lDisp aNil))) (mSeq (mSet 5 (eC (.int 0))) (mSeq (mFor (iR1 (aCons tkE aNil)) (gN 3) upR) upEnd)))))) := rfl
section
variable {st s : Store} {d : Da} {ns l : List Nat} {r : Nat} {post : Da → Store → Prop} {postF : Fl → Store → Prop} {ex : Str → List Da → Store → Prop}
theorem tkE_go {ro : Sl} (hro : ro[1]? = some (some (.han r))) (hd : LsAt d (inL ns) st) (hb : ∀ b ∈ ns, b ≤ 255) (hr : st.length ≤ r) (h : Rst st d ns r l s)
    (hok : ∀ (n : Nat) l' s', rdN 0 l = some (n, l') → Rst st d ns r l' s' → (∀ i, i ≠ r → s'[i]? = s[i]?) → s'.length = s.length → post (.int n) s')
    (hno : ∀ s', rdN 0 l = none → Kx st s' → ex "BadTable" [] s') : Wq (tkE ro) s post ex := by
  obtain ⟨sp, hc, _⟩ := h.at_
  unfold tkE
  rw [wq_eMeth, wq_var hro]
  simp
  rw [wq_isIns hc rfl]
  simp
  exact take_go hd hb hr h hok hno
theorem init_ok (hd : LsAt d (inL ns) s) (hb : ∀ b ∈ ns, b ≤ 255) (hl : ns.length < 1000000) (hr : s[r]? = some (.ins "Reader" [])) : Wq (f_Reader___init__ [.han r, d]) s (fun x s' => x = .non ∧ s' = s.set r (rdrF d 0)) noEx := by
  have lt := some_lt' hr
  have ball : (ns.map fun (b : Nat) => Da.bl (decide (0 ≤ (b : Int) ∧ (b : Int) ≤ 255))) = (ns.map fun (b : Nat) => decide (0 ≤ (b : Int) ∧ (b : Int) ≤ 255)).map Da.bl := by rw [List.map_map]; rfl
  have btrue : (ns.map fun (b : Nat) => decide (0 ≤ (b : Int) ∧ (b : Int) ≤ 255)).all id = true := by
    rw [List.all_eq_true]
    intro x hx
    obtain ⟨b, hm, rfl⟩ := List.mem_map.mp hx
    have := hb b hm
    simp
    omega
  unfold f_Reader___init__ m_Reader___init__
  simp [startS, -wq_mSeq]
  rw [wq_mSeq]
  simp [-wq_mSeq, hd.isL, isTn]
  rcases hd with rfl | ⟨q, rfl, hq⟩
  · simp [-wq_mSeq, wipeS]
    refine wq_compM (rs := ns) (f := fun (i : Nat) => Da.int i) (g := fun (b : Nat) => Da.bl (decide (0 ≤ (b : Int) ∧ (b : Int) ≤ 255))) hl (fun i hi => ⟨_, rfl, by simp⟩) ?_
    simp only [kb_app, wq_bnd, wq_ret, wq_aCons, wq_aNil, wq_one]
    rw [wq_all ball, btrue]
    simp
    rw [wq_setFD hr (by simp) (by simp)]
    simp
    rw [wq_setFD (by rw [List.getElem?_set_self lt]) (by simp) (by simp [putD])]
    simp
    rfl
  · rw [wq_srcV_h hq]
    simp [-wq_mSeq, wipeS]
    refine wq_compFh (rs := ns) (f := fun (i : Nat) => Da.int i) (g := fun (b : Nat) => Da.bl (decide (0 ≤ (b : Int) ∧ (b : Int) ≤ 255))) (P := fun _ => true) hq hl (fun i hi => ⟨_, rfl, by simp, fun _ => by simp⟩) ?_
    rw [List.filter_eq_self.mpr (by simp)]
    simp only [kb_app, wq_bnd, wq_ret, wq_aCons, wq_aNil, wq_one]
    rw [wq_all ball, btrue]
    simp
    rw [wq_setFD hr (by simp) (by simp)]
    simp
    rw [wq_setFD (by rw [List.getElem?_set_self lt]) (by simp) (by simp [putD])]
    simp
    rfl
theorem rdM_step {α : Type} {f : List Nat → Option (α × List Nat)} {n i : Nat} {A : Option (List α × List Nat)} {acc : List α} {l l' : List Nat} {x : α} (hi : i < n) (hf : f l = some (x, l')) (he : A = (rdM f (n - i) l).map fun q => (acc ++ q.1, q.2)) : A = (rdM f (n - (i + 1)) l').map fun q => (acc ++ [x] ++ q.1, q.2) := by
  rw [he, show n - i = (n - (i + 1)) + 1 by omega, rdM, hf]
  simp [Function.comp_def]
theorem rdM_stop {α : Type} {f : List Nat → Option (α × List Nat)} {n i : Nat} {A : Option (List α × List Nat)} {acc : List α} {l : List Nat} (hi : i < n) (hf : f l = none) (he : A = (rdM f (n - i) l).map fun q => (acc ++ q.1, q.2)) : A = none := by
  rw [he, show n - i = (n - (i + 1)) + 1 by omega, rdM, hf]
  rfl
/-- a catcher -/
theorem upC_go {o0 o2 o3 o4 o5 o7 o8 o9 o10 o11 : Option Da} {c : Nat} {acc : List Ct} (hd : LsAt d (inL ns) st) (hb : ∀ b ∈ ns, b ≤ 255) (hr : st.length ≤ r) (hrc : r < c) (h : Rst st d ns r l s) (hc : s[c]? = some (.lst (acc.map ctD))) (hl : acc.length < 1000000)
    (hok : ∀ ct l' s' o10 o11, rdC l = some (ct, l') → l'.length < l.length → Rst st d ns r l' s' → (∀ i, i ≠ r → i ≠ c → s'[i]? = s[i]?) → s'.length = s.length → s'[c]? = some (.lst ((acc ++ [ct]).map ctD)) → postF (.nx [o0, some (.han r), o2, o3, o4, o5, some (.han c), o7, o8, o9, o10, o11]) s')
    (hno : ∀ s', rdC l = none → Kx st s' → ex "BadTable" [] s') : Wq (upC [o0, some (.han r), o2, o3, o4, o5, some (.han c), o7, o8, o9, o10, o11]) s postF ex := by
  unfold upC
  rw [wq_mSeq, wq_mSet]
  refine tkE_go rfl hd hb hr h (fun n l1 s1 e1 h1 f1 g1 => ?_) (fun s1 e1 k1 => hno s1 (by unfold rdC; rw [e1]; rfl) k1)
  have hl1 := (rdN_len _ _ _ _ e1).1
  have hc1 : s1[c]? = some (.lst (acc.map ctD)) := by rw [f1 c (by omega)]; exact hc
  have hm : Int.fmod (n : Int) 2 = ((n % 2 : Nat) : Int) := by rw [Int.fmod_eq_emod_of_nonneg _ (by decide)]; omega
  have hq : Int.fdiv (n : Int) 2 = ((n / 2 : Nat) : Int) := by rw [Int.fdiv_eq_ediv_of_nonneg _ (by decide)]; omega
  have hcd : CDivN (n : Int) 2 := ⟨by decide, by decide⟩
  simp only [kb_app, wq_ret, List.set_cons_succ, List.set_cons_zero]
  rw [wq_mSeq]
  have key : ∀ (k : Option Nat), (if n / 2 = 0 then none else some (n / 2 - 1)) = k → Wq (mExpr (eApp (eVar 6) (eTup (aCons (eVar 11) (aCons tkE (aCons (e2 eqD (e2 modD (eVar 10) (eC (.int 2))) (eC (.int 1))) aNil))))) [o0, some (.han r), o2, o3, o4, o5, some (.han c), o7, o8, o9, some (.int n), some (onD k)]) s1 postF ex := by
    intro k hk
    simp
    rw [wq_isLs_h hc1]
    simp
    refine tkE_go rfl hd hb hr h1 (fun m l2 s2 e2 h2 f2 g2 => ?_) (fun s2 e2 k2 => hno s2 (by unfold rdC; rw [e1, Option.bind_some, e2]; rfl) k2)
    have hl2 := (rdN_len _ _ _ _ e2).1
    have hc2 : s2[c]? = some (.lst (acc.map ctD)) := by rw [f2 c (by omega)]; exact hc1
    simp [hm]
    rw [wq_appD hc2 (by simpa using hl)]
    have eb : decide ((n : Int) % 2 = 1) = decide (n % 2 = 1) := by
      by_cases z : n % 2 = 1
      · rw [decide_eq_true z, decide_eq_true (by omega)]
      · rw [decide_eq_false z, decide_eq_false (by omega)]
    obtain ⟨sp, q1, q2, q3⟩ := h2.at_
    have := hok (k, m, decide (n % 2 = 1)) l2 (s2.set c (.lst (acc.map ctD ++ [Da.tup [onD k, .int m, .bl (decide (n % 2 = 1))]]))) (some (.int n)) (some (onD k)) (by unfold rdC; rw [e1, Option.bind_some]; dsimp only; rw [e2, Option.map_some]; dsimp only; rw [hk]) (by omega) ⟨⟨sp, by rw [List.getElem?_set_ne (by omega)]; exact q1, q2, q3⟩, h2.kx.set (by omega)⟩ (fun i z1 z2 => by rw [List.getElem?_set_ne (Ne.symm z2), f2 i z1, f1 i z1]) (by simp; omega) (by rw [List.getElem?_set_self (some_lt' hc2)]; simp [ctD])
    simpa [eb] using this
  by_cases z : n / 2 = 0
  · have hz : (n : Int) / 2 = 0 := by omega
    have := key none (by simp only [z, if_true])
    simp [hcd, hq, hz, -wq_mExpr]
    exact this
  · have hz : ¬ (n : Int) / 2 = 0 := by omega
    have hs : (n : Int) / 2 - 1 = ((n / 2 - 1 : Nat) : Int) := by omega
    have := key (some (n / 2 - 1)) (by simp only [z, if_false])
    simp [hcd, hq, -wq_mExpr]
    simp only [hz, if_false]
    simp [hcd, hq, hs, -wq_mExpr]
    exact this
end
end CL
namespace CL
open PySem L2
theorem deqL_chs : ∀ a b : List (List Ct), deqL (a.map chD) (b.map chD) = decide (a = b)
  | [], [] => by simp [deqL, toPyL, PyData.eqvAll]
  | [], b :: r => by simp [deqL, toPyL, PyData.eqvAll]
  | a :: r, [] => by simp [deqL, toPyL, PyData.eqvAll]
  | a :: r, b :: s => by
    rw [List.map_cons, List.map_cons, deqL_cons, deq_chD, deqL_chs r s]
    simp
section
variable {st s : Store} {d : Da} {ns l : List Nat} {r : Nat} {post : Da → Store → Prop} {postF : Fl → Store → Prop} {ex : Str → List Da → Store → Prop}
theorem Rst.push {c : Cell} (h : Rst st d ns r l s) : Rst st d ns r l (s ++ [c]) := by
  obtain ⟨sp, h1, h2, h3⟩ := h.at_
  exact ⟨⟨sp, by rw [List.getElem?_append_left (some_lt' h1)]; exact h1, h2, h3⟩, h.kx.push⟩
theorem Rst.set {c : Cell} {i : Nat} (h : Rst st d ns r l s) (hi : i ≠ r) (hl : st.length ≤ i) : Rst st d ns r l (s.set i c) := by
  obtain ⟨sp, h1, h2, h3⟩ := h.at_
  exact ⟨⟨sp, by rw [List.getElem?_set_ne hi]; exact h1, h2, h3⟩, h.kx.set hl⟩
theorem big_rd {l : List Nat} {n : Nat} {l' : List Nat} (h : rdN 0 l = some (n, l')) : big (n : Int) := by
  have := rdN_lt l 0 n l' (by omega) h
  simp at this
  unfold big
  omega
def UcI (st : Store) (d : Da) (ns : List Nat) (r c q n : Nat) (l0 : List Nat) (s0 : Store) (o0 o3 o4 o5 o8 o9 : Option Da) (i : Nat) (ro : Sl) (s : Store) : Prop :=
  ∃ (a : List Ct) (l : List Nat) (o7 o10 o11 : Option Da), ro = [o0, some (.han r), some (.han c), o3, o4, o5, some (.han q), o7, o8, o9, o10, o11] ∧ Rst st d ns r l s ∧ s[q]? = some (.lst (a.map ctD)) ∧ a.length + l.length ≤ l0.length ∧ (∀ j, j < s0.length → j ≠ r → s[j]? = s0[j]?) ∧ s0.length ≤ s.length ∧ rdM rdC n l0 = (rdM rdC (n - i) l).map fun q => (a ++ q.1, q.2)
theorem upCh_go {o0 o3 o4 o5 o6 o7 o8 o9 o10 o11 : Option Da} {c : Nat} {acc : List (List Ct)} (hd : LsAt d (inL ns) st) (hb : ∀ b ∈ ns, b ≤ 255) (hr : st.length ≤ r) (hrc : r < c) (h : Rst st d ns r l s) (hc : s[c]? = some (.lst (acc.map chD))) (hl : acc.length < 1000000) (hll : l.length < 1000000)
    (hok : ∀ ch l' s' o6 o7 o10 o11, rdCh l = some (ch, l') → l'.length < l.length → Rst st d ns r l' s' → (∀ i, i < s.length → i ≠ r → i ≠ c → s'[i]? = s[i]?) → s.length ≤ s'.length → s'[c]? = some (.lst ((acc ++ [ch]).map chD)) → postF (.nx [o0, some (.han r), some (.han c), o3, o4, o5, o6, o7, o8, o9, o10, o11]) s')
    (hno : ∀ s', rdCh l = none → Kx st s' → ex "BadTable" [] s') : Wq (upCh [o0, some (.han r), some (.han c), o3, o4, o5, o6, o7, o8, o9, o10, o11]) s postF ex := by
  have hcl := some_lt' hc
  unfold upCh
  rw [wq_mSeq]
  simp [-wq_mSeq]
  rw [wq_mSeq]
  simp [-wq_mSeq, -wq_mExpr]
  refine tkE_go rfl hd hb hr h.push (fun n l1 s1 e1 h1 f1 g1 => ?_) (fun s1 e1 k1 => hno s1 (by unfold rdCh; rw [e1]; rfl) k1)
  have hl1 := (rdN_len _ _ _ _ e1).1
  simp [-wq_mSeq, -wq_mExpr]
  rw [wq_srcR1 (big_rd e1)]
  simp only [kb_app, Int.toNat_natCast]
  simp at g1
  refine wq_forI (UcI st d ns r c s.length n l1 s o0 o3 o4 o5 o8 o9) ⟨[], l1, _, _, _, rfl, h1, by rw [f1 _ (by omega)]; simp, by simp, fun j hj hjr => by rw [f1 j hjr, List.getElem?_append_left hj], by omega, by simp⟩ ?_ ?_
  · rintro i x ro s2 hx ⟨a, l2, o7, o10, o11, rfl, h2, hq, hal, hf, hsl, he⟩
    obtain ⟨hi, rfl⟩ := rng_get hx
    refine ⟨_, rfl, ?_⟩
    refine upC_go (c := s.length) hd hb hr (by omega) h2 hq (by omega) (fun ct l3 s3 o10 o11 e3 hl3 h3 f3 g3 hq3 => ?_) (fun s3 e3 k3 => hno s3 (by unfold rdCh; rw [e1, Option.bind_some]; exact rdM_stop hi e3 he) k3)
    refine ⟨a ++ [ct], l3, _, _, _, rfl, h3, hq3, by simp; omega, fun j hj hjr => by rw [f3 j hjr (by omega), hf j hj hjr], by omega, rdM_step hi e3 he⟩
  · rintro ro s2 ⟨a, l2, o7, o10, o11, rfl, h2, hq, hal, hf, hsl, he⟩
    have en : (rngL 0 n).length = n := by simp [rngL]
    rw [en, Nat.sub_self] at he
    have he' : rdCh l = some (a, l2) := by unfold rdCh; rw [e1, Option.bind_some]; dsimp only; rw [he]; simp [rdM]
    have hc2 : s2[c]? = some (.lst (acc.map chD)) := by rw [hf c hcl (by omega)]; exact hc
    simp
    rw [wq_isLs_h hc2]
    simp
    rw [wq_tuple_h hq]
    simp
    rw [wq_appD hc2 (by simpa using hl)]
    simp
    refine hok a l2 _ _ _ _ _ he' (by omega) (h2.set (by omega) (by omega)) (fun i h1 h2 h3 => by rw [List.getElem?_set_ne (Ne.symm h3), hf i h1 h2]) (by simp; omega) ?_
    rw [List.getElem?_set_self (some_lt' hc2)]
    simp [chD]
def UhI (st : Store) (d : Da) (ns : List Nat) (r c n : Nat) (l0 : List Nat) (s0 : Store) (o0 o4 o5 o8 o9 : Option Da) (i : Nat) (ro : Sl) (s : Store) : Prop :=
  ∃ (a : List (List Ct)) (l : List Nat) (o3 o6 o7 o10 o11 : Option Da), ro = [o0, some (.han r), some (.han c), o3, o4, o5, o6, o7, o8, o9, o10, o11] ∧ Rst st d ns r l s ∧ s[c]? = some (.lst (a.map chD)) ∧ a.length + l.length ≤ l0.length ∧ rdM rdCh n l0 = (rdM rdCh (n - i) l).map fun q => (a ++ q.1, q.2)
theorem chains_go {o0 o3 o4 o5 o6 o7 o8 o9 o10 o11 : Option Da} {c : Nat} (hd : LsAt d (inL ns) st) (hb : ∀ b ∈ ns, b ≤ 255) (hr : st.length ≤ r) (hrc : r < c) (h : Rst st d ns r l s) (hc : s[c]? = some (.lst [])) (hll : l.length < 1000000)
    (hok : ∀ cs l' s' o3 o6 o7 o10 o11, rdChs l = some (cs, l') → l'.length < l.length → Rst st d ns r l' s' → s'[c]? = some (.lst (cs.map chD)) → postF (.nx [o0, some (.han r), some (.han c), o3, o4, o5, o6, o7, o8, o9, o10, o11]) s')
    (hno : ∀ s', rdChs l = none → Kx st s' → ex "BadTable" [] s') : Wq (mFor (iR1 (aCons tkE aNil)) (gN 3) upCh [o0, some (.han r), some (.han c), o3, o4, o5, o6, o7, o8, o9, o10, o11]) s postF ex := by
  simp
  refine tkE_go rfl hd hb hr h (fun n l1 s1 e1 h1 f1 g1 => ?_) (fun s1 e1 k1 => hno s1 (by unfold rdChs; rw [e1]; rfl) k1)
  have hl1 := (rdN_len _ _ _ _ e1).1
  simp
  rw [wq_srcR1 (big_rd e1)]
  simp only [kb_app, Int.toNat_natCast]
  refine wq_forI (UhI st d ns r c n l1 s o0 o4 o5 o8 o9) ⟨[], l1, _, _, _, _, _, rfl, h1, by rw [f1 _ (by omega)]; exact hc, by simp, by simp⟩ ?_ ?_
  · rintro i x ro s2 hx ⟨a, l2, o3, o6, o7, o10, o11, rfl, h2, hq, hal, he⟩
    obtain ⟨hi, rfl⟩ := rng_get hx
    refine ⟨_, rfl, ?_⟩
    refine upCh_go (c := c) hd hb hr hrc h2 hq (by omega) (by omega) (fun ct l3 s3 o6 o7 o10 o11 e3 hl3 h3 f3 g3 hq3 => ?_) (fun s3 e3 k3 => hno s3 (by unfold rdChs; rw [e1, Option.bind_some]; exact rdM_stop hi e3 he) k3)
    exact ⟨a ++ [ct], l3, _, _, _, _, _, rfl, h3, hq3, by simp; omega, rdM_step hi e3 he⟩
  · rintro ro s2 ⟨a, l2, o3, o6, o7, o10, o11, rfl, h2, hq, hal, he⟩
    have en : (rngL 0 n).length = n := by simp [rngL]
    rw [en, Nat.sub_self] at he
    exact hok a l2 s2 _ _ _ _ _ (by unfold rdChs; rw [e1, Option.bind_some]; dsimp only; rw [he]; simp [rdM]) (by omega) h2 hq
/-- a row -/
theorem upR_go {o0 o3 o6 o7 o8 o9 o10 o11 : Option Da} {c t a : Nat} {cs : List (List Ct)} {T : List Rg2} (hd : LsAt d (inL ns) st) (hb : ∀ b ∈ ns, b ≤ 255) (hr : st.length ≤ r) (hrc : r < c) (hct : c < t) (h : Rst st d ns r l s) (hc : s[c]? = some (.lst (cs.map chD))) (ht : s[t]? = some (.lst (T.map rg2D))) (hl : T.length < 1000000)
    (hok : ∀ x l' s' o8 o9, rdR cs a l = some (x, l') → l'.length < l.length → Rst st d ns r l' s' → s'[c]? = some (.lst (cs.map chD)) → s'[t]? = some (.lst ((T ++ [x]).map rg2D)) → postF (.nx [o0, some (.han r), some (.han c), o3, some (.han t), some (.int (x.2.1 : Nat)), o6, o7, o8, o9, o10, o11]) s')
    (hno : ∀ s', rdR cs a l = none → Kx st s' → ex "BadTable" [] s') : Wq (upR [o0, some (.han r), some (.han c), o3, some (.han t), some (.int (a : Nat)), o6, o7, o8, o9, o10, o11]) s postF ex := by
  unfold upR
  rw [wq_mSeq]
  simp [-wq_mSeq]
  refine tkE_go rfl hd hb hr h (fun n l1 s1 e1 h1 f1 g1 => ?_) (fun s1 e1 k1 => hno s1 (by unfold rdR; rw [e1]; rfl) k1)
  have hl1 := (rdN_len _ _ _ _ e1).1
  simp [-wq_mSeq]
  rw [wq_mSeq]
  simp [-wq_mSeq]
  refine tkE_go rfl hd hb hr h1 (fun m l2 s2 e2 h2 f2 g2 => ?_) (fun s2 e2 k2 => hno s2 (by unfold rdR; rw [e1, Option.bind_some, e2]; rfl) k2)
  have hl2 := (rdN_len _ _ _ _ e2).1
  simp [-wq_mSeq]
  rw [wq_mSeq]
  simp [-wq_mSeq]
  refine tkE_go rfl hd hb hr h2 (fun q l3 s3 e3 h3 f3 g3 => ?_) (fun s3 e3 k3 => hno s3 (by unfold rdR; rw [e1, Option.bind_some, e2, Option.bind_some, e3]; rfl) k3)
  have hl3 := (rdN_len _ _ _ _ e3).1
  have hc3 : s3[c]? = some (.lst (cs.map chD)) := by rw [f3 c (by omega), f2 c (by omega), f1 c (by omega)]; exact hc
  have ht3 : s3[t]? = some (.lst (T.map rg2D)) := by rw [f3 t (by omega), f2 t (by omega), f1 t (by omega)]; exact ht
  simp
  rw [wq_len_h hc3]
  simp
  by_cases hq : q < cs.length
  · have hq' : ¬ cs.length ≤ q := by omega
    have hx : atI (cs.map chD) (q : Int) = some (chD cs[q]) := atI_nat (by rw [List.getElem?_map, List.getElem?_eq_getElem hq]; rfl)
    simp [hq']
    rw [wq_isLs_h ht3]
    simp
    rw [wq_ix_h hc3 hx]
    simp
    rw [wq_appD ht3 (by simpa using hl)]
    simp
    have := hok (a + n, a + n + m, cs[q]) l3 (s3.set t (.lst ((T ++ [(a + n, a + n + m, cs[q])]).map rg2D))) (some (.int ((a + n : Nat) : Int))) (some (.int q)) (by unfold rdR; rw [e1, Option.bind_some, e2, Option.bind_some, e3, Option.bind_some]; simp [hq]) (by omega) (h3.set (by omega) (by have := some_lt' hc3; have := h3.kx.len; omega)) (by rw [List.getElem?_set_ne (by omega)]; exact hc3) (by rw [List.getElem?_set_self (some_lt' ht3)])
    simpa [rg2D] using this
  · have hq' : cs.length ≤ q := by omega
    simp [hq']
    exact hno s3 (by unfold rdR; rw [e1, Option.bind_some, e2, Option.bind_some, e3, Option.bind_some]; simp [hq']) h3.kx
def UrI (st : Store) (d : Da) (ns : List Nat) (r c t n : Nat) (cs : List (List Ct)) (l0 : List Nat) (o0 o6 o7 o10 o11 : Option Da) (i : Nat) (ro : Sl) (s : Store) : Prop :=
  ∃ (T : List Rg2) (l : List Nat) (a : Nat) (o3 o8 o9 : Option Da), ro = [o0, some (.han r), some (.han c), o3, some (.han t), some (.int (a : Nat)), o6, o7, o8, o9, o10, o11] ∧ Rst st d ns r l s ∧ s[c]? = some (.lst (cs.map chD)) ∧ s[t]? = some (.lst (T.map rg2D)) ∧ T.length + l.length ≤ l0.length ∧ rdRs cs n 0 l0 = (rdRs cs (n - i) a l).map fun q => (T ++ q.1, q.2)
theorem rows_go {o0 o3 o6 o7 o8 o9 o10 o11 : Option Da} {c t : Nat} {cs : List (List Ct)} (hd : LsAt d (inL ns) st) (hb : ∀ b ∈ ns, b ≤ 255) (hr : st.length ≤ r) (hrc : r < c) (hct : c < t) (h : Rst st d ns r l s) (hc : s[c]? = some (.lst (cs.map chD))) (ht : s[t]? = some (.lst [])) (hll : l.length < 1000000)
    (hok : ∀ n l1 T l' s' o3 o5 o8 o9, rdN 0 l = some (n, l1) → rdRs cs n 0 l1 = some (T, l') → T.length + l'.length < l.length → Rst st d ns r l' s' → s'[c]? = some (.lst (cs.map chD)) → s'[t]? = some (.lst (T.map rg2D)) → postF (.nx [o0, some (.han r), some (.han c), o3, some (.han t), o5, o6, o7, o8, o9, o10, o11]) s')
    (hno : ∀ s', ((rdN 0 l).bind fun q => rdRs cs q.1 0 q.2) = none → Kx st s' → ex "BadTable" [] s') : Wq (mFor (iR1 (aCons tkE aNil)) (gN 3) upR [o0, some (.han r), some (.han c), o3, some (.han t), some (.int 0), o6, o7, o8, o9, o10, o11]) s postF ex := by
  simp
  refine tkE_go rfl hd hb hr h (fun n l1 s1 e1 h1 f1 g1 => ?_) (fun s1 e1 k1 => hno s1 (by rw [e1]; rfl) k1)
  have hl1 := (rdN_len _ _ _ _ e1).1
  simp
  rw [wq_srcR1 (big_rd e1)]
  simp only [kb_app, Int.toNat_natCast]
  refine wq_forI (UrI st d ns r c t n cs l1 o0 o6 o7 o10 o11) ⟨[], l1, 0, _, _, _, rfl, h1, by rw [f1 _ (by omega)]; exact hc, by rw [f1 _ (by omega)]; exact ht, by simp, by simp⟩ ?_ ?_
  · rintro i x ro s2 hx ⟨T, l2, a, o3, o8, o9, rfl, h2, hc2, ht2, hal, he⟩
    obtain ⟨hi, rfl⟩ := rng_get hx
    refine ⟨_, rfl, ?_⟩
    have en : n - i = (n - (i + 1)) + 1 := by omega
    rw [en, rdRs] at he
    refine upR_go (c := c) hd hb hr hrc hct h2 hc2 ht2 (by omega) (fun x l3 s3 o8 o9 e3 hl3 h3 hc3 ht3 => ?_) (fun s3 e3 k3 => hno s3 (by rw [e1, Option.bind_some]; dsimp only; rw [he, e3]; rfl) k3)
    refine ⟨T ++ [x], l3, x.2.1, _, _, _, rfl, h3, hc3, ht3, by simp; omega, ?_⟩
    rw [he, e3]
    simp [Function.comp_def]
  · rintro ro s2 ⟨T, l2, a, o3, o8, o9, rfl, h2, hc2, ht2, hal, he⟩
    have en : (rngL 0 n).length = n := by simp [rngL]
    rw [en, Nat.sub_self] at he
    exact hok n l1 T l2 s2 _ _ _ _ e1 (by rw [he]; simp [rdRs]) (by omega) h2 hc2 ht2
theorem unpacked_go (hd : LsAt d (inL ns) st) (hb : ∀ b ∈ ns, b ≤ 255) (hl : ns.length < 1000000) (hok : ∀ T s', unp ns = some T → Kx st s' → post (tbD T) s') (hno : ∀ s', unp ns = none → Kx st s' → ex "BadTable" [] s') : Wq (f_unpacked [d]) st post ex := by
  have hd1 : LsAt d (inL ns) (st ++ [Cell.ins "Reader" []]) := hd.mono (by simp) fun j hj => List.getElem?_append_left hj
  unfold f_unpacked
  rw [unpacked_eq]
  simp [startS, -wq_mSeq]
  rw [wq_mSeq]
  simp [-wq_mSeq]
  refine (init_ok (r := st.length) hd1 hb (by omega) (by simp)).go ?_
  rintro _ _ ⟨rfl, rfl⟩
  have hR : Rst st d ns st.length ns ((st ++ [Cell.ins "Reader" []]).set st.length (rdrF d 0)) := ⟨⟨0, by rw [List.getElem?_set_self (by simp)], rfl, by omega⟩, Kx.refl.push.set (Nat.le_refl _)⟩
  have hlen : ((st ++ [Cell.ins "Reader" []]).set st.length (rdrF d 0)).length = st.length + 1 := by simp
  generalize (st ++ [Cell.ins "Reader" []]).set st.length (rdrF d 0) = s1 at hR hlen
  simp [-wq_mSeq]
  rw [wq_mSeq]
  simp [-wq_mSeq]
  rw [wq_mSeq]
  refine chains_go (c := s1.length) hd hb (Nat.le_refl _) (by omega) hR.push (by simp) (by omega) (fun cs l2 s2 o3 o6 o7 o10 o11 e2 hl2 h2 hc2 => ?_) (fun s2 e2 k2 => hno s2 (by unfold unp; rw [e2]; rfl) k2)
  simp only [kb_app]
  rw [wq_mSeq]
  simp [-wq_mSeq]
  rw [wq_mSeq]
  simp [-wq_mSeq]
  rw [wq_mSeq]
  have hcl := some_lt' hc2
  refine rows_go (c := s1.length) (t := s2.length) hd hb (Nat.le_refl _) (by omega) (by omega) h2.push (by rw [List.getElem?_append_left hcl]; exact hc2) (by simp) (by omega) (fun n l3 T l4 s4 o3 o5 o8 o9 e3 e4 hl4 h4 hc4 ht4 => ?_) (fun s3 e3 k3 => hno s3 (by
    unfold unp
    rw [e2, Option.bind_some]
    dsimp only
    cases hq : rdN 0 l2 with
    | none => rfl
    | some q =>
      rw [hq, Option.bind_some] at e3
      rw [Option.bind_some, e3]
      rfl) k3)
  have hu : unp ns = if l4 = [] ∧ T.all okR = true ∧ chsOf T = cs then some T else none := by
    unfold unp
    rw [e2, Option.bind_some]
    dsimp only
    rw [e3, Option.bind_some]
    dsimp only
    rw [e4, Option.bind_some]
  obtain ⟨sp, hsp, rfl, hspl⟩ := h4.at_
  have hnil : ns.drop sp = [] ↔ sp = ns.length := by rw [List.drop_eq_nil_iff]; omega
  have hdl : LsAt d (inL ns) s4 := hd.mono h4.kx.len h4.kx.at_
  simp only [kb_app]
  unfold upEnd
  rw [wq_mSeq, wq_mIf]
  simp
  rw [wq_fldD hsp (by simp) (x := .int sp) rfl]
  simp
  rw [hdl.len]
  simp
  by_cases z1 : sp = ns.length
  · have z1i : (sp : Int) = (ns.length : Int) := by omega
    simp only [z1i, not_true, if_true, if_false, decide_true, decide_false, Bool.not_true, Bool.not_false, ite_true, ite_false]
    simp
    refine istabG (rdRs_asc e4) (.inr ⟨_, rfl, ht4⟩) ?_
    by_cases z2 : T.all okR = true
    · rw [z2]
      simp
      have hTl : T.length < 1000000 := by omega
      refine (chains_ok hTl (.inr ⟨_, rfl, ht4⟩)).go ?_
      rintro _ s5 ⟨rfl, k5⟩
      simp
      have hc5 := k5.get hc4
      rw [wq_eqI (pl_is (n := 60) (by decide) (d := .lst ((chsOf T).map chD)) (by simpa [pl] using chs_pl (chsOf T))) (han_is (n := 59) (by decide) hc5 (chs_pl cs))]
      have ee : PyData.eqv (toPy (Da.lst ((chsOf T).map chD))) (.list (toPyL (cs.map chD))) = decide (chsOf T = cs) := by
        rw [← deqL_chs]
        rfl
      rw [ee]
      by_cases z3 : chsOf T = cs
      · simp [z3]
        rw [wq_fz (k5.get ht4)]
        simp
        refine hok T _ (by rw [hu, if_pos ⟨hnil.mpr z1, z2, z3⟩]) ((h4.kx.trans k5).set (by have := h2.kx.len; omega))
      · simp [z3]
        exact hno _ (by rw [hu, if_neg fun z => z3 z.2.2]) (h4.kx.trans k5)
    · have z2' : T.all okR = false := by simpa using z2
      rw [z2']
      simp
      exact hno _ (by rw [hu, if_neg fun z => z2 z.2.1]) h4.kx
  · have z1' : ¬ (sp : Int) = (ns.length : Int) := by omega
    simp only [z1', not_false, if_true, if_false, ite_true, ite_false]
    simp
    exact hno _ (by rw [hu, if_neg fun z => z1 (hnil.mp z.1)]) h4.kx
end
end CL
namespace CL
open PySem L2
def lpIn : Sl → Mo Fl := (mSet 5 (e2 addD (e2 addD (eVar 5) (eCall (fun ds => ar 1 f__law_bytes ds) (aCons (e2 addD (eIf (tst (e2 (isB false) (eVar 7) (eC (.non)))) (eC (.int 0)) (e2 addD (e2 mulD (eC (.int 2)) (eVar 7)) (eC (.int 2)))) (eIf (tst (eVar 9)) (eC (.int 1)) (eC (.int 0)))) aNil))) (eCall (fun ds => ar 1 f__law_bytes ds) (aCons (eVar 8) aNil))))
def lpOut : Sl → Mo Fl := (mSeq (mSet 5 (e2 addD (eVar 5) (eCall (fun ds => ar 1 f__law_bytes ds) (aCons (eCall (one lenD) (aCons (eVar 4) aNil)) aNil)))) (mFor (iV (eVar 4)) (gT 3 (gsC (gN 7) (gsC (gN 8) (gsC (gN 9) gsN)))) lpIn))
section
variable {st s : Store} {acc : List Nat} {o0 o1 o2 o3 o4 o6 o7 o8 o9 : Option Da} {post : Da → Store → Prop} {ex : Str → List Da → Store → Prop}
theorem wq_addLL {xs ys : List Da} (hl : xs.length + ys.length ≤ 1000000) : Wq (addD (.lst xs) (.lst ys)) s post ex ↔ post (.lst (xs ++ ys)) s := by
  rw [wq_iff]
  unfold Wp addD
  dsimp only [lsOf]
  have : xs.length + ys.length ≤ szD := hl
  rw [if_pos this]
theorem put1 {n : Nat} {ro : Sl} {e : Sl → Mo Da} {postF : Fl → Store → Prop} (hr : ro[5]? = some (some (.lst (inL acc)))) (hn : n < 1000000) (hl : acc.length ≤ 900000) (he : ∀ {s : Store} {post : Da → Store → Prop} {ex : Str → List Da → Store → Prop}, Wq (e ro) s post ex ↔ post (.int (n : Nat)) s)
    (hp : ∀ s', Kx s s' → postF (.nx (ro.set 5 (some (.lst (inL (acc ++ dig n)))))) s') : Wq (mSet 5 (e2 addD (eVar 5) (eCall (fun ds => ar 1 f__law_bytes ds) (aCons e aNil))) ro) s postF ex := by
  have hd := dig_len (n := n) (by omega)
  rw [wq_mSet, wq_e2, wq_var hr]
  simp [he]
  refine (bytes_ok hn).go ?_
  rintro _ s1 ⟨rfl, k1⟩
  simp
  rw [wq_addLL (by simp; omega)]
  simp
  have := hp s1 k1
  simpa using this
theorem put2 {n m : Nat} {ro : Sl} {e e' : Sl → Mo Da} {postF : Fl → Store → Prop} (hr : ro[5]? = some (some (.lst (inL acc)))) (hn : n < 1000000) (hm : m < 1000000) (hl : acc.length ≤ 900000) (he : ∀ {s : Store} {post : Da → Store → Prop} {ex : Str → List Da → Store → Prop}, Wq (e ro) s post ex ↔ post (.int (n : Nat)) s) (he' : ∀ {s : Store} {post : Da → Store → Prop} {ex : Str → List Da → Store → Prop}, Wq (e' ro) s post ex ↔ post (.int (m : Nat)) s)
    (hp : ∀ s', Kx s s' → postF (.nx (ro.set 5 (some (.lst (inL (acc ++ dig n ++ dig m)))))) s') : Wq (mSet 5 (e2 addD (e2 addD (eVar 5) (eCall (fun ds => ar 1 f__law_bytes ds) (aCons e aNil))) (eCall (fun ds => ar 1 f__law_bytes ds) (aCons e' aNil))) ro) s postF ex := by
  have hd := dig_len (n := n) (by omega)
  have hd' := dig_len (n := m) (by omega)
  rw [wq_mSet, wq_e2, wq_e2, wq_var hr]
  simp [he]
  refine (bytes_ok hn).go ?_
  rintro _ s1 ⟨rfl, k1⟩
  simp
  rw [wq_addLL (by simp; omega)]
  simp [he']
  refine (bytes_ok hm).go ?_
  rintro _ s2 ⟨rfl, k2⟩
  simp
  rw [wq_addLL (by simp; omega)]
  simp
  have := hp s2 (k1.trans k2)
  simpa using this
theorem lpIn_ok {c : Ct} (hk : ∀ k, c.1 = some k → k < 5) (hg : c.2.1 ≤ 100000) (hl : acc.length ≤ 900000) :
    Wq (lpIn [o0, o1, o2, o3, o4, some (.lst (inL acc)), o6, some (onD c.1), some (.int (c.2.1 : Nat)), some (.bl c.2.2)]) s (fun g s' => g = .nx [o0, o1, o2, o3, o4, some (.lst (inL (acc ++ pkC c))), o6, some (onD c.1), some (.int (c.2.1 : Nat)), some (.bl c.2.2)] ∧ Kx s s') noEx := by
  obtain ⟨c1, c2, c3⟩ := c
  dsimp only at hk hg ⊢
  have hs : sgn (c1, c2, c3) < 1000000 := by
    cases c1 with
    | none => cases c3 <;> simp [sgn]
    | some k => have := hk k rfl; cases c3 <;> simp [sgn] <;> omega
  have d1 := dig_len (n := sgn (c1, c2, c3)) (by omega)
  have d2 := dig_len (n := c2) (by omega)
  have ev : ∀ {s : Store} {post : Da → Store → Prop} {ex : Str → List Da → Store → Prop}, Wq ((e2 addD (eIf (tst (e2 (isB false) (eVar 7) (eC (.non)))) (eC (.int 0)) (e2 addD (e2 mulD (eC (.int 2)) (eVar 7)) (eC (.int 2)))) (eIf (tst (eVar 9)) (eC (.int 1)) (eC (.int 0)))) [o0, o1, o2, o3, o4, some (.lst (inL acc)), o6, some (onD c1), some (.int (c2 : Nat)), some (.bl c3)]) s post ex ↔ post (.int (sgn (c1, c2, c3) : Nat)) s := by
    intro s post ex
    cases c1 with
    | none => cases c3 <;> simp [onD, sgn]
    | some k =>
      have := hk k rfl
      have hcm : CMul 2 (k : Int) := by unfold CMul; omega
      have e1 : (2 : Int) * k + 2 = 2 * ((k : Int) + 1) := by omega
      cases c3 <;> simp [onD, sgn, hcm, e1]
  unfold lpIn
  refine put2 (n := sgn (c1, c2, c3)) (m := c2) rfl hs (by omega) hl ev (by intros; simp) fun s' k => ?_
  exact ⟨by simp [pkC], k⟩
def LpI (st : Store) (acc : List Nat) (ch : List Ct) (o0 o1 o2 o3 o4 o6 : Option Da) (i : Nat) (ro : Sl) (s : Store) : Prop := (∃ o7 o8 o9, ro = [o0, o1, o2, o3, o4, some (.lst (inL (acc ++ (ch.take i).flatMap pkC))), o6, o7, o8, o9]) ∧ Kx st s
theorem lpOut_ok {ch : List Ct} (hch : ∀ c ∈ ch, (∀ k, c.1 = some k → k < 5) ∧ c.2.1 ≤ 100000) (hcl : ch.length ≤ 1000) (hl : acc.length ≤ 800000) :
    Wq (lpOut [o0, o1, o2, o3, some (chD ch), some (.lst (inL acc)), o6, o7, o8, o9]) s (fun g s' => (∃ o7 o8 o9, g = .nx [o0, o1, o2, o3, some (chD ch), some (.lst (inL (acc ++ pkCh ch))), o6, o7, o8, o9]) ∧ Kx s s') noEx := by
  have hd := dig_len (n := ch.length) (by omega)
  unfold lpOut
  rw [wq_mSeq]
  refine put1 (n := ch.length) rfl (by omega) (by omega) (by intros; simp [chD]) fun s1 k1 => ?_
  simp only [kb_app]
  have ec : chD ch = .tup (ch.map ctD) := rfl
  simp [ec]
  rw [← ec]
  refine wq_forI (LpI s (acc ++ dig ch.length) ch o0 o1 o2 o3 (some (chD ch)) o6) ⟨⟨o7, o8, o9, by simp⟩, k1⟩ ?_ ?_
  · rintro i x ro s2 hx ⟨⟨p7, p8, p9, rfl⟩, k2⟩
    rw [List.getElem?_map] at hx
    cases hfi : ch[i]? with
    | none => rw [hfi] at hx; simp at hx
    | some c =>
      rw [hfi] at hx
      simp at hx
      subst hx
      have hm := List.mem_of_getElem? hfi
      refine ⟨[o0, o1, o2, o3, some (chD ch), some (.lst (inL (acc ++ dig ch.length ++ (ch.take i).flatMap pkC))), o6, some (onD c.1), some (.int (c.2.1 : Nat)), some (.bl c.2.2)], rfl, ?_⟩
      have l2 := pkCs_len (ch.take i) fun x hx => hch x (List.mem_of_mem_take hx)
      have l3 : (ch.take i).length ≤ ch.length := by simp; omega
      refine (lpIn_ok (hch c hm).1 (hch c hm).2 (by simp only [List.length_append]; omega)).go ?_
      rintro _ s3 ⟨rfl, k3⟩
      refine ⟨⟨some (onD c.1), some (.int (c.2.1 : Nat)), some (.bl c.2.2), ?_⟩, k2.trans k3⟩
      rw [List.take_add_one, hfi]
      simp
  · rintro ro s2 ⟨⟨p7, p8, p9, rfl⟩, k2⟩
    refine ⟨⟨p7, p8, p9, ?_⟩, k2⟩
    simp [pkCh]
end
end CL
namespace CL
open PySem L2
def lpC : Sl → Mo Fl := (mIf (tst (e2 (inU true) (eVar 4) (eVar 1))) (mExpr (eApp (eVar 1) (eVar 4))) mNil)
def lpRow : Sl → Mo Fl := (mSeq (mSet 5 (e2 addD (e2 addD (eVar 5) (eCall (fun ds => ar 1 f__law_bytes ds) (aCons (e2 subD (eVar 2) (eVar 6)) aNil))) (eCall (fun ds => ar 1 f__law_bytes ds) (aCons (e2 subD (eVar 3) (eVar 2)) aNil)))) (mSeq (mSet 5 (e2 addD (eVar 5) (eCall (fun ds => ar 1 f__law_bytes ds) (aCons (eIndex (eVar 1) (eVar 4)) aNil)))) (mSet 6 (eVar 3))))
theorem law_packed_eq : m__law_packed f__law_bytes = (mSeq (mSet 1 (eH (lDisp aNil))) (mSeq (mFor (iV (eVar 0)) (gT 3 (gsC (gN 2) (gsC (gN 3) (gsC (gN 4) gsN)))) lpC) (mSeq (mSet 5 (eCall (fun ds => ar 1 f__law_bytes ds) (aCons (eCall (one lenD) (aCons (eVar 1) aNil)) aNil))) (mSeq (mFor (iV (eVar 1)) (gN 4) lpOut) (mSeq (mSet 5 (e2 addD (eVar 5) (eCall (fun ds => ar 1 f__law_bytes ds) (aCons (eCall (one lenD) (aCons (eVar 0) aNil)) aNil)))) (mSeq (mSet 6 (eC (.int 0))) (mSeq (mFor (iV (eVar 0)) (gT 3 (gsC (gN 2) (gsC (gN 3) (gsC (gN 4) gsN)))) lpRow) (mRet (eVar 5))))))))) := by
  unfold m__law_packed
  simp only [List.append_nil]
  rfl
section
variable {st s : Store} {acc : List Nat} {o0 o1 o2 o3 o4 o5 o6 o7 o8 o9 : Option Da} {post : Da → Store → Prop} {ex : Str → List Da → Store → Prop}
theorem wq_index_chh {q : Nat} {cs : List (List Ct)} {ch : List Ct} (hq : s[q]? = some (.lst (cs.map chD))) (h : ch ∈ cs) : Wq (indexD (.han q) (chD ch)) s post ex ↔ post (.int (cs.idxOf ch : Nat)) s := by
  have h1 := han_is (n := 59) (by decide) hq (chs_pl cs)
  have h2 := pl_is (st := s) (n := 60) (by decide) (ch_pl60 ch)
  rw [wq_iff]
  unfold Wp indexD
  rw [h1.py, h2.py]
  dsimp only
  rw [if_pos (by rw [h1.sh, h2.sh]; rfl), find_py, idxOf_find cs ch h]
theorem lpRow_ok {q : Nat} {cs : List (List Ct)} {a : Nat} {x : Rg2} (hq : s[q]? = some (.lst (cs.map chD))) (hx : x.2.2 ∈ cs) (hcs : cs.length ≤ 100000) (h1 : a ≤ x.1) (h2 : x.1 < x.2.1) (h3 : x.2.1 ≤ 100000) (hl : acc.length ≤ 900000) :
    Wq (lpRow [o0, some (.han q), some (.int (x.1 : Nat)), some (.int (x.2.1 : Nat)), some (chD x.2.2), some (.lst (inL acc)), some (.int (a : Nat)), o7, o8, o9]) s (fun g s' => g = .nx [o0, some (.han q), some (.int (x.1 : Nat)), some (.int (x.2.1 : Nat)), some (chD x.2.2), some (.lst (inL (acc ++ dig (x.1 - a) ++ dig (x.2.1 - x.1) ++ dig (cs.idxOf x.2.2)))), some (.int (x.2.1 : Nat)), o7, o8, o9] ∧ Kx s s') noEx := by
  have hi : cs.idxOf x.2.2 < cs.length := List.idxOf_lt_length_iff.mpr hx
  have d1 := dig_len (n := x.1 - a) (by omega)
  have d2 := dig_len (n := x.2.1 - x.1) (by omega)
  unfold lpRow
  rw [wq_mSeq]
  refine put2 (n := x.1 - a) (m := x.2.1 - x.1) rfl (by omega) (by omega) hl ?_ ?_ fun s1 k1 => ?_
  · intro s post ex
    simp
    rw [show (x.1 : Int) - (a : Int) = ((x.1 - a : Nat) : Int) by omega]
  · intro s post ex
    simp
    rw [show (x.2.1 : Int) - (x.1 : Int) = ((x.2.1 - x.1 : Nat) : Int) by omega]
  simp only [kb_app, List.set_cons_succ, List.set_cons_zero]
  rw [wq_mSeq]
  have hd := dig_len (n := cs.idxOf x.2.2) (by omega)
  have hq1 := k1.get hq
  rw [wq_mSet, wq_e2]
  simp [-wq_mSet]
  rw [wq_isLs_h hq1]
  simp [-wq_mSet]
  rw [wq_index_chh hq1 hx]
  simp [-wq_mSet]
  refine (bytes_ok (n := cs.idxOf x.2.2) (by omega)).go ?_
  rintro _ s2 ⟨rfl, k2⟩
  simp
  rw [wq_addLL (by simp; omega)]
  simp
  exact k1.trans k2
def LcI (T : List Rg2) (st : Store) (i : Nat) (ro : Sl) (s : Store) : Prop := (∃ o2 o3 o4, ro = [some (tbD T), some (.han st.length), o2, o3, o4, none, none, none, none, none]) ∧ s = st ++ [.lst ((chsOf (T.take i)).map chD)]
def L1I (T : List Rg2) (st : Store) (i : Nat) (ro : Sl) (s : Store) : Prop := (∃ o2 o3 o4 o7 o8 o9, ro = [some (tbD T), some (.han st.length), o2, o3, o4, some (.lst (inL (dig (chsOf T).length ++ ((chsOf T).take i).flatMap pkCh))), none, o7, o8, o9]) ∧ Kx (st ++ [.lst ((chsOf T).map chD)]) s
def L2I (T : List Rg2) (st : Store) (A : List Nat) (i : Nat) (ro : Sl) (s : Store) : Prop := (∃ o2 o3 o4 o7 o8 o9, ro = [some (tbD T), some (.han st.length), o2, o3, o4, some (.lst (inL (A ++ pkR (chsOf T) 0 (T.take i)))), some (.int (atE 0 (T.take i) : Nat)), o7, o8, o9]) ∧ Kx (st ++ [.lst ((chsOf T).map chD)]) s
theorem law_packed_ok {T : List Rg2} (h : Pk T) : Wq (f__law_packed [tbD T]) st (fun d s => d = .lst (inL (pk T)) ∧ Kx st s) noEx := by
  have hl := h.len
  have hc := chsOf_len T
  have hin : ∀ ch ∈ chsOf T, ch.length ≤ 100 ∧ ∀ c ∈ ch, (∀ k, c.1 = some k → k < 5) ∧ c.2.1 ≤ 100000 := fun ch hch => by
    obtain ⟨x, hx, rfl⟩ := chsOf_from T ch hch
    exact (h.in_ x hx).2
  have dl := dig_len (n := (chsOf T).length) (by omega)
  have dt := dig_len (n := T.length) (by omega)
  have fl := flat_le (g := pkCh) (B := 603) (chsOf T) fun y hy => pkCh_len (hin y hy).1 (hin y hy).2
  have fl2 : (chsOf T).length * 603 ≤ 603000 := by omega
  have kk : Kx st (st ++ [Cell.lst ((chsOf T).map chD)]) := Kx.refl.push
  have hc0 : (st ++ [Cell.lst ((chsOf T).map chD)])[st.length]? = some (.lst ((chsOf T).map chD)) := by simp
  unfold f__law_packed
  rw [law_packed_eq]
  simp [startS, -wq_mSeq]
  rw [wq_mSeq]
  simp [-wq_mSeq]
  rw [wq_mSeq]
  simp [-wq_mSeq]
  rw [show (Wq (srcV (tbD T)) = Wq (srcV (.lst (T.map rg2D)))) from rfl]
  simp [-wq_mSeq]
  refine wq_forI (LcI T st) ⟨⟨none, none, none, rfl⟩, by simp [chsOf]⟩ ?_ ?_
  · rintro i x ro s hx ⟨⟨o2, o3, o4, rfl⟩, rfl⟩
    rw [List.getElem?_map] at hx
    cases hfi : T[i]? with
    | none => rw [hfi] at hx; simp at hx
    | some y =>
      rw [hfi] at hx
      simp at hx
      subst hx
      have hil := (List.getElem?_eq_some_iff.mp hfi).1
      refine ⟨[some (tbD T), some (.han st.length), some (.int (y.1 : Nat)), some (.int (y.2.1 : Nat)), some (chD y.2.2), none, none, none, none, none], rfl, ?_⟩
      have hcc : (st ++ [Cell.lst ((chsOf (T.take i)).map chD)])[st.length]? = some (.lst ((chsOf (T.take i)).map chD)) := by simp
      have et : T.take (i + 1) = T.take i ++ [y] := by rw [List.take_add_one, hfi]; rfl
      have hl := chsOf_len (T.take i)
      simp at hl
      unfold lpC
      simp
      rw [wq_inU_ch hcc]
      by_cases hm : y.2.2 ∈ chsOf (T.take i)
      · simp [hm]
        refine ⟨⟨_, _, _, rfl⟩, ?_⟩
        rw [et, chsOf_snoc, if_pos hm]
      · simp [hm]
        rw [wq_isLs_h hcc]
        simp
        rw [wq_appD hcc (by simp; omega)]
        simp
        refine ⟨⟨_, _, _, rfl⟩, ?_⟩
        rw [et, chsOf_snoc, if_neg hm]
        simp
  rintro ro s ⟨⟨o2, o3, o4, rfl⟩, rfl⟩
  rw [List.length_map, List.take_length]
  simp [-wq_mSeq]
  rw [wq_mSeq]
  simp [-wq_mSeq]
  rw [wq_len_h hc0]
  simp [-wq_mSeq]
  refine (bytes_ok (n := (chsOf T).length) (by omega)).go ?_
  rintro _ s1 ⟨rfl, k1⟩
  simp [-wq_mSeq]
  rw [wq_mSeq]
  simp [-wq_mSeq]
  rw [wq_srcV_h (k1.get hc0)]
  simp only [kb_app]
  refine wq_forIh (L1I T st) ⟨⟨o2, o3, o4, none, none, none, by simp⟩, k1⟩ (fun i ro s hI => hI.2.get hc0) ?_ ?_
  · rintro i x ro s hx ⟨⟨o2, o3, o4, o7, o8, o9, rfl⟩, k2⟩
    rw [List.getElem?_map] at hx
    cases hfi : (chsOf T)[i]? with
    | none => rw [hfi] at hx; simp at hx
    | some ch =>
      rw [hfi] at hx
      simp at hx
      subst hx
      obtain ⟨q1, q2⟩ := hin ch (List.mem_of_getElem? hfi)
      have fl := flat_le (g := pkCh) (B := 603) ((chsOf T).take i) fun y hy => pkCh_len (hin y (List.mem_of_mem_take hy)).1 (hin y (List.mem_of_mem_take hy)).2
      have tl : ((chsOf T).take i).length ≤ 1000 := by simp; omega
      refine ⟨_, rfl, ?_⟩
      refine (lpOut_ok q2 (by omega) (by simp only [List.length_append]; omega)).go ?_
      rintro _ s4 ⟨⟨p7, p8, p9, rfl⟩, k4⟩
      refine ⟨⟨o2, o3, some (chD ch), p7, p8, p9, ?_⟩, k2.trans k4⟩
      rw [List.take_add_one, hfi]
      simp
  rintro ro s2 ⟨⟨o2, o3, o4, o7, o8, o9, rfl⟩, k2⟩
  rw [List.length_map, List.take_length]
  simp only [kb_app]
  rw [wq_mSeq]
  refine put1 (n := T.length) rfl (by omega) (by simp only [List.length_append]; omega) (by intros; simp [tbD]) fun s3 k3 => ?_
  simp only [kb_app, List.set_cons_succ, List.set_cons_zero]
  rw [wq_mSeq]
  simp [-wq_mSeq]
  rw [wq_mSeq]
  simp [-wq_mSeq]
  rw [show (Wq (srcV (tbD T)) = Wq (srcV (.lst (T.map rg2D)))) from rfl]
  simp [-wq_mSeq]
  refine wq_forI (L2I T st (dig (chsOf T).length ++ (chsOf T).flatMap pkCh ++ dig T.length)) ⟨⟨o2, o3, o4, o7, o8, o9, by simp [pkR, atE]⟩, k2.trans k3⟩ ?_ ?_
  · rintro i x ro s hx ⟨⟨o2, o3, o4, o7, o8, o9, rfl⟩, k5⟩
    rw [List.getElem?_map] at hx
    cases hfi : T[i]? with
    | none => rw [hfi] at hx; simp at hx
    | some y =>
      rw [hfi] at hx
      simp at hx
      subst hx
      have hm := List.mem_of_getElem? hfi
      obtain ⟨r1, r2⟩ := h.rise.at_ hfi
      have hi := h.in_ y hm
      have pl := pkR_len (chsOf T) (by omega) (T.take i) 0 fun z hz => by
        have hz' := List.mem_of_mem_take hz
        obtain ⟨j, hj⟩ := List.mem_iff_getElem?.mp hz'
        have := (h.rise.at_ hj).2
        exact ⟨(h.in_ z hz').1, by have := (h.in_ z hz').1; omega, chsOf_mem T z hz'⟩
      have tl : (T.take i).length ≤ 1000 := by simp; omega
      refine ⟨[some (tbD T), some (.han st.length), some (.int (y.1 : Nat)), some (.int (y.2.1 : Nat)), some (chD y.2.2), some (.lst (inL (dig (chsOf T).length ++ (chsOf T).flatMap pkCh ++ dig T.length ++ pkR (chsOf T) 0 (T.take i)))), some (.int (atE 0 (T.take i) : Nat)), o7, o8, o9], rfl, ?_⟩
      refine (lpRow_ok (k5.get hc0) (chsOf_mem T y hm) (by omega) r1 r2 hi.1 (by simp only [List.length_append]; omega)).go ?_
      rintro _ s6 ⟨rfl, k6⟩
      have et : T.take (i + 1) = T.take i ++ [y] := by rw [List.take_add_one, hfi]; rfl
      refine ⟨⟨_, _, _, _, _, _, by rw [et, atE_snoc, pkR_snoc]; simp only [List.append_assoc]; rfl⟩, k5.trans k6⟩
  rintro ro s5 ⟨⟨o2, o3, o4, o7, o8, o9, rfl⟩, k5⟩
  rw [List.length_map, List.take_length]
  simp
  exact ⟨by simp [pk], kk.trans k5⟩
end
end CL
namespace CL
open PySem L2
theorem pick_ok {t r : Nat} {st : Store} {xs : List Da} (h : Tw t r st) (h1 : xs ≠ []) (h2 : xs.length < 1000000) :
    Wp (f__law_pick [.han t, .lst xs]) st (fun d st' => d ∈ xs ∧ Dr t r st st') noEx := by
  have h3 : 1 ≤ xs.length := by
    cases xs with
    | nil => exact absurd rfl h1
    | cons x r => simp
  unfold f__law_pick m__law_pick
  simp [startS]
  refine (draw_ok h (by omega) (by omega)).mono fun d st' ⟨v, e, v0, v1, hd⟩ => ?_
  subst e
  obtain ⟨x, hx, hm⟩ := atI_mem v0 v1
  rw [wp_ix_l hx]
  exact ⟨hm, hd⟩
end CL
namespace CL
open PySem L2
theorem app_h {n : Nat} {x : Da} {xs : List Da} {st : Store} {ex : Str → List Da → Store → Prop} {post : Da → Store → Prop} (h : st[n]? = some (.lst xs)) (hl : xs.length < 1000000) (hp : post .non (st.set n (.lst (xs ++ [x])))) : Wp (appD (.han n) x) st post ex := (wp_appD h hl).mpr hp
theorem law_chain_ok {t r : Nat} {st : Store} (h : Tw t r st) : Wp (f__law_chain [.han t]) st (fun d st' => IsCh d ∧ Thin d ∧ Dr t r st st') noEx := by
  unfold f__law_chain m__law_chain
  simp [startS, wp_for]
  have hlt := h.lt
  refine (draw_ok h.push (by decide) (by decide)).mono fun d st1 ⟨v, e, v0, v1, hd⟩ => ?_
  subst e
  simp
  have hn : (1 + v).toNat = v.toNat + 1 := by omega
  refine ⟨⟨by omega, by omega⟩, ?_⟩
  refine wp_forI (fun i ro s => (∃ o, ro = [some (.han t), some (.han st.length), o]) ∧ (∃ xs : List Da, s[st.length]? = some (.lst xs) ∧ xs.length = i ∧ ∀ x ∈ xs, IsLink x) ∧ Dr t r st s) ?_ ?_ ?_
  · refine ⟨⟨_, rfl⟩, ⟨[], hd.at (new_at _ _) (by omega) (by omega), rfl, fun x hx => nomatch hx⟩, (Dr.refl h).push.trans hd⟩
  · rintro i x ro s hx ⟨⟨o, rfl⟩, ⟨xs, hxs, hlen, hal⟩, hdr⟩
    obtain ⟨hi, rfl⟩ := rng_get hx
    refine ⟨_, rfl, ?_⟩
    simp
    rw [wp_isLs_h hxs]
    refine (pick_ok hdr.tw (by simp) (by simp)).mono fun d1 s1 ⟨m1, k1⟩ => ?_
    refine (pick_ok k1.tw (by simp) (by simp)).mono fun d2 s2 ⟨m2, k2⟩ => ?_
    refine (draw_ok k2.tw (by decide) (by decide)).mono fun d3 s3 ⟨v3, e3, a3, b3, k3⟩ => ?_
    subst e3
    simp
    have hxs3 : s3[st.length]? = some (.lst xs) := k3.at (k2.at (k1.at hxs (by omega) (by omega)) (by omega) (by omega)) (by omega) (by omega)
    refine app_h hxs3 (by omega) ?_
    refine ⟨⟨_, List.getElem?_set_self (some_lt hxs3), by simp [hlen], fun x hx => ?_⟩, ((hdr.trans k1).trans (k2.trans k3)).set (Nat.le_refl _) h⟩
    rcases List.mem_append.mp hx with hx | hx
    · exact hal x hx
    · rw [List.mem_singleton] at hx
      subst hx
      simp at m1 m2
      refine ⟨d1, ?_⟩
      rcases m2 with rfl | rfl | rfl | rfl <;> refine ⟨_, _, rfl, ?_, by decide, by decide⟩ <;> (rcases m1 with rfl | rfl | rfl | rfl <;> simp)
  · rintro ro s ⟨⟨o, rfl⟩, ⟨xs, hxs, hlen, hal⟩, hdr⟩
    simp
    rw [wp_tuple_h hxs]
    simp [rngL] at hlen
    refine ⟨⟨xs, rfl, ?_, by omega, hal⟩, ⟨xs, rfl, by omega⟩, hdr⟩
    intro z; subst z; simp at hlen; omega
theorem Rows.snoc {b e : Int} {c : Da} : ∀ {a : Int} {rs : List Row}, Rows a rs → (∀ r ∈ rs, r.2.1 ≤ b) → a ≤ b → b < e → e ≤ 100000 → IsCh c → Rows a (rs ++ [(b, e, c)])
  | a, [], _, _, h1, h2, h3, h4 => ⟨h1, h2, h3, h4, trivial⟩
  | a, (b', e', c') :: rs, h, hal, h1, h2, h3, h4 => by
    obtain ⟨k1, k2, k3, k4, k5⟩ := h
    exact ⟨k1, k2, k3, k4, Rows.snoc k5 (fun r hr => hal r (List.mem_cons_of_mem _ hr)) (hal _ (List.mem_cons_self ..)) h2 h3 h4⟩
end CL
namespace CL
open PySem L2
theorem law_table_ok {t r : Nat} {st : Store} (h : Tw t r st) : Wp (f__law_table [.han t]) st (fun d st' => ∃ rs : List Row, d = .lst (rs.map rowD) ∧ Rows 0 rs ∧ rs.length ≤ 8 ∧ (∀ r ∈ rs, Thin r.2.2) ∧ Dr t r st st') noEx := by
  unfold f__law_table m__law_table
  have hlt := h.lt
  simp [startS, wp_for, wp_lComp]
  refine (draw_ok h (by decide) (by decide)).mono fun d s1 ⟨v, e, v0, v1, hd⟩ => ?_
  subst e
  simp
  have hb : big (1 + v) := ⟨by omega, by omega⟩
  refine ⟨hb, ?_⟩
  refine wp_compI (fun i acc s => acc.length = i ∧ (∀ x ∈ acc, IsCh x ∧ Thin x) ∧ Dr t r st s) ⟨rfl, (fun x hx => nomatch hx), hd⟩ (fun i acc s q => by omega) (by simp [rngL]; omega) ?_ ?_
  · rintro i x acc s hx ⟨hl, hal, hdr⟩
    obtain ⟨hi, rfl⟩ := rng_get hx
    refine ⟨_, rfl, ?_⟩
    simp
    refine (law_chain_ok hdr.tw).mono fun d2 s2 ⟨hc, hth, k2⟩ => ?_
    refine ⟨by omega, fun x hx => ?_, hdr.trans k2⟩
    rcases hx with hx | rfl
    · exact hal x hx
    · exact ⟨hc, hth⟩
  rintro acc s2 ⟨hacc, hal, hd2⟩
  have hacc2 : 1 ≤ acc.length ∧ acc.length ≤ 3 := by simp [rngL] at hacc; omega
  have hne : acc ≠ [] := by intro z; subst z; simp at hacc2
  have hge : st.length ≤ s2.length := hd2.kp.1
  refine (draw_ok hd2.tw.push (by decide) (by decide)).mono fun d s3 ⟨v', e, v0', v1', hd3⟩ => ?_
  subst e
  simp
  refine ⟨⟨by omega, by omega⟩, ?_⟩
  refine wp_forI (fun i ro s => ∃ (a : Int) (o1 o2 : Option Da) (rs : List Row), ro = [some (.han t), some (.lst acc), some (.han s2.length), some (.int a), o1, o2] ∧ s[s2.length]? = some (.lst (rs.map rowD)) ∧ rs.length = i ∧ Rows 0 rs ∧ (∀ r ∈ rs, r.2.1 ≤ a ∧ Thin r.2.2) ∧ 0 ≤ a ∧ a ≤ i * 6000 ∧ Dr t r st s) ?_ ?_ ?_
  · refine ⟨0, _, _, [], rfl, hd3.at (new_at _ _) (by omega) (by omega), rfl, trivial, (fun r hr => nomatch hr), by decide, by decide, hd2.push.trans hd3⟩
  · rintro i x ro s hx ⟨a, o1, o2, rs, rfl, hrs, hlen, hR, hle, ha0, ha1, hdr⟩
    obtain ⟨hi, rfl⟩ := rng_get hx
    refine ⟨_, rfl, ?_⟩
    simp
    refine (draw_ok hdr.tw (by decide) (by decide)).mono fun d4 s4 ⟨v4, e4, a4, b4, k4⟩ => ?_
    subst e4
    try simp
    refine (pick_ok k4.tw (by simp) (by simp)).mono fun d5 s5 ⟨m5, k5⟩ => ?_
    have ⟨v5, e5, a5, b5⟩ : ∃ v5 : Int, d5 = .int v5 ∧ 0 ≤ v5 ∧ v5 < 3000 := by
      simp at m5
      rcases m5 with rfl | rfl | rfl | rfl | rfl | rfl <;> exact ⟨_, rfl, by omega, by omega⟩
    subst e5
    try simp
    refine (draw_ok k5.tw (by decide) (by decide)).mono fun d6 s6 ⟨v6, e6, a6, b6, k6⟩ => ?_
    subst e6
    try simp
    refine (pick_ok k6.tw (by simp) (by simp)).mono fun d7 s7 ⟨m7, k7⟩ => ?_
    have ⟨v7, e7, a7, b7⟩ : ∃ v7 : Int, d7 = .int v7 ∧ 0 ≤ v7 ∧ v7 < 3000 := by
      simp at m7
      rcases m7 with rfl | rfl | rfl | rfl | rfl <;> exact ⟨_, rfl, by omega, by omega⟩
    subst e7
    try simp
    have kk := (k4.trans k5).trans (k6.trans k7)
    have h7 := kk.at hrs (by omega) (by omega)
    rw [wp_isLs_h h7]
    refine (pick_ok k7.tw hne (by omega)).mono fun d8 s8 ⟨m8, k8⟩ => ?_
    have h8 := k8.at h7 (by omega) (by omega)
    refine app_h h8 (by simp; omega) ?_
    refine ⟨rs ++ [(a + v5, a + v5 + 1 + v7, d8)], ?_, by simp [hlen], ?_, ?_, by omega, by omega, (hdr.trans (kk.trans k8)).set hge h⟩
    · rw [List.getElem?_set_self (some_lt h8), List.map_append]
      rfl
    · exact Rows.snoc hR (fun r hr => by have := (hle r hr).1; omega) (by omega) (by omega) (by omega) (hal _ m8).1
    · intro b' e' c' hm
      rcases List.mem_append.mp hm with hm | hm
      · have := hle _ hm
        simp at this
        exact ⟨by omega, this.2⟩
      · rw [List.mem_singleton] at hm
        cases hm
        exact ⟨by omega, (hal _ m8).2⟩
  · rintro ro s ⟨a, o1, o2, rs, rfl, hrs, hlen, hR, hle, ha0, ha1, hdr⟩
    simp
    rw [wp_fz hrs]
    have hlen2 : rs.length = v'.toNat := by rw [hlen]; simp [rngL]
    simp at hle
    exact ⟨rs, rfl, hR, by omega, fun b1 b2 b3 hr => (hle b1 b2 b3 hr).2, hdr.set hge h⟩
end CL
namespace CL
open PySem L2
theorem rg2_pl (x : Rg2) : pl 57 (rg2D x) = true := by
  have h2 : pl 56 (chD x.2.2) = true := by
    have h2 : plL 55 (x.2.2.map ctD) = true := by
      rw [plL_all, List.all_eq_true]
      intro x hx
      obtain ⟨⟨a, b, c⟩, _, rfl⟩ := List.mem_map.mp hx
      cases a <;> simp [ctD, onD, pl, plL]
    simpa [chD, pl] using h2
  simp [rg2D, pl, plL]
  exact h2
theorem tb_plL (T : List Rg2) : plL 57 (T.map rg2D) = true := by
  rw [plL_all, List.all_eq_true]
  intro x hx
  obtain ⟨a, _, rfl⟩ := List.mem_map.mp hx
  exact rg2_pl a
theorem tb_pl (T : List Rg2) : pl 60 (tbD T) = true := pl_le 58 60 _ (by decide) (by simpa [tbD, pl] using tb_plL T)
theorem inL_plL (ns : List Nat) : plL 50 (inL ns) = true := by
  rw [plL_all, List.all_eq_true]
  intro x hx
  obtain ⟨a, _, rfl⟩ := List.mem_map.mp hx
  rfl
theorem inL_pl (ns : List Nat) : pl 60 (.lst (inL ns)) = true := pl_le 51 60 _ (by decide) (by simpa [pl] using inL_plL ns)
theorem pk_le (T : List Rg2) : ∀ b ∈ pk T, b ≤ 255 := by
  have hd := dig_le
  have hr : ∀ (cs : List (List Ct)) (T : List Rg2) (a : Nat), ∀ b ∈ pkR cs a T, b ≤ 255 := by
    intro cs T
    induction T with
    | nil => intro a b hb; simp [pkR] at hb
    | cons x r ih =>
      obtain ⟨x1, x2, x3⟩ := x
      intro a b hb
      simp only [pkR, List.mem_append] at hb
      rcases hb with ((hb | hb) | hb) | hb
      · exact hd _ b hb
      · exact hd _ b hb
      · exact hd _ b hb
      · exact ih _ b hb
  intro b hb
  simp only [pk, List.mem_append] at hb
  rcases hb with ((hb | hb) | hb) | hb
  · exact hd _ b hb
  · obtain ⟨ch, _, hb⟩ := List.mem_flatMap.mp hb
    simp only [pkCh, List.mem_append] at hb
    rcases hb with hb | hb
    · exact hd _ b hb
    · obtain ⟨c, _, hb⟩ := List.mem_flatMap.mp hb
      simp only [pkC, List.mem_append] at hb
      rcases hb with hb | hb <;> exact hd _ b hb
  · exact hd _ b hb
  · exact hr _ _ _ b hb
/-- rows that are drawn -/
theorem links_ct : ∀ xs : List Da, (∀ x ∈ xs, IsLink x) → ∃ ch : List Ct, xs = ch.map ctD ∧ ∀ c ∈ ch, (∀ k, c.1 = some k → k < 5) ∧ c.2.1 ≤ 100000
  | [], _ => ⟨[], rfl, fun c h => nomatch h⟩
  | x :: xs, h => by
    obtain ⟨ch, rfl, e2⟩ := links_ct xs fun y hy => h y (List.mem_cons_of_mem _ hy)
    obtain ⟨a, b, c, rfl, ha, h1, h2⟩ := h x (by simp)
    have eb : ((b.toNat : Nat) : Int) = b := by omega
    rcases ha with rfl | ⟨k, rfl, hk⟩
    · refine ⟨(none, b.toNat, c) :: ch, by simp [ctD, onD, eb], fun y hy => ?_⟩
      rcases List.mem_cons.mp hy with rfl | hy
      · exact ⟨fun k z => (nomatch z), by dsimp only; omega⟩
      · exact e2 y hy
    · have ek : ((k.toNat : Nat) : Int) = k := by omega
      refine ⟨(some k.toNat, b.toNat, c) :: ch, by simp [ctD, onD, eb, ek], fun y hy => ?_⟩
      rcases List.mem_cons.mp hy with rfl | hy
      · exact ⟨fun j z => by cases z; omega, by dsimp only; omega⟩
      · exact e2 y hy
theorem rows_pk : ∀ {rs : List Row} {a : Nat}, Rows a rs → (∀ r ∈ rs, Thin r.2.2) → ∃ T : List Rg2, rs.map rowD = T.map rg2D ∧ T.length = rs.length ∧ Rise a T ∧ ∀ x ∈ T, x.2.1 ≤ 100000 ∧ x.2.2.length ≤ 3 ∧ ∀ c ∈ x.2.2, (∀ k, c.1 = some k → k < 5) ∧ c.2.1 ≤ 100000
  | [], a, _, _ => ⟨[], rfl, rfl, trivial, fun x hx => nomatch hx⟩
  | (b, e, c) :: r, a, ⟨h1, h2, h3, h4, h5⟩, ht => by
    have eb : ((b.toNat : Nat) : Int) = b := by omega
    have ee : ((e.toNat : Nat) : Int) = e := by omega
    rw [← ee] at h5
    obtain ⟨T, e1, e2, e3, e4⟩ := rows_pk h5 fun r hr => ht r (List.mem_cons_of_mem _ hr)
    obtain ⟨xs, rfl, hne, _, hx⟩ := h4
    obtain ⟨ch, rfl, hch⟩ := links_ct xs hx
    obtain ⟨ys, hy, hyl⟩ := ht (b, e, Da.tup (ch.map ctD)) (by simp)
    cases hy
    refine ⟨(b.toNat, e.toNat, ch) :: T, ?_, by simp [e2], ⟨by omega, by omega, by simpa using hne, e3⟩, fun x hx => ?_⟩
    · rw [List.map_cons, List.map_cons, e1]
      unfold rowD rg2D
      dsimp only
      rw [eb, ee]
      rfl
    · rcases List.mem_cons.mp hx with rfl | hx
      · exact ⟨by dsimp only; omega, by simpa using hyl, hch⟩
      · exact e4 x hx
theorem rows_Pk {rs : List Row} (h : Rows 0 rs) (hl : rs.length ≤ 8) (ht : ∀ r ∈ rs, Thin r.2.2) : ∃ T : List Rg2, Da.lst (rs.map rowD) = tbD T ∧ Pk T ∧ T.length ≤ 8 ∧ ∀ x ∈ T, x.2.2.length ≤ 3 := by
  obtain ⟨T, e1, e2, e3, e4⟩ := rows_pk (a := 0) h ht
  exact ⟨T, by rw [e1]; rfl, ⟨e3, by omega, fun x hx => ⟨(e4 x hx).1, by have := (e4 x hx).2.1; omega, (e4 x hx).2.2⟩⟩, by omega, fun x hx => (e4 x hx).2.1⟩
section
end
end CL
namespace CL
open PySem L2
def By (l : List Nat) : Prop := ∀ b ∈ l, b ≤ 255
theorem By.drop (k : Nat) (l : List Nat) (h : By l) : By (l.drop k) := fun b hb => h b (List.mem_of_mem_drop hb)
theorem rdC_drop (l : List Nat) (x : Ct) (r : List Nat) (h : rdC l = some (x, r)) : ∃ k, r = l.drop k := by
  unfold rdC at h
  obtain ⟨⟨p, l1⟩, h1, h⟩ := Option.bind_eq_some_iff.mp h
  obtain ⟨⟨q, l2⟩, h2, h⟩ := Option.map_eq_some_iff.mp h
  cases h
  obtain ⟨k1, e1⟩ := (rdN_len _ _ _ _ h1).2
  obtain ⟨k2, e2⟩ := (rdN_len _ _ _ _ h2).2
  exact ⟨k1 + k2, by dsimp only at e2 ⊢; rw [e2, e1, List.drop_drop]⟩
theorem sgn_of (n g : Nat) : sgn ((if n / 2 = 0 then none else some (n / 2 - 1)), g, decide (n % 2 = 1)) = n := by
  by_cases h : n / 2 = 0
  · by_cases z : n % 2 = 1 <;> simp [sgn, h, z] <;> omega
  · by_cases z : n % 2 = 1
    · simp only [sgn, h, if_false, z, decide_true, if_true]
      show 2 * (n / 2 - 1 + 1) + 1 = n
      omega
    · simp only [sgn, h, if_false, decide_eq_true_eq, z]
      show 2 * (n / 2 - 1 + 1) + 0 = n
      omega
theorem rdC_of (l : List Nat) (x : Ct) (r : List Nat) (b : By l) (h : rdC l = some (x, r)) : l = pkC x ++ r := by
  unfold rdC at h
  obtain ⟨⟨p, l1⟩, h1, h⟩ := Option.bind_eq_some_iff.mp h
  obtain ⟨⟨q, l2⟩, h2, h⟩ := Option.map_eq_some_iff.mp h
  cases h
  have a1 := (rdN_of _ _ _ _ b h1).1
  obtain ⟨k1, e1⟩ := (rdN_len _ _ _ _ h1).2
  have a2 := (rdN_of _ _ _ _ (by dsimp only; rw [e1]; exact b.drop k1) h2).1
  unfold pkC
  dsimp only at a1 a2 ⊢
  rw [sgn_of, List.append_assoc, ← a2, ← a1]
theorem rdCh_drop (l : List Nat) (x : List Ct) (r : List Nat) (b : By l) (h : rdCh l = some (x, r)) : l = pkCh x ++ r ∧ ∃ k, r = l.drop k := by
  unfold rdCh at h
  obtain ⟨⟨n, l1⟩, h1, h⟩ := Option.bind_eq_some_iff.mp h
  have a1 := (rdN_of _ _ _ _ b h1).1
  obtain ⟨k1, e1⟩ := (rdN_len _ _ _ _ h1).2
  obtain ⟨a2, a3, k2, e2⟩ := rdM_of (g := pkC) (B := By) (fun k l => By.drop k l) rdC_drop rdC_of n l1 x r (by rw [e1]; exact b.drop k1) h
  refine ⟨?_, k1 + k2, by rw [e2, e1, List.drop_drop]⟩
  unfold pkCh
  rw [a3, List.append_assoc, ← a2, ← a1]
theorem rdM_dropB {α : Type} {f : List Nat → Option (α × List Nat)} {g : α → List Nat} (h : ∀ l x r, By l → f l = some (x, r) → l = g x ++ r ∧ ∃ k, r = l.drop k) : ∀ (n : Nat) (l : List Nat) (xs : List α) (r : List Nat), By l → rdM f n l = some (xs, r) → l = xs.flatMap g ++ r ∧ xs.length = n ∧ ∃ k, r = l.drop k
  | 0, l, xs, r, _, e => by cases e; exact ⟨rfl, rfl, 0, rfl⟩
  | n + 1, l, xs, r, b, e => by
    rw [rdM] at e
    obtain ⟨⟨x, l1⟩, h1, e⟩ := Option.bind_eq_some_iff.mp e
    obtain ⟨⟨ys, l2⟩, h2, e⟩ := Option.map_eq_some_iff.mp e
    cases e
    obtain ⟨a, k, hk⟩ := h l x l1 b h1
    obtain ⟨i1, i2, k', hk'⟩ := rdM_dropB h n l1 ys l2 (by rw [hk]; exact b.drop k) h2
    refine ⟨?_, by simp [i2], k + k', ?_⟩
    · rw [a, i1]; simp
    · dsimp only at hk' ⊢
      rw [hk', hk, List.drop_drop]
theorem idxOf_nodup {cs : List (List Ct)} (h : cs.Nodup) {i : Nat} {ch : List Ct} (hi : cs[i]? = some ch) : cs.idxOf ch = i := by
  obtain ⟨hl, rfl⟩ := List.getElem?_eq_some_iff.mp hi
  exact h.idxOf_getElem i hl
theorem rdRs_of {cs : List (List Ct)} (hn : cs.Nodup) : ∀ (n a : Nat) (l : List Nat) (T : List Rg2) (r : List Nat), By l → rdRs cs n a l = some (T, r) → l = pkR cs a T ++ r ∧ T.length = n
  | 0, a, l, T, r, _, e => by cases e; exact ⟨rfl, rfl⟩
  | n + 1, a, l, T, r, b, e => by
    rw [rdRs] at e
    obtain ⟨⟨x, l1⟩, h1, e⟩ := Option.bind_eq_some_iff.mp e
    obtain ⟨⟨ys, l2⟩, h2, e⟩ := Option.map_eq_some_iff.mp e
    cases e
    unfold rdR at h1
    obtain ⟨⟨p, m1⟩, g1, h1⟩ := Option.bind_eq_some_iff.mp h1
    obtain ⟨⟨q, m2⟩, g2, h1⟩ := Option.bind_eq_some_iff.mp h1
    obtain ⟨⟨t, m3⟩, g3, h1⟩ := Option.bind_eq_some_iff.mp h1
    obtain ⟨ch, g4, h1⟩ := Option.map_eq_some_iff.mp h1
    cases h1
    dsimp only at g2 g3 g4 h2 ⊢
    obtain ⟨k1, e1⟩ := (rdN_len _ _ _ _ g1).2
    obtain ⟨k2, e2⟩ := (rdN_len _ _ _ _ g2).2
    obtain ⟨k3, e3⟩ := (rdN_len _ _ _ _ g3).2
    have b1 : By m1 := by rw [e1]; exact b.drop k1
    have b2 : By m2 := by rw [e2]; exact b1.drop k2
    have b3 : By m3 := by rw [e3]; exact b2.drop k3
    have a1 := (rdN_of _ _ _ _ b g1).1
    have a2 := (rdN_of _ _ _ _ b1 g2).1
    have a3 := (rdN_of _ _ _ _ b2 g3).1
    obtain ⟨i1, i2⟩ := rdRs_of hn n _ _ _ _ b3 h2
    refine ⟨?_, by simp [i2]⟩
    rw [pkR, idxOf_nodup hn g4]
    have c1 : a + p - a = p := by omega
    have c2 : a + p + q - (a + p) = q := by omega
    rw [c1, c2]
    simp only [List.append_assoc]
    rw [← i1, ← a3, ← a2, ← a1]
theorem chsOf_nodup (T : List Rg2) : (chsOf T).Nodup := by
  refine snoc_ind (Q := fun T => (chsOf T).Nodup) (by simp [chsOf]) (fun T y ih => ?_) T
  rw [chsOf_snoc]
  split
  · exact ih
  · rename_i h
    rw [List.nodup_append]
    refine ⟨ih, by simp, fun a ha b hb => ?_⟩
    have : b = y.2.2 := by simpa using hb
    subst this
    exact fun z => h (z ▸ ha)
theorem unp_of {l : List Nat} {T : List Rg2} (b : By l) (h : unp l = some T) : l = pk T ∧ T.all okR = true ∧ ∃ cs n a l1 l2, rdRs cs n a l1 = some (T, l2) ∧ a = 0 := by
  unfold unp at h
  obtain ⟨⟨cs, l1⟩, h1, h⟩ := Option.bind_eq_some_iff.mp h
  obtain ⟨⟨n, l2⟩, h2, h⟩ := Option.bind_eq_some_iff.mp h
  obtain ⟨⟨T', l3⟩, h3, h⟩ := Option.bind_eq_some_iff.mp h
  dsimp only at h h2 h3
  split at h
  · rename_i hh
    cases h
    obtain ⟨rfl, hok, rfl⟩ := hh
    unfold rdChs at h1
    obtain ⟨⟨m, l0⟩, h0, h1⟩ := Option.bind_eq_some_iff.mp h1
    dsimp only at h1
    have a0 := (rdN_of _ _ _ _ b h0).1
    obtain ⟨k0, e0⟩ := (rdN_len _ _ _ _ h0).2
    have b0 : By l0 := by rw [e0]; exact b.drop k0
    obtain ⟨a1, a2, k1, e1⟩ := rdM_dropB (g := pkCh) rdCh_drop m l0 _ l1 b0 h1
    have b1 : By l1 := by rw [e1]; exact b0.drop k1
    have a3 := (rdN_of _ _ _ _ b1 h2).1
    obtain ⟨k2, e2⟩ := (rdN_len _ _ _ _ h2).2
    have b2 : By l2 := by rw [e2]; exact b1.drop k2
    obtain ⟨a4, a5⟩ := rdRs_of (chsOf_nodup _) n 0 l2 _ _ b2 h3
    refine ⟨?_, hok, _, _, _, _, _, h3, rfl⟩
    unfold pk
    rw [a2, a5, List.append_assoc, List.append_assoc]
    rw [List.append_nil] at a4
    rw [← a4, ← a3, ← a1, ← a0]
  · cases h
theorem okR_of {x : Rg2} (h : okR x = true) : x.1 < x.2.1 ∧ x.2.1 ≤ 100000 ∧ x.2.2 ≠ [] ∧ ∀ c ∈ x.2.2, (∀ k, c.1 = some k → k < 5) ∧ c.2.1 ≤ 100000 := by
  unfold okR at h
  simp only [Bool.and_eq_true, decide_eq_true_eq] at h
  obtain ⟨⟨⟨h1, h2⟩, h3⟩, h4⟩ := h
  refine ⟨h1, h2, h3, fun c hc => ?_⟩
  have := List.all_eq_true.mp h4 c hc
  obtain ⟨c1, c2, c3⟩ := c
  unfold okC at this
  simp only [Bool.and_eq_true, decide_eq_true_eq] at this
  refine ⟨fun k hk => ?_, this.1⟩
  dsimp only at hk
  subst hk
  simpa using this.2
theorem Asc.rise : ∀ {T : List Rg2} {a : Nat}, Asc a T → T.all okR = true → Rise a T
  | [], _, _, _ => trivial
  | (b, e, ch) :: T, a, ⟨h1, h2, h3⟩, h => by
    rw [List.all_cons, Bool.and_eq_true] at h
    obtain ⟨k1, k2, k3, _⟩ := okR_of h.1
    exact ⟨h1, k1, k3, Asc.rise h3 h.2⟩
theorem pkC_ge (c : Ct) : 2 ≤ (pkC c).length := by
  have := dig_ne (sgn c)
  have := dig_ne c.2.1
  unfold pkC
  rw [List.length_append]
  omega
theorem pkCs_ge : ∀ ch : List Ct, 2 * ch.length ≤ (ch.flatMap pkC).length
  | [] => by simp
  | c :: r => by
    have := pkC_ge c
    have := pkCs_ge r
    rw [List.flatMap_cons, List.length_append, List.length_cons]
    omega
theorem flat_ge {α : Type} {g : α → List Nat} : ∀ (xs : List α) (x : α), x ∈ xs → (g x).length ≤ (xs.flatMap g).length
  | y :: r, x, h => by
    rw [List.flatMap_cons, List.length_append]
    rcases List.mem_cons.mp h with rfl | h
    · omega
    · have := flat_ge (g := g) r x h
      omega
theorem pkR_ge (cs : List (List Ct)) : ∀ (T : List Rg2) (a : Nat), T.length ≤ (pkR cs a T).length
  | [], a => by simp
  | (b, e, ch) :: r, a => by
    have := dig_ne (b - a)
    have := pkR_ge cs r e
    rw [pkR]
    simp only [List.length_append, List.length_cons]
    omega
/-- what is read of few bytes is a table -/
theorem unp_Pk {l : List Nat} {T : List Rg2} (b : By l) (hl : l.length ≤ 200) (h : unp l = some T) : l = pk T ∧ Pk T := by
  obtain ⟨e, hok, cs, n, a, l1, l2, hr, rfl⟩ := unp_of b h
  have hT : T.length ≤ (pk T).length := by
    have := pkR_ge (chsOf T) T 0
    unfold pk
    simp only [List.length_append]
    omega
  have hch : ∀ x ∈ T, 2 * x.2.2.length ≤ (pk T).length := fun x hx => by
    have h1 := pkCs_ge x.2.2
    have h2 := flat_ge (g := pkCh) (chsOf T) x.2.2 (chsOf_mem T x hx)
    have h3 : (x.2.2.flatMap pkC).length ≤ (pkCh x.2.2).length := by unfold pkCh; rw [List.length_append]; omega
    unfold pk
    simp only [List.length_append]
    omega
  refine ⟨e, ⟨(rdRs_asc hr).rise hok, by rw [← e] at hT; omega, fun x hx => ?_⟩⟩
  obtain ⟨k1, k2, k3, k4⟩ := okR_of (List.all_eq_true.mp hok x hx)
  have := hch x hx
  rw [← e] at this
  exact ⟨k2, by omega, k4⟩
end CL
namespace CL
open PySem L2
/-- the word of a refusal -/
inductive Rf : Str → String → Prop
  | number : Rf "BadNumber" "number"
  | tree : Rf "BadTree" "tree"
  | order : Rf "BadOrder" "order"
  | table : Rf "BadTable" "table"
  | stuck : Rf "Stuck" "stuck"
  | over : Rf "Over" "over"
  | text : Rf "BadText" "text"
section
variable {st : Store} {ex : Str → List Da → Store → Prop} {post : Da → Store → Prop}
theorem wq_count_l {d : Da} {xs : List Da} (h1 : pl 60 d = true) (h2 : plL 59 xs = true) : Wq (countD (.lst xs) d) st post ex ↔ post (.int (((toPyL xs).countP fun z => PyData.eqv z (toPy d) : Nat) : Int)) st := by
  have a1 := pl_is (st := st) (n := 60) (by decide) h1
  have a2 : PyIs st (.lst xs) (.list (toPyL xs)) := by
    have := pl_is (st := st) (n := 60) (by decide) (d := .lst xs) (by simpa using h2)
    simpa [toPy] using this
  rw [wq_iff]
  unfold Wp countD
  rw [a1.py, a2.py]
  dsimp only
  rw [if_pos (by rw [a1.sh, a2.sh]; rfl)]
theorem wq_index_l {d : Da} {xs : List Da} {j : Nat} (h1 : pl 60 d = true) (h2 : plL 59 xs = true) (hj : (toPyL xs).findIdx? (fun z => PyData.eqv z (toPy d)) = some j) : Wq (indexD (.lst xs) d) st post ex ↔ post (.int j) st := by
  have a1 := pl_is (st := st) (n := 60) (by decide) h1
  have a2 : PyIs st (.lst xs) (.list (toPyL xs)) := by
    have := pl_is (st := st) (n := 60) (by decide) (d := .lst xs) (by simpa using h2)
    simpa [toPy] using this
  rw [wq_iff]
  unfold Wp indexD
  rw [a1.py, a2.py]
  dsimp only
  rw [if_pos (by rw [a1.sh, a2.sh]; rfl), hj]
theorem refusal_ok {n : Nat} {c : Str} {w : String} (h : st[n]? = some (.exn c)) (r : Rf c w) (hp : post (.str (Str.ofString w)) st) : Wq (f__law_refusal [.han n]) st post ex := by
  unfold f__law_refusal m__law_refusal
  have key : ∀ {tab : List (Str × Bool)} {v : Bool} {post : Da → Store → Prop} {ex : Str → List Da → Store → Prop}, tab.lookup c = some v → (Wq (isX tab (.han n)) st post ex ↔ post (.bl v) st) := fun {tab v post ex} ht => wq_isX h ht
  cases r with
  | number =>
    simp [startS]
    iterate 8 ((first | rw [key (v := true) (by decide)] | rw [key (v := false) (by decide)]); simp)
    rw [wq_count_l (by simp) (by simp)]
    simp [toPyL, toPy, PyData.eqv]
    iterate 2 ((first | rw [key (v := true) (by decide)] | rw [key (v := false) (by decide)]); simp)
    rw [wq_index_l (j := 0) (by simp) (by simp) (by simp [toPyL, toPy, PyData.eqv, List.findIdx?_cons])]
    have hix : ∀ {post : Da → Store → Prop} {ex : Str → List Da → Store → Prop}, Wq (ixD (.lst [.str "number", .str "tree", .str "order", .str "table", .str "place", .str "stuck", .str "over", .str "text"]) (.int ((0 : Nat) : Int))) st post ex ↔ post (.str "number") st := wq_ix_l (atI_nat (j := 0) rfl)
    simp at hix
    simp [hix]
    exact hp
  | tree =>
    simp [startS]
    iterate 8 ((first | rw [key (v := true) (by decide)] | rw [key (v := false) (by decide)]); simp)
    rw [wq_count_l (by simp) (by simp)]
    simp [toPyL, toPy, PyData.eqv]
    iterate 2 ((first | rw [key (v := true) (by decide)] | rw [key (v := false) (by decide)]); simp)
    rw [wq_index_l (j := 1) (by simp) (by simp) (by simp [toPyL, toPy, PyData.eqv, List.findIdx?_cons])]
    have hix : ∀ {post : Da → Store → Prop} {ex : Str → List Da → Store → Prop}, Wq (ixD (.lst [.str "number", .str "tree", .str "order", .str "table", .str "place", .str "stuck", .str "over", .str "text"]) (.int ((1 : Nat) : Int))) st post ex ↔ post (.str "tree") st := wq_ix_l (atI_nat (j := 1) rfl)
    simp at hix
    simp [hix]
    exact hp
  | order =>
    simp [startS]
    iterate 8 ((first | rw [key (v := true) (by decide)] | rw [key (v := false) (by decide)]); simp)
    rw [wq_count_l (by simp) (by simp)]
    simp [toPyL, toPy, PyData.eqv]
    iterate 2 ((first | rw [key (v := true) (by decide)] | rw [key (v := false) (by decide)]); simp)
    rw [wq_index_l (j := 2) (by simp) (by simp) (by simp [toPyL, toPy, PyData.eqv, List.findIdx?_cons])]
    have hix : ∀ {post : Da → Store → Prop} {ex : Str → List Da → Store → Prop}, Wq (ixD (.lst [.str "number", .str "tree", .str "order", .str "table", .str "place", .str "stuck", .str "over", .str "text"]) (.int ((2 : Nat) : Int))) st post ex ↔ post (.str "order") st := wq_ix_l (atI_nat (j := 2) rfl)
    simp at hix
    simp [hix]
    exact hp
  | table =>
    simp [startS]
    iterate 8 ((first | rw [key (v := true) (by decide)] | rw [key (v := false) (by decide)]); simp)
    rw [wq_count_l (by simp) (by simp)]
    simp [toPyL, toPy, PyData.eqv]
    iterate 2 ((first | rw [key (v := true) (by decide)] | rw [key (v := false) (by decide)]); simp)
    rw [wq_index_l (j := 3) (by simp) (by simp) (by simp [toPyL, toPy, PyData.eqv, List.findIdx?_cons])]
    have hix : ∀ {post : Da → Store → Prop} {ex : Str → List Da → Store → Prop}, Wq (ixD (.lst [.str "number", .str "tree", .str "order", .str "table", .str "place", .str "stuck", .str "over", .str "text"]) (.int ((3 : Nat) : Int))) st post ex ↔ post (.str "table") st := wq_ix_l (atI_nat (j := 3) rfl)
    simp at hix
    simp [hix]
    exact hp
  | stuck =>
    simp [startS]
    iterate 8 ((first | rw [key (v := true) (by decide)] | rw [key (v := false) (by decide)]); simp)
    rw [wq_count_l (by simp) (by simp)]
    simp [toPyL, toPy, PyData.eqv]
    iterate 2 ((first | rw [key (v := true) (by decide)] | rw [key (v := false) (by decide)]); simp)
    rw [wq_index_l (j := 5) (by simp) (by simp) (by simp [toPyL, toPy, PyData.eqv, List.findIdx?_cons])]
    have hix : ∀ {post : Da → Store → Prop} {ex : Str → List Da → Store → Prop}, Wq (ixD (.lst [.str "number", .str "tree", .str "order", .str "table", .str "place", .str "stuck", .str "over", .str "text"]) (.int ((5 : Nat) : Int))) st post ex ↔ post (.str "stuck") st := wq_ix_l (atI_nat (j := 5) rfl)
    simp at hix
    simp [hix]
    exact hp
  | over =>
    simp [startS]
    iterate 8 ((first | rw [key (v := true) (by decide)] | rw [key (v := false) (by decide)]); simp)
    rw [wq_count_l (by simp) (by simp)]
    simp [toPyL, toPy, PyData.eqv]
    iterate 2 ((first | rw [key (v := true) (by decide)] | rw [key (v := false) (by decide)]); simp)
    rw [wq_index_l (j := 6) (by simp) (by simp) (by simp [toPyL, toPy, PyData.eqv, List.findIdx?_cons])]
    have hix : ∀ {post : Da → Store → Prop} {ex : Str → List Da → Store → Prop}, Wq (ixD (.lst [.str "number", .str "tree", .str "order", .str "table", .str "place", .str "stuck", .str "over", .str "text"]) (.int ((6 : Nat) : Int))) st post ex ↔ post (.str "over") st := wq_ix_l (atI_nat (j := 6) rfl)
    simp at hix
    simp [hix]
    exact hp
  | text =>
    simp [startS]
    iterate 8 ((first | rw [key (v := true) (by decide)] | rw [key (v := false) (by decide)]); simp)
    rw [wq_count_l (by simp) (by simp)]
    simp [toPyL, toPy, PyData.eqv]
    iterate 2 ((first | rw [key (v := true) (by decide)] | rw [key (v := false) (by decide)]); simp)
    rw [wq_index_l (j := 7) (by simp) (by simp) (by simp [toPyL, toPy, PyData.eqv, List.findIdx?_cons])]
    have hix : ∀ {post : Da → Store → Prop} {ex : Str → List Da → Store → Prop}, Wq (ixD (.lst [.str "number", .str "tree", .str "order", .str "table", .str "place", .str "stuck", .str "over", .str "text"]) (.int ((7 : Nat) : Int))) st post ex ↔ post (.str "text") st := wq_ix_l (atI_nat (j := 7) rfl)
    simp at hix
    simp [hix]
    exact hp
end
end CL
namespace CL
open PySem L2
theorem pkC_len4 {c : Ct} (hk : ∀ k, c.1 = some k → k < 5) (hg : c.2.1 ≤ 100000) : (pkC c).length ≤ 4 := by
  have h1 : sgn c < 128 := by
    obtain ⟨c1, c2, c3⟩ := c
    cases c1 with
    | none => cases c3 <;> simp [sgn]
    | some k =>
      have := hk k rfl
      cases c3 <;> simp [sgn] <;> omega
  have := dig_len (n := c.2.1) (by omega)
  unfold pkC
  rw [dig_lt h1, List.length_append]
  simp
  omega
theorem pkCs_len4 : ∀ ch : List Ct, (∀ c ∈ ch, (∀ k, c.1 = some k → k < 5) ∧ c.2.1 ≤ 100000) → (ch.flatMap pkC).length ≤ 4 * ch.length
  | [], _ => by simp
  | c :: r, h => by
    have h1 := pkC_len4 (h c (by simp)).1 (h c (by simp)).2
    have h2 := pkCs_len4 r fun x hx => h x (by simp [hx])
    rw [List.flatMap_cons, List.length_append, List.length_cons]
    omega
theorem good_len {T : List Rg2} (h : Pk T) (hl : T.length ≤ 8) (h3 : ∀ x ∈ T, x.2.2.length ≤ 3) : (pk T).length ≤ 190 := by
  have hc := chsOf_len T
  have hin : ∀ ch ∈ chsOf T, ch.length ≤ 3 ∧ ∀ c ∈ ch, (∀ k, c.1 = some k → k < 5) ∧ c.2.1 ≤ 100000 := fun ch hch => by
    obtain ⟨x, hx, rfl⟩ := chsOf_from T ch hch
    exact ⟨h3 x hx, (h.in_ x hx).2.2⟩
  have fl := flat_le (g := pkCh) (B := 13) (chsOf T) fun y hy => by
    have h1 := hin y hy
    have h2 := pkCs_len4 y h1.2
    unfold pkCh
    rw [dig_lt (by omega), List.length_append, List.length_singleton]
    omega
  have pl := pkR_len (chsOf T) (by omega) T 0 fun z hz => by
    obtain ⟨j, hj⟩ := List.mem_iff_getElem?.mp hz
    have := (h.rise.at_ hj).2
    exact ⟨(h.in_ z hz).1, by have := (h.in_ z hz).1; omega, chsOf_mem T z hz⟩
  unfold pk
  rw [dig_lt (n := (chsOf T).length) (by omega), dig_lt (n := T.length) (by omega)]
  simp only [List.length_append, List.length_singleton]
  omega
section
variable {st : Store} {d : Da} {ns : List Nat}
theorem read_of {p : Da → Prop} {n : Prop} (h : Wq (f_unpacked [d]) st (fun x s => p x ∧ Kx st s) (fun c as s => c = "BadTable" ∧ as = [] ∧ n ∧ Kx st s)) : Wq (f__law_read [d]) st (fun x s => (p x ∨ (x = .str "table" ∧ n)) ∧ Kx st s) noEx := by
  unfold f__law_read m__law_read
  simp [startS, -wq_mSeq]
  rw [wq_mSeq]
  simp [-wq_mSeq]
  rw [wq_mSeq]
  simp [-wq_mSeq]
  rw [wq_mSeq, wq_mTry]
  simp
  refine h.con (fun x s ⟨h1, h2⟩ => ?_) (fun c as s ⟨h1, h2, h3, h4⟩ => ?_)
  · simp
    exact ⟨.inl h1, h2⟩
  · subst h1 h2
    refine ⟨by decide, rfl, ?_⟩
    rw [wq_is_han]
    simp
    refine refusal_ok (c := "BadTable") (w := "table") (by simp) Rf.table ?_
    simp
    exact ⟨.inr h3, h4.push⟩
theorem read_ok (hb : By ns) (hl : ns.length < 1000000) : Wq (f__law_read [.lst (inL ns)]) st (fun x s => ((∃ T, unp ns = some T ∧ x = tbD T) ∨ (x = .str "table" ∧ unp ns = none)) ∧ Kx st s) noEx :=
  read_of (p := fun x => ∃ T, unp ns = some T ∧ x = tbD T) (unpacked_go (.inl rfl) hb hl (fun T s h k => ⟨⟨T, h, rfl⟩, k⟩) (fun s h k => ⟨rfl, rfl, h, k⟩))
def BadR (d : Da) : Prop := ∀ st : Store, Wq (f__law_read [d]) st (fun x s => x = .str "table" ∧ Kx st s) noEx
theorem badR_init (h : ∀ (r : Nat) (s : Store), f_Reader___init__ [.han r, d] s = .exc "BadTable" [] s) : BadR d := by
  intro st
  refine (read_of (st := st) (d := d) (p := fun _ => False) (n := True) ?_).mono fun x s ⟨h1, h2⟩ => ?_
  · unfold f_unpacked
    rw [unpacked_eq]
    simp [startS, -wq_mSeq]
    rw [wq_mSeq]
    simp [-wq_mSeq]
    refine wq_iff.mpr ?_
    unfold Wp
    rw [h]
    exact ⟨rfl, rfl, Kx.refl.push⟩
  · rcases h1 with h1 | h1
    · exact h1.elim
    · exact ⟨h1.1, h2⟩
theorem badR_ns (hb : By ns) (hl : ns.length < 1000000) (h : unp ns = none) : BadR (.lst (inL ns)) := by
  intro st
  refine (read_ok hb hl).mono fun x s ⟨h1, h2⟩ => ?_
  rcases h1 with ⟨T, h1, _⟩ | h1
  · rw [h] at h1; cases h1
  · exact ⟨h1.1, h2⟩
theorem bads : ∀ x ∈ [Da.non, .int 5, .tup [.int 0, .int 0], .lst [.int 0, .int 256], .lst [.int 0, .bl true], .lst [.int 0, .int (-1)], .lst [.int 0, .non], .str "00", .lst [], .lst [.int 0], .lst [.int 128, .int 0, .int 0], .lst [.int 0, .int 0, .int 0]], BadR x := by
  intro x hx
  simp only [List.mem_cons, List.not_mem_nil, or_false] at hx
  rcases hx with rfl | rfl | rfl | rfl | rfl | rfl | rfl | rfl | rfl | rfl | rfl | rfl
  · exact badR_init fun r s => rfl
  · exact badR_init fun r s => rfl
  · exact badR_init fun r s => rfl
  · exact badR_init fun r s => rfl
  · exact badR_init fun r s => rfl
  · exact badR_init fun r s => rfl
  · exact badR_init fun r s => rfl
  · exact badR_init fun r s => rfl
  · exact badR_ns (ns := []) (by intro b hb; cases hb) (by simp) (by decide)
  · exact badR_ns (ns := [0]) (by intro b hb; simp at hb; omega) (by simp) (by decide)
  · exact badR_ns (ns := [128, 0, 0]) (by intro b hb; simp at hb; omega) (by simp) (by decide)
  · exact badR_ns (ns := [0, 0, 0]) (by intro b hb; simp at hb; omega) (by simp) (by decide)
/-- two lists of bytes side by side -/
theorem two_is {f : Nat} {a b : List Nat} (h : st[f]? = some (.lst (inL b))) : PyIs st (.lst [.lst (inL a), .han f]) (toPy (.lst [.lst (inL a), .lst (inL b)])) := by
  have h1 := pl_is (st := st) (n := 60) (by decide) (inL_pl a)
  have h2 := han_is (n := 50) (by decide) h (inL_plL b)
  have p1 : pl 58 (.lst (inL a)) = true := pl_le 51 58 _ (by decide) (by simpa [pl] using inL_plL a)
  have p2 : pl 58 (.lst (inL b)) = true := pl_le 51 58 _ (by decide) (by simpa [pl] using inL_plL b)
  have h3 : PyIs st (.lst [.lst (inL a), .lst (inL b)]) (toPy (.lst [.lst (inL a), .lst (inL b)])) := pl_is (n := 59) (by decide) (by
    show plL 58 _ = true
    rw [plL_all]
    simp [p1, p2])
  refine ⟨?_, h3.sh⟩
  have e1 : pyW (hfOf st) (.lst (inL a)) = some (toPy (.lst (inL a))) := h1.py
  have e2 : pyW (hfOf st) (.han f) = some (.list (toPyL (inL b))) := h2.py
  show pyW (hfOf st) (.lst [.lst (inL a), .han f]) = _
  rw [pyW, pyWL, pyWL, pyWL, e1, e2]
  rfl
theorem ne_two {post : Da → Store → Prop} {ex : Str → List Da → Store → Prop} {f : Nat} {a : List Nat} (h : st[f]? = some (.lst (inL a))) : Wq (eqB true (.lst [.lst (inL a), .han f]) (.lst [.lst (inL a), .lst (inL a)])) st post ex ↔ post (.bl false) st := by
  have p1 : pl 58 (.lst (inL a)) = true := pl_le 51 58 _ (by decide) (by simpa [pl] using inL_plL a)
  have p3 : pl 59 (.lst [.lst (inL a), .lst (inL a)]) = true := by
    show plL 58 _ = true
    rw [plL_all]
    simp [p1]
  rw [wq_eqI (two_is h) (pl_is (n := 59) (by decide) p3)]
  have := deq_refl p3
  unfold deq at this
  rw [this]
  rfl
end
end CL
namespace CL
open PySem L2
theorem cut_to {xs : List Da} {k : Nat} : cutD xs none (some (k : Int)) = xs.take k := by
  unfold cutD
  rw [HT.sIx_none, HT.sIx_nat]
  simp only [List.drop_zero, Nat.sub_zero]
  by_cases h : k ≤ xs.length
  · rw [Nat.min_eq_left h]
  · rw [Nat.min_eq_right (by omega), List.take_of_length_le (Nat.le_refl _), List.take_of_length_le (by omega)]
theorem cut_from {xs : List Da} {k : Nat} : cutD xs (some (k : Int)) none = xs.drop k := by
  unfold cutD
  rw [HT.sIx_none, HT.sIx_nat]
  by_cases h : k ≤ xs.length
  · rw [Nat.min_eq_left h, List.take_of_length_le (by simp)]
  · rw [Nat.min_eq_right (by omega), List.drop_of_length_le (by omega)]
    simp
    omega
theorem cut_from1 {xs : List Da} {k : Nat} : cutD xs (some ((k : Int) + 1)) none = xs.drop (k + 1) := cut_from (k := k + 1)
def L8 (d0 : Da) (g : List Nat) (i : Nat) (ro : Sl) (s : Store) : Prop := (∃ o3 o5 o6 o7 o8 o9 o10, ro = [some d0, some (.han 1), some (.lst (inL g)), o3, none, o5, o6, o7, o8, o9, o10]) ∧ Tw 1 0 s
theorem tb_str {T : List Rg2} : deq (tbD T) (.str "table") = false := rfl
theorem law_true (ns : List Int) (hl : ns.length ≤ 63) : ∃ st, f_law [.fro (ns.map Da.int)] [] = .ok (.bl true) st := by
  suffices h : Wq (f_law [.fro (ns.map Da.int)]) [] (fun d _ => d = .bl true) noEx by
    obtain ⟨d, st, h1, rfl⟩ := h.p.out
    exact ⟨st, h1⟩
  unfold f_law m_law
  simp [startS, -wq_mSeq]
  rw [wq_mSeq]
  simp [-wq_mSeq]
  refine (town_ok ns).go fun d s ⟨e, ht⟩ => ?_
  subst e
  simp [-wq_mSeq]
  rw [wq_mSeq]
  simp [-wq_mSeq]
  refine (law_table_ok ht).go ?_
  rintro _ s1 ⟨rs, rfl, hr, hrl, hrt, h1⟩
  obtain ⟨T, e, hT, hT8, hT3⟩ := rows_Pk hr hrl hrt
  rw [e]
  simp [-wq_mSeq]
  refine (law_packed_ok hT).go ?_
  rintro _ s2 ⟨rfl, k2⟩
  have ht2 := h1.tw.kx k2
  have hgl := good_len hT hT8 hT3
  have hgb : By (pk T) := pk_le T
  generalize hg : pk T = g at hgl hgb
  simp [-wq_mSeq]
  rw [wq_mSeq]
  simp [-wq_mSeq]
  rw [wq_srcR1 (by unfold big; omega)]
  simp only [kb_app]
  refine wq_forI (L8 (.fro (ns.map Da.int)) g) ⟨⟨_, _, _, _, _, _, _, rfl⟩, ht2⟩ ?_ ?_
  · rintro i x ro s hx ⟨⟨o3, o5, o6, o7, o8, o9, o10, rfl⟩, ht⟩
    refine ⟨_, rfl, ?_⟩
    simp [-wq_mSeq]
    rw [wq_mSeq]
    simp [-wq_mSeq]
    rw [wq_mSeq]
    simp [-wq_mSeq]
    refine (draw_ok ht (by omega) (by omega)).go ?_
    rintro _ s3 ⟨at_, rfl, a0, a1, h3⟩
    obtain ⟨at_, rfl⟩ := Int.eq_ofNat_of_zero_le a0
    simp [-wq_mSeq]
    rw [wq_mSeq]
    simp [-wq_mSeq]
    refine (draw_ok h3.tw (by decide) (by decide)).go ?_
    rintro _ s4 ⟨v4, rfl, b0, b1, h4⟩
    simp [-wq_mSeq]
    refine (pick_ok h4.tw (by simp) (by simp)).go ?_
    rintro _ s5 ⟨m5, h5⟩
    rename_i d5
    have ⟨new, e5, c5⟩ : ∃ v : Nat, d5 = .int v ∧ v ≤ 255 := by
      obtain ⟨v, rfl⟩ := Int.eq_ofNat_of_zero_le b0
      simp at m5
      rcases m5 with rfl | rfl | rfl | rfl | rfl | rfl | rfl | rfl
      · exact ⟨0, rfl, by omega⟩
      · exact ⟨1, rfl, by omega⟩
      · exact ⟨2, rfl, by omega⟩
      · exact ⟨127, rfl, by omega⟩
      · exact ⟨128, rfl, by omega⟩
      · exact ⟨129, rfl, by omega⟩
      · exact ⟨255, rfl, by omega⟩
      · exact ⟨v, rfl, by omega⟩
    subst e5
    simp [-wq_mSeq]
    rw [wq_mSeq]
    simp [-wq_mSeq]
    refine (draw_ok h5.tw (by decide) (by decide)).go ?_
    rintro _ s6 ⟨kind, rfl, q0, q1, h6⟩
    simp [-wq_mSeq]
    refine Wq.seq (fun f s => ∃ (w : List Nat) (o10 : Option Da), By w ∧ w.length ≤ 200 ∧ Tw 1 0 s ∧ f = .nx [some (.fro (ns.map Da.int)), some (.han 1), some (.lst (inL g)), some x, none, some (.lst (inL w)), some (.int at_), some (.int new), some (.int kind), o9, o10]) ?_ ?_
    · by_cases e0 : kind = 0
      · simp [e0, cut_to, cut_from]
        rw [wq_catL_l (by simp; omega)]
        simp [cut_to, cut_from]
        rw [wq_catL_l (by simp; omega)]
        simp
        refine ⟨g.take at_ ++ [new] ++ g.drop at_, ?_, by simp; omega, h6.tw, by simp⟩
        intro b hb
        simp only [List.mem_append, List.mem_singleton] at hb
        rcases hb with (hb | rfl) | hb
        · exact hgb b (List.mem_of_mem_take hb)
        · exact c5
        · exact hgb b (List.mem_of_mem_drop hb)
      by_cases e1 : kind = 1
      · simp [e1, cut_to, cut_from]
        rw [wq_catL_l (by simp; omega)]
        simp [cut_to, cut_from1]
        rw [wq_catL_l (by simp; omega)]
        simp
        refine ⟨g.take at_ ++ [new] ++ g.drop (at_ + 1), ?_, by simp; omega, h6.tw, by simp⟩
        intro b hb
        simp only [List.mem_append, List.mem_singleton] at hb
        rcases hb with (hb | rfl) | hb
        · exact hgb b (List.mem_of_mem_take hb)
        · exact c5
        · exact hgb b (List.mem_of_mem_drop hb)
      by_cases e2 : kind = 2
      · simp [e2, cut_to, cut_from1]
        rw [wq_add_ll (by simp; omega)]
        simp
        refine ⟨g.take at_ ++ g.drop (at_ + 1), ?_, by simp; omega, h6.tw, by simp⟩
        intro b hb
        simp only [List.mem_append] at hb
        rcases hb with hb | hb
        · exact hgb b (List.mem_of_mem_take hb)
        · exact hgb b (List.mem_of_mem_drop hb)
      · simp [e0, e1, e2]
        refine (draw_ok h6.tw (by decide) (by decide)).go ?_
        rintro _ s7 ⟨m, rfl, m0, m1, h7⟩
        simp
        rw [wq_srcR1 (by unfold big; omega)]
        simp [wipeS]
        refine wq_compI (fun i acc s => (∃ w : List Nat, acc = inL w ∧ w.length = i ∧ By w) ∧ Tw 1 0 s) ⟨⟨[], rfl, rfl, fun b hb => nomatch hb⟩, h7.tw⟩ (fun i acc s q => by obtain ⟨⟨w, rfl, hw, _⟩, _⟩ := q; simp; omega) (by simp [rngL]; omega) ?_ ?_
        · rintro i x acc s hx ⟨⟨w, rfl, hw, hwb⟩, htt⟩
          obtain ⟨hi, rfl⟩ := rng_get hx
          refine ⟨_, rfl, ?_⟩
          simp
          refine (draw_ok htt (by decide) (by decide)).go ?_
          rintro _ s8 ⟨v, rfl, v0, v1, h8⟩
          obtain ⟨v, rfl⟩ := Int.eq_ofNat_of_zero_le v0
          refine ⟨⟨w ++ [v], by simp, by simp [hw], fun b hb => ?_⟩, h8.tw⟩
          rcases List.mem_append.mp hb with hb | hb
          · exact hwb b hb
          · have : b = v := by simpa using hb
            omega
        · rintro acc s8 ⟨⟨w, rfl, hw, hwb⟩, htt⟩
          have : (rngL 0 m.toNat).length = m.toNat := by simp [rngL]
          simp
          exact ⟨w, hwb, by omega, htt, rfl⟩
    · rintro _ s7 ⟨w, o10, hw, hwl, ht7, rfl⟩
      simp [-wq_mSeq]
      rw [wq_mSeq]
      simp [-wq_mSeq]
      refine (read_ok hw (by omega)).go ?_
      rintro _ s8 ⟨hq, k8⟩
      have ht8 := ht7.kx k8
      rcases hq with ⟨T', hu, rfl⟩ | ⟨rfl, hu⟩
      · obtain ⟨ew, hT'⟩ := unp_Pk hw hwl hu
        simp [-wq_mSeq]
        rw [wq_mSeq]
        simp [-wq_mSeq]
        rw [wq_ne (tb_pl T') (by simp [pl, strOk_of]), tb_str]
        simp [-wq_mSeq]
        rw [show (Wq (isT .list (tbD T')) = Wq (isT .list (.lst (T'.map rg2D)))) from rfl]
        simp [-wq_mSeq, isTn]
        rw [wq_ne (tb_pl T') (by simp [pl, strOk_of]), tb_str]
        simp
        refine (law_packed_ok hT').go ?_
        rintro _ s9 ⟨rfl, k9⟩
        simp
        refine (packed_ok hT' (lookG hT'.rise.asc (.inl rfl) (hT'.rise.okR fun x hx => ⟨(hT'.in_ x hx).1, (hT'.in_ x hx).2.2⟩))).go ?_
        rintro _ s10 ⟨f, rfl, _, hf, k10⟩
        rw [← ew] at hf ⊢
        simp
        rw [ne_two hf]
        simp [loopP]
        exact ⟨⟨_, _, _, _, _, _, _, rfl⟩, (ht8.kx k9).kx k10⟩
      · simp
        exact ⟨⟨_, _, _, _, _, _, _, rfl⟩, ht8⟩
  rintro ro s3 ⟨⟨o3, o5, o6, o7, o8, o9, o10, rfl⟩, ht3⟩
  simp [-wq_mSeq]
  rw [wq_mSeq]
  simp [-wq_mSeq]
  refine wq_forI (fun i ro s => (∃ o3 o4 o5 o6 o7 o8 o9 o10, ro = [some (.fro (ns.map Da.int)), some (.han 1), some (.lst (inL g)), o3, o4, o5, o6, o7, o8, o9, o10])) ⟨_, _, _, _, _, _, _, _, rfl⟩ ?_ ?_
  · rintro i x ro s hx ⟨o3, o4, o5, o6, o7, o8, o9, o10, rfl⟩
    refine ⟨_, rfl, ?_⟩
    simp
    refine (bads x (List.mem_of_getElem? hx) s).go ?_
    rintro _ s9 ⟨rfl, k9⟩
    simp [loopP]
  rintro ro s4 ⟨o3, o4, o5, o6, o7, o8, o9, o10, rfl⟩
  simp
  refine (read_ok hgb (by omega)).go ?_
  rintro _ s5 ⟨hq, k5⟩
  rw [← hg, unp_pk hT] at hq
  rcases hq with ⟨T', hu, rfl⟩ | ⟨_, hu⟩
  · simp
    rw [wq_ne (tb_pl T') (by simp [pl, strOk_of]), tb_str]
    simp
  · cases hu
end CL
open PySem PySem.W PySem.Calls PyProof.Rows
theorem PySem.Challenge.cw_coldlanes_k08_whole_bytes_holds : PySem.Challenge.rw_coldlanes_k08_whole_bytes.Holds := by
  w_on; o_law
  refine HandSHeadRun.head_any (r := OpenLaw.row PySem.Challenge.rw_coldlanes_k08_whole_bytes) (q := view (OpenLaw.row PySem.Challenge.rw_coldlanes_k08_whole_bytes).prog [32]) (H := CL.hk) (ob := CL.hob) (M := 12000) (loose := CL.loose) (d := HandSHeadRun.topDef (OpenLaw.row PySem.Challenge.rw_coldlanes_k08_whole_bytes).prog 32) (kwd := []) CL.hob_eq
    (by kernel_rfl) (fun s => by kernel_rfl) CL.hrun (by kernel_rfl) (by kernel_rfl) (by kernel_rfl) (by rfl) (by first | assumption | decide +kernel) (by decide +kernel) ⟨rfl, rfl, rfl, rfl, rfl, by decide +kernel⟩ ?hw ?hc
  case hw => w_witness2
  case hc =>
    refine CL.walkE (l := PySem.Challenge.rw_coldlanes_k08_whole_bytes) (n := 63) (k := 6) (x := "script") rfl (by decide) (by kernel_rfl) ⟨rfl, by decide, by decide⟩ ?F
    intro w mg fa h Y G hmg0
    obtain ⟨K, KX, c⟩ := Y
    have T : CL.Tx K mg := CL.tx_of KX G c
    have hmg : mg ("law" : PySem.Str) = some (.ref fa) := by
      have e : (HandSHeadRun.topDef (OpenLaw.row PySem.Challenge.rw_coldlanes_k08_whole_bytes).prog 32).name = ("law" : PySem.Str) := by kernel_rfl
      rw [← e]
      exact hmg0
    obtain ⟨hl, fd, F⟩ := T.d_law
    rw [hmg] at hl
    cases hl
    have b := L2.FunD.bindsA (ps := ["script"]) F fun _ _ _ _ _ _ us hl => match us, hl with | [_], _ => rfl
    exact ⟨K, fd, CL.SpOf K 1 CL.f_law, KX, fun s v => b s [v] rfl, fun H a ns hl hO hS => CL.law_start hO hS (CL.law_true ns hl), fun base _ _ => CL.the_law T F⟩
