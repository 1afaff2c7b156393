import PyProof.Rows.All
import Wide.All
import OpenK.AllK
import Wide.FinOn
import HandS.ForMost
import HandS.ForExc
import HandS.Strs
import HandS.Zip
import HandS.Deep
import HandS.TupAny
import HandS.Conv
import HandS.SortInts
import HandS.Evl
import HandS.Replace
import HandS.HotCalls
import HandS.ExcCtx
import HandS.Defaults
import PySem.Challenge.RW_wordswitch_k19_whole_boxes_sign_by_sign
set_option Elab.async false
set_option linter.all false
set_option maxRecDepth 100000
set_option maxHeartbeats 4000000
/-! WS0: a logic over data: what a reading does, told of data alone (no heap, no addresses but of cells) -/
namespace WS
open PySem L2

/-! ### heaps -/
abbrev Ex := Evl.Ex
theorem Ex.rfl {H : Hp} : Ex H H := Evl.Ex.refl H
theorem Ex.trans {H H1 H2 : Hp} (a : Ex H H1) (b : Ex H1 H2) : Ex H H2 := Evl.Ex.trans a b
theorem Ex.new {H : Hp} {p : Addr} {o : HO} (h : H p = none) : Ex H (upd H p o) := Evl.Ex.new h
theorem Ex.none {H H' : Hp} {p : Addr} (e : Ex H H') (h : H' p = none) : H p = none := by
  cases h1 : H p with
  | none => exact Eq.refl _
  | some o =>
    rw [e p o h1] at h
    cases h

/-! ### data -/
mutual
inductive Rp (B : Hp) : V → PyData → Prop
  | non : Rp B .non .none
  | bl (b : Bool) : Rp B (.bl b) (.bool b)
  | int (i : Int) : Rp B (.int i) (.int i)
  | str (x : Str) : Rp B (.str x) (.str x)
  | lst {a : Addr} {xs : List V} {ds : List PyData} : B a = some (.lst xs) → RpAll B xs ds → Rp B (.ref a) (.list ds)
  | tup {a : Addr} {xs : List V} {ds : List PyData} : B a = some (.tup xs) → RpAll B xs ds → Rp B (.ref a) (.tuple ds)
  | zt {a : Addr} {o : Obj} {xs : List V} {ds : List PyData} : B a = some (.frz o (.tup xs)) → o.dict = none → RpAll B xs ds → Rp B (.ref a) (.dict [(.tuple ds, .none)])
inductive RpAll (B : Hp) : List V → List PyData → Prop
  | nil : RpAll B [] []
  | cons {v : V} {vs : List V} {d : PyData} {ds : List PyData} : Rp B v d → RpAll B vs ds → RpAll B (v :: vs) (d :: ds)
end
mutual
theorem Rp.mono {B B' : Hp} (e : Ex B B') : ∀ {v : V} {d : PyData}, Rp B v d → Rp B' v d
  | _, _, .non => .non
  | _, _, .bl b => .bl b
  | _, _, .int i => .int i
  | _, _, .str x => .str x
  | _, _, .lst h r => .lst (e _ _ h) (RpAll.mono e r)
  | _, _, .tup h r => .tup (e _ _ h) (RpAll.mono e r)
  | _, _, .zt h n r => .zt (e _ _ h) n (RpAll.mono e r)
theorem RpAll.mono {B B' : Hp} (e : Ex B B') : ∀ {v : List V} {d : List PyData}, RpAll B v d → RpAll B' v d
  | _, _, .nil => .nil
  | _, _, .cons h r => .cons (Rp.mono e h) (RpAll.mono e r)
end
/-- a tuple whose object is known (no dict of its own): told as this -/
abbrev zT (ds : List PyData) : PyData := .dict [(.tuple ds, .none)]
mutual
/-- what such data is, the known tuples told as tuples -/
inductive Nm : PyData → PyData → Prop
  | non : Nm .none .none
  | bl (b : Bool) : Nm (.bool b) (.bool b)
  | int (i : Int) : Nm (.int i) (.int i)
  | str (x : Str) : Nm (.str x) (.str x)
  | lst {ds es : List PyData} : NmAll ds es → Nm (.list ds) (.list es)
  | tup {ds es : List PyData} : NmAll ds es → Nm (.tuple ds) (.tuple es)
  | zt {ds es : List PyData} : NmAll ds es → Nm (.dict [(.tuple ds, .none)]) (.tuple es)
inductive NmAll : List PyData → List PyData → Prop
  | nil : NmAll [] []
  | cons {d e : PyData} {ds es : List PyData} : Nm d e → NmAll ds es → NmAll (d :: ds) (e :: es)
end
mutual
theorem Rp.dpN (K : PySem.W.Frag) {B : Hp} : ∀ {v : V} {d e : PyData}, Rp B v d → Nm d e → Dp K B v e
  | _, _, _, .non, .non => .non
  | _, _, _, .bl b, .bl _ => .bl b
  | _, _, _, .int i, .int _ => .int i
  | _, _, _, .str x, .str _ => .str x
  | _, _, _, .lst h r, .lst n => .lst (SqL.of h) (RpAll.dpN K r n)
  | _, _, _, .tup h r, .tup n => .tup (SqT.of h) (RpAll.dpN K r n)
  | _, _, _, .zt h _ r, .zt n => .tup (.inl (.inr ⟨_, h⟩)) (RpAll.dpN K r n)
theorem RpAll.dpN (K : PySem.W.Frag) {B : Hp} : ∀ {v : List V} {d e : List PyData}, RpAll B v d → NmAll d e → DpAll K B v e
  | _, _, _, .nil, .nil => .nil
  | _, _, _, .cons h r, .cons n ns => .cons (Rp.dpN K h n) (RpAll.dpN K r ns)
end
mutual
theorem nm_self : ∀ d : PyData, d.canLay0 = true → Nm d d
  | .none, _ => .non
  | .bool b, _ => .bl b
  | .int i, _ => .int i
  | .str x, _ => .str x
  | .list xs, h => .lst (nm_selfAll xs h)
  | .tuple xs, h => .tup (nm_selfAll xs h)
  | .dict _, h => nomatch h
theorem nm_selfAll : ∀ ds : List PyData, PyData.canLayAll0 ds = true → NmAll ds ds
  | [], _ => .nil
  | d :: ds, h => by
    have h : (d.canLay0 && PyData.canLayAll0 ds) = true := h
    rw [Bool.and_eq_true] at h
    exact .cons (nm_self d h.1) (nm_selfAll ds h.2)
end
theorem shaped_lay {d : PyData} (h : SeqAt.shaped d = true) : d.canLay0 = true := by
  unfold SeqAt.shaped at h
  exact (Bool.and_eq_true_iff.mp h).1
theorem Rp.dp (K : PySem.W.Frag) {B : Hp} {v : V} {d : PyData} (r : Rp B v d) (h : SeqAt.shaped d = true) : Dp K B v d := r.dpN K (nm_self d (shaped_lay h))
section
variable {B : Hp} {v : V} {d : PyData} {xs : List V} {ds : List PyData}
theorem Rp.int_v {i : Int} (h : Rp B v (.int i)) : v = .int i := by cases h; rfl
theorem Rp.str_v {i : Str} (h : Rp B v (.str i)) : v = .str i := by cases h; rfl
theorem Rp.bl_v {i : Bool} (h : Rp B v (.bool i)) : v = .bl i := by cases h; rfl
theorem Rp.non_v (h : Rp B v .none) : v = .non := by cases h; rfl
theorem Rp.lst_v (h : Rp B v (.list ds)) : ∃ a xs, v = .ref a ∧ B a = some (.lst xs) ∧ RpAll B xs ds := by cases h with | lst h r => exact ⟨_, _, rfl, h, r⟩
theorem Rp.tup_v (h : Rp B v (.tuple ds)) : ∃ a xs, v = .ref a ∧ B a = some (.tup xs) ∧ RpAll B xs ds := by cases h with | tup h r => exact ⟨_, _, rfl, h, r⟩
theorem Rp.zt_v (h : Rp B v (zT ds)) : ∃ a o xs, v = .ref a ∧ B a = some (.frz o (.tup xs)) ∧ o.dict = none ∧ RpAll B xs ds := by cases h with | zt h n r => exact ⟨_, _, _, rfl, h, n, r⟩
theorem RpAll.length : ∀ {xs : List V} {ds : List PyData}, RpAll B xs ds → xs.length = ds.length
  | _, _, .nil => rfl
  | _, _, .cons _ r => congrArg (· + 1) (RpAll.length r)
theorem RpAll.get : ∀ {xs : List V} {ds : List PyData} {i : Nat} {x : V}, RpAll B xs ds → xs[i]? = some x → ∃ d, ds[i]? = some d ∧ Rp B x d
  | _, _, _, _, .nil, e => by simp at e
  | _, _, 0, _, .cons r _, e => by simp at e; subst e; exact ⟨_, rfl, r⟩
  | _, _, i + 1, x, .cons _ t, e => by
    obtain ⟨u, h1, h2⟩ := RpAll.get (i := i) (x := x) t (by simpa using e)
    exact ⟨u, by simpa using h1, h2⟩
theorem RpAll.getD : ∀ {xs : List V} {ds : List PyData} {i : Nat} {d : PyData}, RpAll B xs ds → ds[i]? = some d → ∃ x, xs[i]? = some x ∧ Rp B x d
  | _, _, _, _, .nil, e => by simp at e
  | _, _, 0, _, .cons r _, e => by simp at e; subst e; exact ⟨_, rfl, r⟩
  | _, _, i + 1, x, .cons _ t, e => by
    obtain ⟨u, h1, h2⟩ := RpAll.getD (i := i) (d := x) t (by simpa using e)
    exact ⟨u, by simpa using h1, h2⟩
theorem RpAll.append : ∀ {xs : List V} {ds : List PyData} {ys : List V} {es : List PyData}, RpAll B xs ds → RpAll B ys es → RpAll B (xs ++ ys) (ds ++ es)
  | _, _, _, _, .nil, s => s
  | _, _, _, _, .cons r t, s => .cons r (RpAll.append t s)
theorem RpAll.take : ∀ {xs : List V} {ds : List PyData} (n : Nat), RpAll B xs ds → RpAll B (xs.take n) (ds.take n)
  | _, _, 0, _ => by simpa using RpAll.nil
  | _, _, _ + 1, .nil => by simpa using RpAll.nil
  | _, _, n + 1, .cons r t => .cons r (RpAll.take n t)
theorem RpAll.drop : ∀ {xs : List V} {ds : List PyData} (n : Nat), RpAll B xs ds → RpAll B (xs.drop n) (ds.drop n)
  | _, _, 0, r => by simpa using r
  | _, _, _ + 1, .nil => by simpa using RpAll.nil
  | _, _, n + 1, .cons r t => by simpa using RpAll.drop n t
theorem RpAll.set : ∀ {xs : List V} {ds : List PyData} (i : Nat), RpAll B xs ds → Rp B v d → RpAll B (xs.set i v) (ds.set i d)
  | _, _, _, .nil, _ => by simpa using RpAll.nil
  | _, _, 0, .cons _ t, h => .cons h t
  | _, _, i + 1, .cons r t, h => .cons r (RpAll.set i t h)
theorem RpAll.eraseIdx : ∀ {xs : List V} {ds : List PyData} (i : Nat), RpAll B xs ds → RpAll B (xs.eraseIdx i) (ds.eraseIdx i)
  | _, _, _, .nil => by simpa using RpAll.nil
  | _, _, 0, .cons _ t => by simpa using t
  | _, _, i + 1, .cons r t => .cons r (RpAll.eraseIdx i t)
theorem RpAll.reverse : ∀ {xs : List V} {ds : List PyData}, RpAll B xs ds → RpAll B xs.reverse ds.reverse
  | _, _, .nil => by simpa using RpAll.nil
  | _, _, .cons r t => by
    rw [List.reverse_cons, List.reverse_cons]
    exact (RpAll.reverse t).append (.cons r .nil)
theorem RpAll.ints : ∀ {xs : List V} (ns : List Int), RpAll B xs (ns.map PyData.int) → xs = ns.map V.int
  | _, [], .nil => rfl
  | _, n :: ns, .cons h r => by rw [Rp.int_v h, RpAll.ints ns r]; rfl
theorem RpAll.of_ints : ∀ (ns : List Int), RpAll B (ns.map V.int) (ns.map PyData.int)
  | [] => .nil
  | n :: ns => .cons (.int n) (RpAll.of_ints ns)
theorem RpAll.strs : ∀ {xs : List V} (ns : List Str), RpAll B xs (ns.map PyData.str) → xs = ns.map V.str
  | _, [], .nil => rfl
  | _, n :: ns, .cons h r => by rw [Rp.str_v h, RpAll.strs ns r]; rfl
theorem RpAll.of_strs : ∀ (ns : List Str), RpAll B (ns.map V.str) (ns.map PyData.str)
  | [] => .nil
  | n :: ns => .cons (.str n) (RpAll.of_strs ns)
theorem RpAll.atI {i : Int} (r : RpAll B xs ds) (h : atI ds i = some d) : ∃ x, L2.atI xs i = some x ∧ Rp B x d := by
  unfold L2.atI at h ⊢
  rw [r.length]
  cases e : ixN ds.length i with
  | none => rw [e] at h; cases h
  | some j =>
    rw [e] at h
    exact r.getD h
end

/-! ### cells: what may change -/
structure Cell where
  ok : Hp → HO → Prop
  mono : ∀ {B B' : Hp} {o : HO}, Ex B B' → ok B o → ok B' o
  nt : ∀ {B : Hp} {xs : List V}, ¬ ok B (.tup xs)
abbrev Cells := Addr → Option Cell
def Cells.put (L : Cells) (a : Addr) (c : Cell) : Cells := fun b => if b = a then some c else L b
theorem put_same {L : Cells} {a : Addr} {c : Cell} : L.put a c a = some c := if_pos rfl
theorem put_ne {L : Cells} {a b : Addr} {c : Cell} (h : b ≠ a) : L.put a c b = L b := if_neg h
theorem put_put {L : Cells} {a : Addr} {c c' : Cell} : (L.put a c).put a c' = L.put a c' := by
  funext b
  unfold Cells.put
  split <;> rfl
theorem put_id {L : Cells} {a : Addr} {c : Cell} (h : L a = some c) : L.put a c = L := by
  funext b
  unfold Cells.put
  split
  · rename_i e
    rw [e, h]
  · rfl
/-- a list that one holds alone -/
def lstC (ds : List PyData) : Cell := ⟨fun B o => ∃ xs, o = .lst xs ∧ RpAll B xs ds, fun e ⟨xs, h, r⟩ => ⟨xs, h, r.mono e⟩, fun ⟨_, h, _⟩ => nomatch h⟩
/-- less is told -/
def Weak (L L' : Cells) : Prop := ∀ a c', L' a = some c' → ∃ c, L a = some c ∧ ∀ B o, c.ok B o → c'.ok B o
theorem Weak.rfl {L : Cells} : Weak L L := fun _ c h => ⟨c, h, fun _ _ x => x⟩
theorem Weak.trans {L L1 L2 : Cells} (a : Weak L L1) (b : Weak L1 L2) : Weak L L2 := fun x c h => by
  obtain ⟨c1, h1, k1⟩ := b x c h
  obtain ⟨c2, h2, k2⟩ := a x c1 h1
  exact ⟨c2, h2, fun B o q => k1 B o (k2 B o q)⟩
theorem Weak.put {L : Cells} {a : Addr} {c : Cell} (h : L a = none) : Weak (L.put a c) L := fun b c' e => by
  have n : b ≠ a := fun z => by rw [z, h] at e; cases e
  rw [put_ne n]
  exact ⟨c', e, fun _ _ x => x⟩
theorem Weak.put2 {L L' : Cells} {a : Addr} {c c' : Cell} (h : Weak L L') (k : ∀ B o, c.ok B o → c'.ok B o) : Weak (L.put a c) (L'.put a c') := fun b c2 e => by
  by_cases n : b = a
  · subst n
    rw [put_same] at e ⊢
    cases e
    exact ⟨c, Eq.refl _, k⟩
  · rw [put_ne n] at e ⊢
    exact h b c2 e
/-- a cell is told anew, as weaker -/
theorem Weak.to {L : Cells} {a : Addr} {c c' : Cell} (h : L a = some c') (k : ∀ B o, c.ok B o → c'.ok B o) : Weak (L.put a c) L := fun b c2 e => by
  by_cases n : b = a
  · subst n
    rw [h] at e
    cases e
    exact ⟨c, put_same, k⟩
  · exact ⟨c2, by rw [put_ne n]; exact e, fun _ _ x => x⟩

structure Sta (L Fr : Cells) (B H : Hp) : Prop where
  ex : Ex B H
  cl : ∀ a c, L a = some c → B a = none ∧ Fr a = none ∧ ∃ o, H a = some o ∧ c.ok B o
  fr : ∀ a c, Fr a = some c → B a = none ∧ ∃ o, H a = some o ∧ c.ok B o
section
variable {L L' Fr : Cells} {B B' H H' : Hp} {p : Addr} {o : HO} {c : Cell}
theorem Sta.weak (s : Sta L Fr B H) (w : Weak L L') : Sta L' Fr B H := ⟨s.ex, fun a c h => by
  obtain ⟨c0, h0, k⟩ := w a c h
  obtain ⟨b, f, o, q, x⟩ := s.cl a c0 h0
  exact ⟨b, f, o, q, k B o x⟩, s.fr⟩
theorem Sta.bnone (s : Sta L Fr B H) (h : H p = none) : B p = none := s.ex.none h
theorem Sta.lnone (s : Sta L Fr B H) (h : H p = none) : L p = none := by
  cases e : L p with
  | none => rfl
  | some c =>
    obtain ⟨_, _, o, q, _⟩ := s.cl p c e
    rw [h] at q
    cases q
theorem Sta.fnone (s : Sta L Fr B H) (h : H p = none) : Fr p = none := by
  cases e : Fr p with
  | none => rfl
  | some c =>
    obtain ⟨_, o, q, _⟩ := s.fr p c e
    rw [h] at q
    cases q
/-- a new object that is data -/
theorem Sta.newD (s : Sta L Fr B H) (h : H p = none) (o : HO) : Sta L Fr (upd B p o) (upd H p o) := by
  refine ⟨fun a u e => ?_, fun a c e => ?_, fun a c e => ?_⟩
  · by_cases n : a = p
    · subst n
      rw [upd_same] at e ⊢
      exact e
    · rw [upd_ne n] at e ⊢
      exact s.ex a u e
  · obtain ⟨b, f, u, q, k⟩ := s.cl a c e
    have n : a ≠ p := ne_of_none q h
    rw [upd_ne n, upd_ne n]
    exact ⟨b, f, u, q, c.mono (Ex.new (s.bnone h)) k⟩
  · obtain ⟨b, u, q, k⟩ := s.fr a c e
    have n : a ≠ p := ne_of_none q h
    rw [upd_ne n, upd_ne n]
    exact ⟨b, u, q, c.mono (Ex.new (s.bnone h)) k⟩
theorem Sta.exD (s : Sta L Fr B H) (h : H p = none) {o : HO} : Ex B (upd B p o) := Ex.new (s.bnone h)
/-- a new object that is a cell -/
theorem Sta.newC (s : Sta L Fr B H) (h : H p = none) (k : c.ok B o) : Sta (L.put p c) Fr B (upd H p o) := by
  refine ⟨fun a u e => ?_, fun a c' e => ?_, fun a c' e => ?_⟩
  · rw [upd_ne (ne_of_none (s.ex a u e) h)]
    exact s.ex a u e
  · by_cases n : a = p
    · subst n
      rw [put_same] at e
      cases e
      exact ⟨s.bnone h, s.fnone h, o, upd_same, k⟩
    · rw [put_ne n] at e
      rw [upd_ne n]
      exact s.cl a c' e
  · obtain ⟨b, u, q, k⟩ := s.fr a c' e
    rw [upd_ne (ne_of_none q h)]
    exact ⟨b, u, q, k⟩
/-- a cell changes -/
theorem Sta.setC {c0 : Cell} (s : Sta L Fr B H) (h : L p = some c0) (k : c.ok B o) : Sta (L.put p c) Fr B (upd H p o) := by
  obtain ⟨b0, f0, _, q0, _⟩ := s.cl p c0 h
  refine ⟨fun a u e => ?_, fun a c' e => ?_, fun a c' e => ?_⟩
  · have n : a ≠ p := fun z => by rw [z, b0] at e; cases e
    rw [upd_ne n]
    exact s.ex a u e
  · by_cases n : a = p
    · subst n
      rw [put_same] at e
      cases e
      exact ⟨b0, f0, o, upd_same, k⟩
    · rw [put_ne n] at e
      rw [upd_ne n]
      exact s.cl a c' e
  · have n : a ≠ p := fun z => by rw [z, f0] at e; cases e
    rw [upd_ne n]
    exact s.fr a c' e
/-- a cell becomes data -/
theorem Sta.freeze (s : Sta L Fr B H) (h : L p = some c) : ∃ o, H p = some o ∧ c.ok B o ∧ B p = none ∧ Sta (fun a => if a = p then none else L a) Fr (upd B p o) H := by
  obtain ⟨b0, f0, o, q0, k⟩ := s.cl p c h
  refine ⟨o, q0, k, b0, fun a u e => ?_, fun a c' e => ?_, fun a c' e => ?_⟩
  · by_cases n : a = p
    · subst n
      rw [upd_same] at e
      rw [← e]
      exact q0
    · rw [upd_ne n] at e
      exact s.ex a u e
  · have e : (if a = p then none else L a) = some c' := e
    by_cases n : a = p
    · rw [if_pos n] at e
      cases e
    · rw [if_neg n] at e
      obtain ⟨b, f, u, q, k'⟩ := s.cl a c' e
      rw [upd_ne n]
      exact ⟨b, f, u, q, c'.mono (Ex.new b0) k'⟩
  · have n : a ≠ p := fun z => by rw [z, f0] at e; cases e
    obtain ⟨b, u, q, k'⟩ := s.fr a c' e
    rw [upd_ne n]
    exact ⟨b, u, q, c'.mono (Ex.new b0) k'⟩
/-- a tuple that stands there is data -/
theorem Sta.seeT {q : Addr} {xs : List V} (s : Sta L Fr B H) (h : H q = some (.tup xs)) : Ex B (upd B q (.tup xs)) ∧ Sta L Fr (upd B q (.tup xs)) H := by
  have e0 : Ex B (upd B q (.tup xs)) := fun a o e => by
    by_cases n : a = q
    · subst n
      rw [upd_same, ← h]
      exact s.ex a o e
    · rw [upd_ne n]
      exact e
  refine ⟨e0, fun a o e => ?_, fun a c' e => ?_, fun a c' e => ?_⟩
  · by_cases n : a = q
    · subst n
      rw [upd_same] at e
      rw [← e]
      exact h
    · rw [upd_ne n] at e
      exact s.ex a o e
  · obtain ⟨b, f, o, x, k⟩ := s.cl a c' e
    have n : a ≠ q := fun z => by
      rw [z, h] at x
      cases x
      exact c'.nt k
    rw [upd_ne n]
    exact ⟨b, f, o, x, c'.mono e0 k⟩
  · obtain ⟨b, o, x, k⟩ := s.fr a c' e
    have n : a ≠ q := fun z => by
      rw [z, h] at x
      cases x
      exact c'.nt k
    rw [upd_ne n]
    exact ⟨b, o, x, c'.mono e0 k⟩
/-- a cell goes into the frame, and comes back -/
theorem Sta.hide (s : Sta (L.put p c) Fr B H) (h : L p = none) : Sta L (Fr.put p c) B H := by
  refine ⟨s.ex, fun a c' e => ?_, fun a c' e => ?_⟩
  · have n : a ≠ p := fun z => by rw [z, h] at e; cases e
    obtain ⟨b, f, x⟩ := s.cl a c' (by rw [put_ne n]; exact e)
    exact ⟨b, by rw [put_ne n]; exact f, x⟩
  · by_cases n : a = p
    · subst n
      rw [put_same] at e
      cases e
      obtain ⟨b, f, x⟩ := s.cl a _ put_same
      exact ⟨b, x⟩
    · rw [put_ne n] at e
      exact s.fr a c' e
theorem Sta.show (s : Sta L (Fr.put p c) B H) (h : Fr p = none) : Sta (L.put p c) Fr B H := by
  refine ⟨s.ex, fun a c' e => ?_, fun a c' e => ?_⟩
  · by_cases n : a = p
    · subst n
      rw [put_same] at e
      cases e
      obtain ⟨b, x⟩ := s.fr a _ put_same
      exact ⟨b, h, x⟩
    · rw [put_ne n] at e
      obtain ⟨b, f, x⟩ := s.cl a c' e
      rw [put_ne n] at f
      exact ⟨b, f, x⟩
  · have n : a ≠ p := fun z => by rw [z, h] at e; cases e
    exact s.fr a c' (by rw [put_ne n]; exact e)
end
structure Base where
  b : Hp
  f : Cells
def Cells.drop (L : Cells) (p : Addr) : Cells := fun a => if a = p then none else L a
theorem drop_ne {L : Cells} {a b : Addr} (h : b ≠ a) : L.drop a b = L b := if_neg h
theorem drop_put {L : Cells} {a : Addr} {c : Cell} (h : L a = none) : (L.put a c).drop a = L := by
  funext b
  unfold Cells.drop Cells.put
  split
  · rename_i e
    rw [e, h]
  · rfl

/-! ### what a slot holds -/
inductive En where
  | unk
  | dat (d : PyData)
  | val (v : V)
def EnOk (B : Hp) (v : Option V) : En → Prop
  | .unk => True
  | .dat d => ∃ x, v = some x ∧ Rp B x d
  | .val w => v = some w
theorem EnOk.mono {B B' : Hp} {v : Option V} {e : En} (x : Ex B B') (h : EnOk B v e) : EnOk B' v e := by
  cases e with
  | unk => trivial
  | dat d =>
    obtain ⟨y, e, r⟩ := h
    exact ⟨y, e, r.mono x⟩
  | val w => exact h
theorem EnOk.d {B : Hp} {x : V} {d : PyData} (h : Rp B x d) : EnOk B (some x) (.dat d) := ⟨x, rfl, h⟩
theorem EnOk.v {B : Hp} {x : V} : EnOk B (some x) (.val x) := rfl
structure EnvD (B : Hp) (σ : L2.St) (env : List En) : Prop where
  len : σ.length = env.length
  at_ : ∀ (i : Nat) (e : En), env[i]? = some e → EnOk B (σ[i]?.join) e
section
variable {B B' : Hp} {σ : L2.St} {env : List En} {i : Nat} {v : V} {e : En} {d : PyData}
theorem EnvD.mono (x : Ex B B') (h : EnvD B σ env) : EnvD B' σ env := ⟨h.len, fun i e q => (h.at_ i e q).mono x⟩
theorem EnvD.dat (h : EnvD B σ env) (q : env[i]? = some (.dat d)) : ∃ x, σ[i]? = some (some x) ∧ Rp B x d := by
  obtain ⟨x, e, r⟩ := h.at_ i _ q
  refine ⟨x, ?_, r⟩
  cases z : σ[i]? with
  | none => rw [z] at e; cases e
  | some y =>
    rw [z] at e
    exact congrArg some e
theorem EnvD.val (h : EnvD B σ env) (q : env[i]? = some (.val v)) : σ[i]? = some (some v) := by
  have e : σ[i]?.join = some v := h.at_ i _ q
  cases z : σ[i]? with
  | none => rw [z] at e; cases e
  | some y =>
    rw [z] at e
    exact congrArg some e
theorem EnvD.set (h : EnvD B σ env) (k : EnOk B (some v) e) : EnvD B (σ.set i (some v)) (env.set i e) := by
  refine ⟨by rw [List.length_set, List.length_set]; exact h.len, fun j u q => ?_⟩
  by_cases n : i = j
  · subst n
    rw [List.getElem?_set] at q
    rw [if_pos rfl] at q
    by_cases l : i < env.length
    · rw [if_pos l] at q
      cases q
      rw [List.getElem?_set, if_pos rfl, if_pos (by rw [h.len]; exact l)]
      exact k
    · rw [if_neg l] at q
      cases q
  · rw [List.getElem?_set_ne n] at q ⊢
    exact h.at_ j u q
/-- forget -/
theorem EnvD.unk (h : EnvD B σ env) {env' : List En} (l : env'.length = env.length) (k : ∀ (i : Nat) (e : En), env'[i]? = some e → e = .unk ∨ env[i]? = some e) : EnvD B σ env' := by
  refine ⟨by rw [h.len, l], fun i e q => ?_⟩
  rcases k i e q with z | z
  · rw [z]
    trivial
  · exact h.at_ i e z
end
/-- arguments -/
inductive EnAll (B : Hp) : List V → List En → Prop
  | nil : EnAll B [] []
  | cons {v : V} {vs : List V} {e : En} {es : List En} : EnOk B (some v) e → EnAll B vs es → EnAll B (v :: vs) (e :: es)
theorem EnAll.mono {B B' : Hp} (x : Ex B B') : ∀ {vs : List V} {es : List En}, EnAll B vs es → EnAll B' vs es
  | _, _, .nil => .nil
  | _, _, .cons h r => .cons (h.mono x) (r.mono x)
theorem EnAll.length {B : Hp} : ∀ {vs : List V} {es : List En}, EnAll B vs es → vs.length = es.length
  | _, _, .nil => rfl
  | _, _, .cons _ r => congrArg (· + 1) r.length
theorem EnAll.get {B : Hp} : ∀ {vs : List V} {es : List En} {i : Nat} {e : En}, EnAll B vs es → es[i]? = some e → EnOk B (vs[i]?) e
  | _, _, _, _, .nil, e => by simp at e
  | _, _, 0, _, .cons r _, e => by simp at e; subst e; exact r
  | _, _, i + 1, x, .cons _ t, e => by
    have q := EnAll.get (i := i) (e := x) t (by simpa using e)
    simpa using q
theorem env_start {B : Hp} {N : List Str} {vs : List V} {es : List En} (h : EnAll B vs es) : EnvD B (L2.start N vs) (es ++ List.replicate (N.length - es.length) .unk) := by
  refine ⟨?_, fun i e q => ?_⟩
  · unfold L2.start
    rw [List.length_append, List.length_append, List.length_map, List.length_replicate, List.length_replicate, h.length]
  · unfold L2.start
    by_cases l : i < es.length
    · rw [List.getElem?_append_left l] at q
      rw [List.getElem?_append_left (by rw [List.length_map, h.length]; exact l), List.getElem?_map]
      have k := h.get q
      cases z : vs[i]? with
      | none => rw [z] at k; exact k
      | some x => rw [z] at k; exact k
    · rw [List.getElem?_append_right (by omega), List.getElem?_replicate] at q
      split at q
      · cases q
        trivial
      · cases q

/-! ### what a reading does -/
def EvE (B0 : Base) (te : TE) (env : List En) (L : Cells) (P : En → Cells → Prop) : Prop :=
  ∀ (σ : L2.St) (B H : Hp), Ex B0.b B → EnvD B σ env → Sta L B0.f B H → ∀ Q : VK, (∀ v e L' B' H', Ex B B' → Sta L' B0.f B' H' → EnOk B' (some v) e → P e L' → Q v H') → te σ H Q
def EvT (B0 : Base) (tt : TT) (env : List En) (L : Cells) (P : Bool → Cells → Prop) : Prop :=
  ∀ (σ : L2.St) (B H : Hp), Ex B0.b B → EnvD B σ env → Sta L B0.f B H → ∀ Q : Bool → Hp → Prop, (∀ b L' B' H', Ex B B' → Sta L' B0.f B' H' → P b L' → Q b H') → tt σ H Q
def EvA (B0 : Base) (ta : TA) (env : List En) (L : Cells) (P : List En → Cells → Prop) : Prop :=
  ∀ (σ : L2.St) (B H : Hp), Ex B0.b B → EnvD B σ env → Sta L B0.f B H → ∀ Q : List V → Hp → Prop, (∀ vs es L' B' H', Ex B B' → Sta L' B0.f B' H' → EnAll B' vs es → P es L' → Q vs H') → ta σ H Q
def EvO (B0 : Base) (to : TO) (env : List En) (L : Cells) (P : Option Int → Cells → Prop) : Prop :=
  ∀ (σ : L2.St) (B H : Hp), Ex B0.b B → EnvD B σ env → Sta L B0.f B H → ∀ Q : Option Int → Hp → Prop, (∀ o L' B' H', Ex B B' → Sta L' B0.f B' H' → P o L' → Q o H') → to σ H Q
/-- by values: one, two, many -/
def RV1 (B0 : Base) (r : V → Hp → VK → Prop) (e1 : En) (L : Cells) (P : En → Cells → Prop) : Prop :=
  ∀ (B H : Hp) (x : V), Sta L B0.f B H → EnOk B (some x) e1 → ∀ Q : VK, (∀ v e L' B' H', Ex B B' → Sta L' B0.f B' H' → EnOk B' (some v) e → P e L' → Q v H') → r x H Q
def RV2 (B0 : Base) (r : R2) (e1 e2 : En) (L : Cells) (P : En → Cells → Prop) : Prop :=
  ∀ (B H : Hp) (x y : V), Sta L B0.f B H → EnOk B (some x) e1 → EnOk B (some y) e2 → ∀ Q : VK, (∀ v e L' B' H', Ex B B' → Sta L' B0.f B' H' → EnOk B' (some v) e → P e L' → Q v H') → r x y H Q
def RVs (B0 : Base) (r : List V → Hp → VK → Prop) (es : List En) (L : Cells) (P : En → Cells → Prop) : Prop :=
  ∀ (B H : Hp) (xs : List V), Sta L B0.f B H → EnAll B xs es → ∀ Q : VK, (∀ v e L' B' H', Ex B B' → Sta L' B0.f B' H' → EnOk B' (some v) e → P e L' → Q v H') → r xs H Q
def RVm (B0 : Base) (r : V → List V → Hp → VK → Prop) (e1 : En) (es : List En) (L : Cells) (P : En → Cells → Prop) : Prop :=
  ∀ (B H : Hp) (x : V) (xs : List V), Sta L B0.f B H → EnOk B (some x) e1 → EnAll B xs es → ∀ Q : VK, (∀ v e L' B' H', Ex B B' → Sta L' B0.f B' H' → EnOk B' (some v) e → P e L' → Q v H') → r x xs H Q
structure Ks where
  nx : List En → Cells → Prop
  rt : En → Cells → Prop
  bk : List En → Cells → Prop := fun _ _ => False
  ct : List En → Cells → Prop := fun _ _ => False
def SE (B0 : Base) (ts : TS) (env : List En) (L : Cells) (F : Ks) : Prop :=
  ∀ (D : Ends) (σ : L2.St) (B H : Hp), Ex B0.b B → EnvD B σ env → Sta L B0.f B H →
    (∀ e l σ' B' H', F.nx e l → Ex B B' → EnvD B' σ' e → Sta l B0.f B' H' → D.nx σ' H') →
    (∀ e l v B' H', F.rt e l → Ex B B' → EnOk B' (some v) e → Sta l B0.f B' H' → D.rt v H') →
    (∀ e l σ' B' H', F.bk e l → Ex B B' → EnvD B' σ' e → Sta l B0.f B' H' → D.bk σ' H') →
    (∀ e l σ' B' H', F.ct e l → Ex B B' → EnvD B' σ' e → Sta l B0.f B' H' → D.ct σ' H') → ts D σ H

section
variable {B0 : Base} {te ta tb : TE} {tt tu : TT} {tas : TA} {env : List En} {L : Cells} {P P' : En → Cells → Prop} {i : Nat} {d : PyData} {v : V} {r : R2}
theorem EvE.imp (h : EvE B0 te env L P) (k : ∀ e l, P e l → P' e l) : EvE B0 te env L P' := fun σ B H x1 x2 x3 Q q => h σ B H x1 x2 x3 Q fun v e L' B' H' y1 y2 y3 y4 => q v e L' B' H' y1 y2 y3 (k e L' y4)
theorem EvT.imp {P P' : Bool → Cells → Prop} (h : EvT B0 tt env L P) (k : ∀ e l, P e l → P' e l) : EvT B0 tt env L P' := fun σ B H x1 x2 x3 Q q => h σ B H x1 x2 x3 Q fun e L' B' H' y1 y2 y4 => q e L' B' H' y1 y2 (k e L' y4)
theorem EvA.imp {P P' : List En → Cells → Prop} (h : EvA B0 tas env L P) (k : ∀ e l, P e l → P' e l) : EvA B0 tas env L P' := fun σ B H x1 x2 x3 Q q => h σ B H x1 x2 x3 Q fun v e L' B' H' y1 y2 y3 y4 => q v e L' B' H' y1 y2 y3 (k e L' y4)

/-! ### expressions -/
theorem ee_var (h : env[i]? = some (.dat d)) (k : P (.dat d) L) : EvE B0 (tVar i) env L P := fun σ B H _ he hs Q q => by
  obtain ⟨x, hx, r⟩ := he.dat h
  exact ⟨x, hx, q x (.dat d) L B H Ex.rfl hs (EnOk.d r) k⟩
theorem ee_val (h : env[i]? = some (.val v)) (k : P (.val v) L) : EvE B0 (tVar i) env L P := fun σ B H _ he hs Q q =>
  ⟨v, he.val h, q v (.val v) L B H Ex.rfl hs rfl k⟩
theorem ee_int {n : Int} (k : P (.dat (.int n)) L) : EvE B0 (tC (.int n)) env L P := fun σ B H _ he hs Q q => q _ _ L B H Ex.rfl hs (EnOk.d (.int n)) k
theorem ee_str {n : Str} (k : P (.dat (.str n)) L) : EvE B0 (tC (.str n)) env L P := fun σ B H _ he hs Q q => q _ _ L B H Ex.rfl hs (EnOk.d (.str n)) k
theorem ee_bl {n : Bool} (k : P (.dat (.bool n)) L) : EvE B0 (tC (.bl n)) env L P := fun σ B H _ he hs Q q => q _ _ L B H Ex.rfl hs (EnOk.d (.bl n)) k
theorem ee_non (k : P (.dat .none) L) : EvE B0 (tC .non) env L P := fun σ B H _ he hs Q q => q _ _ L B H Ex.rfl hs (EnOk.d (.non)) k
theorem ee_cv (k : P (.val v) L) : EvE B0 (tC v) env L P := fun σ B H _ he hs Q q => q v (.val v) L B H Ex.rfl hs rfl k
theorem ee_op (h : EvE B0 ta env L fun e1 L1 => EvE B0 tb env L1 fun e2 L2 => RV2 B0 r e1 e2 L2 P) : EvE B0 (tOp r ta tb) env L P := fun σ B H x0 he hs Q q =>
  h σ B H x0 he hs _ fun v1 e1 L1 B1 H1 y1 s1 k1 p1 => p1 σ B1 H1 (x0.trans y1) (he.mono y1) s1 _ fun v2 e2 L2 B2 H2 y2 s2 k2 p2 =>
    p2 B2 H2 v1 v2 s2 (k1.mono y2) k2 Q fun v e L' B' H' y3 => q v e L' B' H' ((y1.trans y2).trans y3)
theorem ee_un {r : V → Hp → VK → Prop} (h : EvE B0 ta env L fun e1 L1 => RV1 B0 r e1 L1 P) : EvE B0 (tUn r ta) env L P := fun σ B H x0 he hs Q q =>
  h σ B H x0 he hs _ fun v1 e1 L1 B1 H1 y1 s1 k1 p1 => p1 B1 H1 v1 s1 k1 Q fun v e L' B' H' y3 => q v e L' B' H' (y1.trans y3)
theorem ee_cb {r : List V → Hp → VK → Prop} (h : EvA B0 tas env L fun es L1 => RVs B0 r es L1 P) : EvE B0 (tCB r tas) env L P := fun σ B H x0 he hs Q q =>
  h σ B H x0 he hs _ fun v1 e1 L1 B1 H1 y1 s1 k1 p1 => p1 B1 H1 v1 s1 k1 Q fun v e L' B' H' y3 => q v e L' B' H' (y1.trans y3)
theorem ea_nil {P : List En → Cells → Prop} (k : P [] L) : EvA B0 tNil env L P := fun σ B H _ _ hs Q q => q [] [] L B H Ex.rfl hs .nil k
theorem ea_cons {P : List En → Cells → Prop} (h : EvE B0 te env L fun e1 L1 => EvA B0 tas env L1 fun es L2 => P (e1 :: es) L2) : EvA B0 (tCons te tas) env L P := fun σ B H x0 he hs Q q =>
  h σ B H x0 he hs _ fun v1 e1 L1 B1 H1 y1 s1 k1 p1 => p1 σ B1 H1 (x0.trans y1) (he.mono y1) s1 _ fun v2 e2 L2 B2 H2 y2 s2 k2 p2 =>
    q (v1 :: v2) (e1 :: e2) L2 B2 H2 (y1.trans y2) s2 (.cons (k1.mono y2) k2) p2
theorem ee_if (h : EvT B0 tt env L fun b L1 => if b = true then EvE B0 ta env L1 P else EvE B0 tb env L1 P) : EvE B0 (tIf tt ta tb) env L P := fun σ B H x0 he hs Q q =>
  h σ B H x0 he hs _ fun b L1 B1 H1 y1 s1 p1 => by
    cases b with
    | true =>
      have p1 : EvE B0 ta env L1 P := p1
      exact p1 σ B1 H1 (x0.trans y1) (he.mono y1) s1 Q fun v e L' B' H' y3 => q v e L' B' H' (y1.trans y3)
    | false =>
      have p1 : EvE B0 tb env L1 P := p1
      exact p1 σ B1 H1 (x0.trans y1) (he.mono y1) s1 Q fun v e L' B' H' y3 => q v e L' B' H' (y1.trans y3)
/-! ### tests -/
theorem et_test {P : Bool → Cells → Prop} (h : EvE B0 te env L fun e L1 => ∃ b, e = .dat (.bool b) ∧ P b L1) : EvT B0 (tTest te) env L P := fun σ B H x0 he hs Q q =>
  h σ B H x0 he hs _ fun v e L1 B1 H1 y1 s1 k1 p1 => by
    obtain ⟨b, rfl, p⟩ := p1
    obtain ⟨x, e, r⟩ := k1
    cases e
    exact ⟨b, r.bl_v, q b L1 B1 H1 y1 s1 p⟩
theorem et_B {P : Bool → Cells → Prop} (h : EvE B0 te env L fun e L1 => ∃ b, e = .dat (.bool b) ∧ P b L1) : EvT B0 (tB te) env L P := et_test h
theorem et_and {P : Bool → Cells → Prop} (h : EvT B0 tt env L fun b L1 => if b = true then EvT B0 tu env L1 P else P false L1) : EvT B0 (tAnd tt tu) env L P := fun σ B H x0 he hs Q q =>
  h σ B H x0 he hs _ fun b L1 B1 H1 y1 s1 p1 => by
    cases b with
    | true =>
      have p1 : EvT B0 tu env L1 P := p1
      exact p1 σ B1 H1 (x0.trans y1) (he.mono y1) s1 Q fun e L' B' H' y3 => q e L' B' H' (y1.trans y3)
    | false => exact q false L1 B1 H1 y1 s1 p1
theorem et_or {P : Bool → Cells → Prop} (h : EvT B0 tt env L fun b L1 => if b = true then P true L1 else EvT B0 tu env L1 P) : EvT B0 (tOr tt tu) env L P := fun σ B H x0 he hs Q q =>
  h σ B H x0 he hs _ fun b L1 B1 H1 y1 s1 p1 => by
    cases b with
    | true => exact q true L1 B1 H1 y1 s1 p1
    | false =>
      have p1 : EvT B0 tu env L1 P := p1
      exact p1 σ B1 H1 (x0.trans y1) (he.mono y1) s1 Q fun e L' B' H' y3 => q e L' B' H' (y1.trans y3)
theorem et_not {P : Bool → Cells → Prop} (h : EvT B0 tt env L fun b L1 => P (!b) L1) : EvT B0 (tNot tt) env L P := fun σ B H x0 he hs Q q =>
  h σ B H x0 he hs _ fun b L1 B1 H1 y1 s1 p1 => q (!b) L1 B1 H1 y1 s1 p1
theorem ee_andV (h : EvE B0 ta env L fun e L1 => ∃ b, e = .dat (.bool b) ∧ if b = true then EvE B0 tb env L1 P else P (.dat (.bool false)) L1) : EvE B0 (tAndV ta tb) env L P := fun σ B H x0 he hs Q q =>
  h σ B H x0 he hs _ fun v e L1 B1 H1 y1 s1 k1 p1 => by
    obtain ⟨b, rfl, p⟩ := p1
    obtain ⟨x, e, r⟩ := k1
    cases e
    refine ⟨b, r.bl_v, ?_⟩
    cases b with
    | true =>
      have p : EvE B0 tb env L1 P := p
      exact p σ B1 H1 (x0.trans y1) (he.mono y1) s1 Q fun v e L' B' H' y3 => q v e L' B' H' (y1.trans y3)
    | false => exact q _ _ L1 B1 H1 y1 s1 (EnOk.d (.bl false)) p
theorem ee_orV (h : EvE B0 ta env L fun e L1 => ∃ b, e = .dat (.bool b) ∧ if b = true then P (.dat (.bool true)) L1 else EvE B0 tb env L1 P) : EvE B0 (tOrV ta tb) env L P := fun σ B H x0 he hs Q q =>
  h σ B H x0 he hs _ fun v e L1 B1 H1 y1 s1 k1 p1 => by
    obtain ⟨b, rfl, p⟩ := p1
    obtain ⟨x, e, r⟩ := k1
    cases e
    refine ⟨b, r.bl_v, ?_⟩
    cases b with
    | true => exact q _ _ L1 B1 H1 y1 s1 (EnOk.d (.bl true)) p
    | false =>
      have p : EvE B0 tb env L1 P := p
      exact p σ B1 H1 (x0.trans y1) (he.mono y1) s1 Q fun v e L' B' H' y3 => q v e L' B' H' (y1.trans y3)
theorem ee_notV (h : EvE B0 ta env L fun e L1 => ∃ b, e = .dat (.bool b) ∧ P (.dat (.bool (!b))) L1) : EvE B0 (tNotV ta) env L P := fun σ B H x0 he hs Q q =>
  h σ B H x0 he hs _ fun v e L1 B1 H1 y1 s1 k1 p1 => by
    obtain ⟨b, rfl, p⟩ := p1
    obtain ⟨x, e, r⟩ := k1
    cases e
    exact ⟨b, r.bl_v, q _ _ L1 B1 H1 y1 s1 (EnOk.d (.bl _)) p⟩
end

/-! ### operators by values -/
section
variable {B0 : Base} {L : Cells} {P : En → Cells → Prop} {a b : Int} {K : PySem.W.Frag}
/-- a value that is no object -/
def vd : V → PyData
  | .bl b => .bool b
  | .int i => .int i
  | .str x => .str x
  | _ => .none
def VD (v : V) (d : PyData) : Prop := ∀ B : Hp, Rp B v d
theorem VD.int {i : Int} : VD (.int i) (.int i) := fun _ => .int i
theorem VD.bl {i : Bool} : VD (.bl i) (.bool i) := fun _ => .bl i
theorem VD.str {i : Str} : VD (.str i) (.str i) := fun _ => .str i
theorem rv_I0 {g : Int → Int → V} {d : PyData} (hd : VD (g a b) d) (k : P (.dat d) L) : RV2 B0 (rI0 g) (.dat (.int a)) (.dat (.int b)) L P := fun B H x y hs hx hy Q q => by
  obtain ⟨_, e1, r1⟩ := hx
  obtain ⟨_, e2, r2⟩ := hy
  cases e1
  cases e2
  exact ⟨a, b, r1.int_v, r2.int_v, q _ _ L B H Ex.rfl hs (EnOk.d (hd B)) k⟩
theorem rv_I {C : Int → Int → Prop} {g : Int → Int → V} {d : PyData} (hc : C a b) (hd : VD (g a b) d) (k : P (.dat d) L) : RV2 B0 (rI C g) (.dat (.int a)) (.dat (.int b)) L P := fun B H x y hs hx hy Q q => by
  obtain ⟨_, e1, r1⟩ := hx
  obtain ⟨_, e2, r2⟩ := hy
  cases e1
  cases e2
  exact ⟨a, b, r1.int_v, r2.int_v, hc, q _ _ L B H Ex.rfl hs (EnOk.d (hd B)) k⟩
/-- scalars compared -/
theorem rv_eqs {d e : PyData} {x y : V} (hx : VD x d) (hy : VD y e) (ux : ∀ B v, Rp B v d → v = x) (uy : ∀ B v, Rp B v e → v = y) (hs : scal x y = true) (k : P (.dat (.bool (decide (x = y)))) L) : RV2 B0 rEq (.dat d) (.dat e) L P := fun B H x1 y1 st h1 h2 Q q => by
  obtain ⟨_, e1, r1⟩ := h1
  obtain ⟨_, e2, r2⟩ := h2
  cases e1
  cases e2
  cases ux B _ r1
  cases uy B _ r2
  exact ⟨hs, q _ _ L B H Ex.rfl st (EnOk.d (.bl _)) k⟩
theorem rv_eqI (k : P (.dat (.bool (decide (a = b)))) L) : RV2 B0 rEq (.dat (.int a)) (.dat (.int b)) L P := fun B H x y st h1 h2 Q q => by
  obtain ⟨_, e1, r1⟩ := h1
  obtain ⟨_, e2, r2⟩ := h2
  cases e1
  cases e2
  cases r1.int_v
  cases r2.int_v
  have e : decide (V.int a = V.int b) = decide (a = b) := by
    by_cases z : a = b
    · rw [decide_eq_true z, decide_eq_true (congrArg V.int z)]
    · rw [decide_eq_false z, decide_eq_false fun w => z (V.int.inj w)]
  exact ⟨rfl, q _ _ L B H Ex.rfl st (EnOk.d (by rw [e]; exact .bl _)) k⟩
theorem rv_neI (k : P (.dat (.bool (!decide (a = b)))) L) : RV2 B0 rNe (.dat (.int a)) (.dat (.int b)) L P := fun B H x y st h1 h2 Q q => by
  obtain ⟨_, e1, r1⟩ := h1
  obtain ⟨_, e2, r2⟩ := h2
  cases e1
  cases e2
  cases r1.int_v
  cases r2.int_v
  have e : decide (V.int a = V.int b) = decide (a = b) := by
    by_cases z : a = b
    · rw [decide_eq_true z, decide_eq_true (congrArg V.int z)]
    · rw [decide_eq_false z, decide_eq_false fun w => z (V.int.inj w)]
  exact ⟨rfl, q _ _ L B H Ex.rfl st (EnOk.d (by rw [e]; exact .bl _)) k⟩
theorem rv_eqS {s t : Str} (k : P (.dat (.bool (decide (s = t)))) L) : RV2 B0 rEq (.dat (.str s)) (.dat (.str t)) L P := fun B H x y st h1 h2 Q q => by
  obtain ⟨_, e1, r1⟩ := h1
  obtain ⟨_, e2, r2⟩ := h2
  cases e1
  cases e2
  cases r1.str_v
  cases r2.str_v
  have e : decide (V.str s = V.str t) = decide (s = t) := by
    by_cases z : s = t
    · rw [decide_eq_true z, decide_eq_true (congrArg V.str z)]
    · rw [decide_eq_false z, decide_eq_false fun w => z (V.str.inj w)]
  exact ⟨rfl, q _ _ L B H Ex.rfl st (EnOk.d (by rw [e]; exact .bl _)) k⟩
theorem rv_neS {s t : Str} (k : P (.dat (.bool (!decide (s = t)))) L) : RV2 B0 rNe (.dat (.str s)) (.dat (.str t)) L P := fun B H x y st h1 h2 Q q => by
  obtain ⟨_, e1, r1⟩ := h1
  obtain ⟨_, e2, r2⟩ := h2
  cases e1
  cases e2
  cases r1.str_v
  cases r2.str_v
  have e : decide (V.str s = V.str t) = decide (s = t) := by
    by_cases z : s = t
    · rw [decide_eq_true z, decide_eq_true (congrArg V.str z)]
    · rw [decide_eq_false z, decide_eq_false fun w => z (V.str.inj w)]
  exact ⟨rfl, q _ _ L B H Ex.rfl st (EnOk.d (by rw [e]; exact .bl _)) k⟩
/-- data compared, at any depth -/
theorem rv_eqD {d e : PyData} (h1 : SeqAt.shaped d = true) (h2 : SeqAt.shaped e = true) (k : P (.dat (.bool (PyData.eqv d e))) L) : RV2 B0 (rEqD K) (.dat d) (.dat e) L P := fun B H x y st hx hy Q q => by
  obtain ⟨_, e1, r1⟩ := hx
  obtain ⟨_, e2, r2⟩ := hy
  cases e1
  cases e2
  exact ⟨d, e, (r1.mono st.ex).dp K h1, (r2.mono st.ex).dp K h2, h1, h2, q _ _ L B H Ex.rfl st (EnOk.d (.bl _)) k⟩
theorem rv_neD {d e : PyData} (h1 : SeqAt.shaped d = true) (h2 : SeqAt.shaped e = true) (k : P (.dat (.bool (!PyData.eqv d e))) L) : RV2 B0 (rNeD K) (.dat d) (.dat e) L P := fun B H x y st hx hy Q q => by
  obtain ⟨_, e1, r1⟩ := hx
  obtain ⟨_, e2, r2⟩ := hy
  cases e1
  cases e2
  exact ⟨d, e, (r1.mono st.ex).dp K h1, (r2.mono st.ex).dp K h2, h1, h2, q _ _ L B H Ex.rfl st (EnOk.d (.bl _)) k⟩
theorem rv_ixL {ds : List PyData} {d : PyData} (h : L2.atI ds a = some d) (k : P (.dat d) L) : RV2 B0 (rIxL K) (.dat (.list ds)) (.dat (.int a)) L P := fun B H x y st hx hy Q q => by
  obtain ⟨_, e1, r1⟩ := hx
  obtain ⟨_, e2, r2⟩ := hy
  cases e1
  cases e2
  obtain ⟨p, xs, rfl, hp, rs⟩ := r1.lst_v
  obtain ⟨z, hz, rz⟩ := rs.atI h
  exact ⟨p, xs, a, z, rfl, r2.int_v, SqL.of (st.ex _ _ hp), hz, q z (.dat d) L B H Ex.rfl st (EnOk.d rz) k⟩
theorem rv_ixT {ds : List PyData} {d : PyData} (h : L2.atI ds a = some d) (k : P (.dat d) L) : RV2 B0 (rIxT K) (.dat (.tuple ds)) (.dat (.int a)) L P := fun B H x y st hx hy Q q => by
  obtain ⟨_, e1, r1⟩ := hx
  obtain ⟨_, e2, r2⟩ := hy
  cases e1
  cases e2
  obtain ⟨p, xs, rfl, hp, rs⟩ := r1.tup_v
  obtain ⟨z, hz, rz⟩ := rs.atI h
  exact ⟨p, xs, a, z, rfl, r2.int_v, SqT.of (st.ex _ _ hp), hz, q z (.dat d) L B H Ex.rfl st (EnOk.d rz) k⟩
theorem rv_ixS {s : Str} {c : Nat} (hl : s.length ≤ 100000) (h : L2.atI s.cps.toList a = some c) (k : P (.dat (.str ⟨#[c]⟩)) L) : RV2 B0 rIxS (.dat (.str s)) (.dat (.int a)) L P := fun B H x y st hx hy Q q => by
  obtain ⟨_, e1, r1⟩ := hx
  obtain ⟨_, e2, r2⟩ := hy
  cases e1
  cases e2
  exact ⟨s, a, c, r1.str_v, r2.int_v, Evl.sz_of hl, h, q _ _ L B H Ex.rfl st (EnOk.d (.str _)) k⟩
/-- an item of a list that one holds alone -/
theorem rv_ixC {p : Addr} {ds : List PyData} {d : PyData} (hp : L p = some (lstC ds)) (h : L2.atI ds a = some d) (k : P (.dat d) L) : RV2 B0 (rIxL K) (.val (.ref p)) (.dat (.int a)) L P := fun B H x y st hx hy Q q => by
  obtain ⟨_, e2, r2⟩ := hy
  cases e2
  have hx : some x = some (V.ref p) := hx
  cases hx
  obtain ⟨_, _, o, ho, xs, rfl, rs⟩ := st.cl p _ hp
  obtain ⟨z, hz, rz⟩ := rs.atI h
  exact ⟨p, xs, a, z, rfl, r2.int_v, SqL.of ho, hz, q z (.dat d) L B H Ex.rfl st (EnOk.d rz) k⟩
end

/-! ### displays -/
theorem dats_of {B : Hp} : ∀ {vs : List V} {ds : List PyData}, EnAll B vs (ds.map En.dat) → RpAll B vs ds
  | _, [], .nil => .nil
  | _, d :: ds, .cons h r => by
    obtain ⟨x, e, q⟩ := h
    cases e
    exact .cons q (dats_of r)
theorem of_dats {B : Hp} : ∀ {vs : List V} {ds : List PyData}, RpAll B vs ds → EnAll B vs (ds.map En.dat)
  | _, [], .nil => .nil
  | _, d :: ds, .cons h r => .cons ⟨_, rfl, h⟩ (of_dats r)
section
variable {B0 : Base} {env : List En} {L : Cells} {P : En → Cells → Prop} {tas : TA}
theorem ee_tup (h : EvA B0 tas env L fun es L1 => ∃ ds, es = ds.map En.dat ∧ ds.length ≤ 100000 ∧ P (.dat (.tuple ds)) L1) : EvE B0 (tTup tas) env L P := fun σ B H x0 he hs Q q =>
  h σ B H x0 he hs _ fun vs es L1 B1 H1 y1 s1 k1 p1 => by
    obtain ⟨ds, rfl, hl, p⟩ := p1
    have r := dats_of k1
    refine ⟨by rw [r.length]; exact Evl.sz_of hl, fun a ha => ?_⟩
    have e1 := s1.exD ha (o := .tup vs)
    exact q _ _ L1 _ _ (y1.trans e1) (s1.newD ha _) (EnOk.d (.tup upd_same (r.mono e1))) p
theorem ee_lst (h : EvA B0 tas env L fun es L1 => ∃ ds, es = ds.map En.dat ∧ ds.length ≤ 100000 ∧ P (.dat (.list ds)) L1) : EvE B0 (tLst tas) env L P := fun σ B H x0 he hs Q q =>
  h σ B H x0 he hs _ fun vs es L1 B1 H1 y1 s1 k1 p1 => by
    obtain ⟨ds, rfl, hl, p⟩ := p1
    have r := dats_of k1
    refine ⟨by rw [r.length]; exact Evl.sz_of hl, fun a ha => ?_⟩
    have e1 := s1.exD ha (o := .lst vs)
    exact q _ _ L1 _ _ (y1.trans e1) (s1.newD ha _) (EnOk.d (.lst upd_same (r.mono e1))) p
/-- a list that will be changed -/
theorem ee_lstC (h : EvA B0 tas env L fun es L1 => ∃ ds, es = ds.map En.dat ∧ ds.length ≤ 100000 ∧ ∀ a, L1 a = none → P (.val (.ref a)) (L1.put a (lstC ds))) : EvE B0 (tLst tas) env L P := fun σ B H x0 he hs Q q =>
  h σ B H x0 he hs _ fun vs es L1 B1 H1 y1 s1 k1 p1 => by
    obtain ⟨ds, rfl, hl, p⟩ := p1
    have r := dats_of k1
    refine ⟨by rw [r.length]; exact Evl.sz_of hl, fun a ha => ?_⟩
    exact q _ _ _ _ _ y1 (s1.newC ha (c := lstC ds) (show ∃ xs, HO.lst vs = .lst xs ∧ RpAll B1 xs ds from ⟨vs, rfl, r⟩)) EnOk.v (p a (s1.lnone ha))
end
end WS
/-! WS1: statements, loops, comprehensions, calls -/
namespace WS
open PySem L2

section
variable {B0 : Base} {te ta tb : TE} {tt : TT} {ts tu tw tz : TS} {wi : TI} {tas : TA} {env : List En} {L : Cells} {F F' : Ks} {i j : Nat} {d : PyData} {v : V} {K : PySem.W.Frag}
/-! ### statements -/
theorem SE.imp (h : SE B0 ts env L F) (n : ∀ e l, F.nx e l → F'.nx e l) (r : ∀ e l, F.rt e l → F'.rt e l) (b : ∀ e l, F.bk e l → F'.bk e l) (c : ∀ e l, F.ct e l → F'.ct e l) : SE B0 ts env L F' := fun D σ B H x1 x2 x3 qn qr qb qc =>
  h D σ B H x1 x2 x3 (fun e l σ' B' H' y => qn e l σ' B' H' (n e l y)) (fun e l v B' H' y => qr e l v B' H' (r e l y)) (fun e l σ' B' H' y => qb e l σ' B' H' (b e l y)) (fun e l σ' B' H' y => qc e l σ' B' H' (c e l y))
theorem se_next (k : F.nx env L) : SE B0 tNext env L F := fun D σ B H x1 x2 x3 qn _ _ _ => qn env L σ B H k Ex.rfl x2 x3
theorem se_break (k : F.bk env L) : SE B0 tBreak env L F := fun D σ B H x1 x2 x3 _ _ qb _ => qb env L σ B H k Ex.rfl x2 x3
theorem se_cont (k : F.ct env L) : SE B0 tCont env L F := fun D σ B H x1 x2 x3 _ _ _ qc => qc env L σ B H k Ex.rfl x2 x3
theorem se_seq (h : SE B0 ts env L { F with nx := fun e l => SE B0 tu e l F }) : SE B0 (tSeq ts tu) env L F := fun D σ B H x1 x2 x3 qn qr qb qc =>
  h { D with nx := tu D } σ B H x1 x2 x3
    (fun e l σ' B' H' y1 y2 y3 y4 => y1 D σ' B' H' (x1.trans y2) y3 y4 (fun e l σ' B' H' z1 z2 => qn e l σ' B' H' z1 (y2.trans z2)) (fun e l v B' H' z1 z2 => qr e l v B' H' z1 (y2.trans z2)) (fun e l σ' B' H' z1 z2 => qb e l σ' B' H' z1 (y2.trans z2)) (fun e l σ' B' H' z1 z2 => qc e l σ' B' H' z1 (y2.trans z2)))
    qr qb qc
theorem se_asg (h : EvE B0 te env L fun e l => F.nx (env.set i e) l) : SE B0 (tAsg te (gName i)) env L F := fun D σ B H x1 x2 x3 qn _ _ _ =>
  h σ B H x1 x2 x3 _ fun v e L' B' H' y1 y2 y3 y4 => qn _ L' _ B' H' y4 y1 ((x2.mono y1).set y3) y2
theorem se_ret (h : EvE B0 te env L F.rt) : SE B0 (tRet te) env L F := fun D σ B H x1 x2 x3 _ qr _ _ =>
  h σ B H x1 x2 x3 _ fun v e L' B' H' y1 y2 y3 y4 => qr e L' v B' H' y4 y1 y3 y2
theorem se_retN (h : F.rt (.dat .none) L) : SE B0 tRetN env L F := fun D σ B H x1 x2 x3 _ qr _ _ => qr _ L .non B H h Ex.rfl (EnOk.d .non) x3
theorem se_drop (h : EvE B0 te env L fun _ l => F.nx env l) : SE B0 (tDrop te) env L F := fun D σ B H x1 x2 x3 qn _ _ _ =>
  h σ B H x1 x2 x3 _ fun v e L' B' H' y1 y2 y3 y4 => qn env L' σ B' H' y4 y1 (x2.mono y1) y2
theorem se_if (h : EvT B0 tt env L fun b l => if b = true then SE B0 ts env l F else SE B0 tu env l F) : SE B0 (tIfS tt ts tu) env L F := fun D σ B H x1 x2 x3 qn qr qb qc =>
  h σ B H x1 x2 x3 _ fun b L1 B1 H1 y1 s1 p1 => by
    have go : ∀ t : TS, SE B0 t env L1 F → t D σ H1 := fun t p => p D σ B1 H1 (x1.trans y1) (x2.mono y1) s1 (fun e l σ' B' H' z1 z2 => qn e l σ' B' H' z1 (y1.trans z2)) (fun e l v B' H' z1 z2 => qr e l v B' H' z1 (y1.trans z2)) (fun e l σ' B' H' z1 z2 => qb e l σ' B' H' z1 (y1.trans z2)) (fun e l σ' B' H' z1 z2 => qc e l σ' B' H' z1 (y1.trans z2))
    cases b with
    | true => exact go _ p1
    | false => exact go _ p1
/-- forget slots, forget cells -/
theorem se_env {env' : List En} (h : SE B0 ts env' L F) (l : env'.length = env.length) (k : ∀ (i : Nat) (e : En), env'[i]? = some e → e = .unk ∨ env[i]? = some e) : SE B0 ts env L F := fun D σ B H x1 x2 x3 => h D σ B H x1 (x2.unk l k) x3
theorem se_weak {L' : Cells} (h : SE B0 ts env L' F) (w : Weak L L') : SE B0 ts env L F := fun D σ B H x1 x2 x3 => h D σ B H x1 x2 (x3.weak w)
/-- a list that one held alone becomes data -/
theorem se_freeze {p : Addr} {ds : List PyData} (hp : L p = some (lstC ds)) (hi : env[i]? = some (.val (.ref p))) (h : SE B0 ts (env.set i (.dat (.list ds))) (L.drop p) F) : SE B0 ts env L F := fun D σ B H x1 x2 x3 qn qr qb qc => by
  obtain ⟨o, ho, ⟨xs, rfl, rs⟩, b0, s⟩ := x3.freeze hp
  have e : Ex B (upd B p (.lst xs)) := Ex.new b0
  have hv := x2.val hi
  have x2' : EnvD (upd B p (.lst xs)) σ (env.set i (.dat (.list ds))) := by
    have q := (x2.mono e).set (i := i) (v := .ref p) (e := .dat (.list ds)) (EnOk.d (.lst upd_same (rs.mono e)))
    have z : σ.set i (some (.ref p)) = σ := by
      refine List.ext_getElem? fun j => ?_
      by_cases n : i = j
      · subst n
        rw [List.getElem?_set, if_pos rfl]
        split
        · exact hv.symm
        · rename_i l
          rw [List.getElem?_eq_none_iff.mpr (Nat.le_of_not_lt l)]
      · rw [List.getElem?_set_ne n]
    rw [z] at q
    exact q
  exact h D σ _ H (x1.trans e) x2' s (fun e' l σ' B' H' z1 z2 => qn e' l σ' B' H' z1 (e.trans z2)) (fun e' l v B' H' z1 z2 => qr e' l v B' H' z1 (e.trans z2)) (fun e' l σ' B' H' z1 z2 => qb e' l σ' B' H' z1 (e.trans z2)) (fun e' l σ' B' H' z1 z2 => qc e' l σ' B' H' z1 (e.trans z2))

/-- what a cell holds is told -/
theorem se_cell {p : Addr} {c : Cell} (hp : L p = some c) (k : ∀ B o, c.ok B o → ∃ c' : Cell, c'.ok B o ∧ SE B0 ts env (L.put p c') F) : SE B0 ts env L F := fun D σ B H x1 x2 x3 => by
  obtain ⟨b0, f0, o, ho, ko⟩ := x3.cl p c hp
  obtain ⟨c', kc, h⟩ := k B o ko
  refine h D σ B H x1 x2 ⟨x3.ex, fun a c2 e => ?_, x3.fr⟩
  by_cases n : a = p
  · subst n
    rw [put_same] at e
    cases e
    exact ⟨b0, f0, o, ho, kc⟩
  · rw [put_ne n] at e
    exact x3.cl a c2 e
/-! ### targets -/
def GE (B0 : Base) (g : TG) (e0 : En) (env : List En) (env' : List En) : Prop := ∀ (σ : L2.St) (B H : Hp) (L : Cells) (x : V), EnvD B σ env → Sta L B0.f B H → EnOk B (some x) e0 → ∀ Q : L2.St → Hp → Prop, (∀ σ', EnvD B σ' env' → Q σ' H) → g x σ H Q
theorem ge_name {e : En} : GE B0 (gName i) e env (env.set i e) := fun σ B H L x h1 h2 h3 Q q => q _ (h1.set h3)
theorem ge_tup2 {d1 d2 : PyData} : GE B0 (gTup K 2 (gCons (gName i) (gCons (gName j) gNil))) (.dat (.tuple [d1, d2])) env ((env.set i (.dat d1)).set j (.dat d2)) := fun σ B H L x h1 h2 h3 Q q => by
  obtain ⟨_, e, r⟩ := h3
  cases e
  obtain ⟨a, xs, rfl, ha, rs⟩ := r.tup_v
  cases rs with
  | cons r1 rs =>
    cases rs with
    | cons r2 rs =>
      cases rs
      exact ⟨a, _, rfl, SqT.of (h2.ex _ _ ha), rfl, _, _, rfl, _, _, rfl, rfl, q _ ((h1.set (EnOk.d r1)).set (EnOk.d r2))⟩
theorem ge_tup3 {k : Nat} {d1 d2 d3 : PyData} : GE B0 (gTup K 3 (gCons (gName i) (gCons (gName j) (gCons (gName k) gNil)))) (.dat (.tuple [d1, d2, d3])) env (((env.set i (.dat d1)).set j (.dat d2)).set k (.dat d3)) := fun σ B H L x h1 h2 h3 Q q => by
  obtain ⟨_, e, r⟩ := h3
  cases e
  obtain ⟨a, xs, rfl, ha, rs⟩ := r.tup_v
  cases rs with
  | cons r1 rs =>
    cases rs with
    | cons r2 rs =>
      cases rs with
      | cons r3 rs =>
        cases rs
        exact ⟨a, _, rfl, SqT.of (h2.ex _ _ ha), rfl, _, _, rfl, _, _, rfl, _, _, rfl, rfl, q _ (((h1.set (EnOk.d r1)).set (EnOk.d r2)).set (EnOk.d r3))⟩
theorem se_asgG {g : TG} (h : EvE B0 te env L fun e l => ∃ env', GE B0 g e env env' ∧ F.nx env' l) : SE B0 (tAsg te g) env L F := fun D σ B H x1 x2 x3 qn _ _ _ =>
  h σ B H x1 x2 x3 _ fun v e L' B' H' y1 y2 y3 ⟨env', hg, k⟩ => hg σ B' H' L' v (x2.mono y1) y2 y3 _ fun σ' s => qn _ L' _ B' H' k y1 s y2
/-- x[i] = e of a list that one holds alone -/
theorem se_setC {p : Addr} {ds : List PyData} (h : EvE B0 te env L fun e1 l1 => EvE B0 ta env l1 fun e2 l2 => EvE B0 tb env l2 fun e3 l3 => ∃ p ds k j d, e1 = .dat d ∧ e2 = .val (.ref p) ∧ l3 p = some (lstC ds) ∧ e3 = .dat (.int k) ∧ ixN ds.length k = some j ∧ F.nx env (l3.put p (lstC (ds.set j d)))) :
    SE B0 (tAsg te (gSub ta tb rSetL)) env L F := fun D σ B H x1 x2 x3 qn _ _ _ =>
  h σ B H x1 x2 x3 _ fun v1 e1 L1 B1 H1 y1 s1 k1 p1 => p1 σ B1 H1 (x1.trans y1) (x2.mono y1) s1 _ fun v2 e2 L2 B2 H2 y2 s2 k2 p2 =>
    p2 σ B2 H2 ((x1.trans y1).trans y2) ((x2.mono y1).mono y2) s2 _ fun v3 e3 L3 B3 H3 y3 s3 k3 p3 => by
      obtain ⟨p, ds, k, j, d, rfl, rfl, hp, rfl, hj, q⟩ := p3
      have k2 : some v2 = some (V.ref p) := k2
      cases k2
      obtain ⟨_, e, r3⟩ := k3
      cases e
      obtain ⟨_, e, r1⟩ := k1
      cases e
      obtain ⟨_, _, o, ho, xs, rfl, rs⟩ := s3.cl p _ hp
      have y := (y1.trans y2).trans y3
      refine ⟨p, xs, k, j, rfl, r3.int_v, ho, by rw [rs.length]; exact hj, ?_⟩
      exact qn _ _ σ B3 _ q y (x2.mono y) (s3.setC hp (c := lstC (ds.set j d)) (show ∃ ys, HO.lst (xs.set j v1) = .lst ys ∧ RpAll B3 ys (ds.set j d) from ⟨_, rfl, rs.set j (r1.mono (y2.trans y3))⟩))


/-! ### walks -/
/-- the iterator gives these data, one behind another -/
def Walks (J : It) (ds : List PyData) (B1 : Hp) : Prop :=
  ∀ (Fr : Cells) i l B' H', Ex B1 B' → Sta l Fr B' H' → (ds.length ≤ i → J.stop i H') ∧ (∀ d, ds[i]? = some d → J.go i H' ∧ ∀ x H'', J.yld i H' x H'' → ∃ B'', Ex B' B'' ∧ Sta l Fr B'' H'' ∧ Rp B'' x d)
def EvI (B0 : Base) (wi : TI) (env : List En) (L : Cells) (P : List PyData → Cells → Prop) : Prop :=
  ∀ (σ : L2.St) (B H : Hp), Ex B0.b B → EnvD B σ env → Sta L B0.f B H → ∀ R : It → Hp → Prop, (∀ J ds B1 H1 L1, Ex B B1 → Sta L1 B0.f B1 H1 → Walks J ds B1 → P ds L1 → R J H1) → wi σ H R
theorem ei_list {P : List PyData → Cells → Prop} (h : EvE B0 te env L fun e l => ∃ ds, e = .dat (.list ds) ∧ P ds l) : EvI B0 (iList K te) env L P := fun σ B H x1 x2 x3 R q =>
  h σ B H x1 x2 x3 _ fun v e L1 B1 H1 y1 s1 k1 p1 => by
    obtain ⟨ds, rfl, p⟩ := p1
    obtain ⟨_, e, r⟩ := k1
    cases e
    obtain ⟨a, xs, rfl, ha, rs⟩ := r.lst_v
    refine ⟨a, rfl, ⟨xs, SqL.of (s1.ex _ _ ha)⟩, q _ ds B1 H1 L1 y1 s1 (fun Fr i l B' H' y2 s2 => ?_) p⟩
    have hq : SqL K H' a xs := SqL.of (s2.ex _ _ (y2 _ _ ha))
    refine ⟨fun hi => ⟨xs, hq, by rw [rs.length]; exact hi⟩, fun d hd => ?_⟩
    obtain ⟨x, hx, rx⟩ := rs.getD hd
    refine ⟨⟨xs, x, hq, hx⟩, fun y H'' hy => ?_⟩
    obtain ⟨rfl, hy⟩ := hy
    have e := hy xs hq
    rw [hx] at e
    cases e
    exact ⟨B', Ex.rfl, s2, rx.mono y2⟩
theorem ei_tup {P : List PyData → Cells → Prop} (h : EvE B0 te env L fun e l => ∃ ds, e = .dat (.tuple ds) ∧ P ds l) : EvI B0 (iTup K te) env L P := fun σ B H x1 x2 x3 R q =>
  h σ B H x1 x2 x3 _ fun v e L1 B1 H1 y1 s1 k1 p1 => by
    obtain ⟨ds, rfl, p⟩ := p1
    obtain ⟨_, e, r⟩ := k1
    cases e
    obtain ⟨a, xs, rfl, ha, rs⟩ := r.tup_v
    refine ⟨a, rfl, ⟨xs, SqT.of (s1.ex _ _ ha)⟩, q _ ds B1 H1 L1 y1 s1 (fun Fr i l B' H' y2 s2 => ?_) p⟩
    have hq : SqT K H' a xs := SqT.of (s2.ex _ _ (y2 _ _ ha))
    refine ⟨fun hi => ⟨xs, hq, by rw [rs.length]; exact hi⟩, fun d hd => ?_⟩
    obtain ⟨x, hx, rx⟩ := rs.getD hd
    refine ⟨⟨xs, x, hq, hx⟩, fun y H'' hy => ?_⟩
    obtain ⟨rfl, hy⟩ := hy
    have e := hy xs hq
    rw [hx] at e
    cases e
    exact ⟨B', Ex.rfl, s2, rx.mono y2⟩
/-- lo, lo + 1, .. (n of them) -/
def rngD (lo : Int) (n : Nat) : List PyData := (List.range n).map fun (i : Nat) => .int (lo + (i : Int))
theorem rngD_length {lo : Int} {n : Nat} : (rngD lo n).length = n := by simp [rngD]
theorem rngD_get {lo : Int} {n i : Nat} {d : PyData} (h : (rngD lo n)[i]? = some d) : i < n ∧ d = .int (lo + (i : Int)) := by
  unfold rngD at h
  rw [List.getElem?_map] at h
  by_cases l : i < n
  · rw [List.getElem?_range l] at h
    exact ⟨l, (Option.some.inj h).symm⟩
  · rw [List.getElem?_eq_none_iff.mpr (by simpa using l)] at h
    cases h
theorem walks_rng {lo : Int} {n : Nat} {B : Hp} : Walks (Itr lo n) (rngD lo n) B := fun Fr i l B' H' y s => by
  refine ⟨fun h => by rw [rngD_length] at h; exact h, fun d hd => ?_⟩
  obtain ⟨l, rfl⟩ := rngD_get hd
  refine ⟨l, fun x H'' hx => ?_⟩
  obtain ⟨rfl, rfl⟩ := hx
  exact ⟨B', Ex.rfl, s, .int _⟩
theorem ei_rng1 {P : List PyData → Cells → Prop} (h : EvA B0 tas env L fun es l => ∃ j : Int, es = [.dat (.int j)] ∧ -100000 ≤ j ∧ j ≤ 100000 ∧ P (rngD 0 j.toNat) l) : EvI B0 (iRng1 tas) env L P := fun σ B H x1 x2 x3 R q =>
  h σ B H x1 x2 x3 _ fun vs es L1 B1 H1 y1 s1 k1 p1 => by
    obtain ⟨j, rfl, h1, h2, p⟩ := p1
    cases k1 with
    | cons k k1 =>
      cases k1
      obtain ⟨_, e, r⟩ := k
      cases e
      cases r.int_v
      exact ⟨j, rfl, by omega, by omega, q _ _ B1 H1 L1 y1 s1 walks_rng p⟩
theorem ei_rng2 {P : List PyData → Cells → Prop} (h : EvA B0 tas env L fun es l => ∃ i j : Int, es = [.dat (.int i), .dat (.int j)] ∧ -100000 ≤ i ∧ i ≤ 100000 ∧ -100000 ≤ j ∧ j ≤ 100000 ∧ P (rngD i (j - i).toNat) l) : EvI B0 (iRng2 tas) env L P := fun σ B H x1 x2 x3 R q =>
  h σ B H x1 x2 x3 _ fun vs es L1 B1 H1 y1 s1 k1 p1 => by
    obtain ⟨i, j, rfl, h1, h2, h3, h4, p⟩ := p1
    cases k1 with
    | cons k k1 =>
      cases k1 with
      | cons k' k1 =>
        cases k1
        obtain ⟨_, e, r⟩ := k
        cases e
        cases r.int_v
        obtain ⟨_, e, r⟩ := k'
        cases e
        cases r.int_v
        exact ⟨i, j, rfl, ⟨by omega, by omega, by omega, by omega⟩, q _ _ B1 H1 L1 y1 s1 walks_rng p⟩
/-- a text's signs -/
def sgnD (s : Str) : List PyData := s.cps.toList.map fun c => .str ⟨#[c]⟩
theorem ei_str {P : List PyData → Cells → Prop} (h : EvE B0 te env L fun e l => ∃ s, e = .dat (.str s) ∧ P (sgnD s) l) : EvI B0 (iStr te) env L P := fun σ B H x1 x2 x3 R q =>
  h σ B H x1 x2 x3 _ fun v e L1 B1 H1 y1 s1 k1 p1 => by
    obtain ⟨s, rfl, p⟩ := p1
    obtain ⟨_, e, r⟩ := k1
    cases e
    refine ⟨s, r.str_v, q _ _ B1 H1 L1 y1 s1 (fun Fr i l B' H' y2 s2 => ?_) p⟩
    refine ⟨fun hi => ?_, fun d hd => ?_⟩
    · show s.cps.size ≤ i
      unfold sgnD at hi
      rw [List.length_map, Array.length_toList] at hi
      exact hi
    · unfold sgnD at hd
      rw [List.getElem?_map] at hd
      cases z : s.cps.toList[i]? with
      | none => rw [z] at hd; cases hd
      | some c =>
        rw [z] at hd
        cases hd
        have lt : i < s.cps.size := by
          have := (List.getElem?_eq_some_iff.mp z).1
          rw [Array.length_toList] at this
          exact this
        refine ⟨lt, fun x H'' hx => ?_⟩
        obtain ⟨rfl, c', hc, rfl⟩ := hx
        have e : c' = c := by
          rw [Array.getElem?_toList] at z
          rw [z] at hc
          exact (Option.some.inj hc).symm
        subst e
        exact ⟨B', Ex.rfl, s2, .str _⟩

theorem se_for {g : TG} (h : EvI B0 wi env L fun ds l => ∃ I : Nat → List En → Cells → Prop, I 0 env l ∧
    (∀ i d e l, ds[i]? = some d → I i e l → ∃ e', GE B0 g (.dat d) e e' ∧ SE B0 ts e' l { F with nx := I (i + 1), ct := I (i + 1), bk := F.nx }) ∧ (∀ e l, I ds.length e l → F.nx e l)) : SE B0 (tFor wi g ts) env L F := fun D σ B H x1 x2 x3 qn qr qb qc =>
  h σ B H x1 x2 x3 _ fun J ds B1 H1 L1 y1 s1 hw ⟨I, i0, hs, hd⟩ => by
  refine ⟨fun i m σ' H' => m = ds.length - i ∧ i ≤ ds.length ∧ ∃ e l B', I i e l ∧ Ex B1 B' ∧ EnvD B' σ' e ∧ Sta l B0.f B' H', ⟨ds.length, by simp, Nat.zero_le _, env, L1, B1, i0, Ex.rfl, x2.mono y1, s1⟩, ?_⟩
  rintro i m σ' H' ⟨rfl, hi, e, l, B', hI, y2, xe, s2⟩
  have y := y1.trans y2
  obtain ⟨hstop, hgo⟩ := hw B0.f i l B' H' y2 s2
  by_cases z : i = ds.length
  · subst z
    exact .inl ⟨hstop (Nat.le_refl _), qn e l σ' B' H' (hd e l hI) y xe s2⟩
  · have hlt : i < ds.length := Nat.lt_of_le_of_ne hi z
    have hd1 : ds[i]? = some ds[i] := List.getElem?_eq_getElem hlt
    obtain ⟨hg1, hy⟩ := hgo _ hd1
    refine .inr ⟨hg1, fun σ2 H2 => ∃ e l B', I (i + 1) e l ∧ Ex B1 B' ∧ EnvD B' σ2 e ∧ Sta l B0.f B' H2, fun σ2 H2 p => ⟨ds.length - (i + 1), by omega, rfl, hlt, p⟩, fun x H'' hx => ?_⟩
    obtain ⟨B2, y3, s3, rx⟩ := hy x H'' hx
    obtain ⟨e', hg, hb⟩ := hs i _ e l hd1 hI
    refine hg σ' B2 H'' l x (xe.mono y3) s3 (EnOk.d rx) _ fun σ2 xe2 => ?_
    refine hb _ σ2 B2 H'' (x1.trans (y.trans y3)) xe2 s3 ?_ ?_ ?_ ?_
    · intro e2 l2 σ3 B3 H3 z1 z2 z3 z4
      exact ⟨e2, l2, B3, z1, y2.trans (y3.trans z2), z3, z4⟩
    · intro e2 l2 v B3 H3 z1 z2
      exact qr e2 l2 v B3 H3 z1 ((y.trans y3).trans z2)
    · intro e2 l2 σ3 B3 H3 z1 z2
      exact qn e2 l2 σ3 B3 H3 z1 ((y.trans y3).trans z2)
    · intro e2 l2 σ3 B3 H3 z1 z2 z3 z4
      exact ⟨e2, l2, B3, z1, y2.trans (y3.trans z2), z3, z4⟩
/-- while: W by a measure -/
theorem se_while (W : Nat → List En → Cells → Prop) (m0 : Nat) (h0 : W m0 env L)
    (hs : ∀ m e l, W m e l → EvT B0 tt e l fun b l1 => if b = true then SE B0 ts e l1 { F with nx := fun e' l' => ∃ m', m' < m ∧ W m' e' l', ct := fun e' l' => ∃ m', m' < m ∧ W m' e' l', bk := F.nx } else F.nx e l1) : SE B0 (tWhile tt ts) env L F := fun D σ B H x1 x2 x3 qn qr qb qc => by
  refine ⟨fun m σ' H' => ∃ e l B', W m e l ∧ Ex B B' ∧ EnvD B' σ' e ∧ Sta l B0.f B' H', ⟨m0, env, L, B, h0, Ex.rfl, x2, x3⟩, ?_⟩
  rintro m σ' H' ⟨e, l, B', hW, y, xe, s2⟩
  refine hs m e l hW σ' B' H' (x1.trans y) xe s2 _ fun b L1 B1 H1 y1 s1 p1 => ?_
  have yy := y.trans y1
  cases b with
  | true =>
    refine ⟨fun σ2 H2 => ∃ m', m' < m ∧ ∃ e l B', W m' e l ∧ Ex B B' ∧ EnvD B' σ2 e ∧ Sta l B0.f B' H2, fun σ2 H2 ⟨m', lt, p⟩ => ⟨m', lt, p⟩, ?_⟩
    have p1 : SE B0 ts e L1 _ := p1
    refine p1 _ σ' B1 H1 (x1.trans yy) (xe.mono y1) s1 ?_ ?_ ?_ ?_
    · rintro e2 l2 σ3 B3 H3 ⟨m', lt, z1⟩ z2 z3 z4
      exact ⟨m', lt, e2, l2, B3, z1, yy.trans z2, z3, z4⟩
    · intro e2 l2 v B3 H3 z1 z2
      exact qr e2 l2 v B3 H3 z1 (yy.trans z2)
    · intro e2 l2 σ3 B3 H3 z1 z2
      exact qn e2 l2 σ3 B3 H3 z1 (yy.trans z2)
    · rintro e2 l2 σ3 B3 H3 ⟨m', lt, z1⟩ z2 z3 z4
      exact ⟨m', lt, e2, l2, B3, z1, yy.trans z2, z3, z4⟩
  | false => exact qn e L1 σ' B1 H1 p1 yy (xe.mono y1) s1
end
end WS
/-! WS2: comprehensions, calls of defs, built-ins by values -/
namespace WS
open PySem L2

section
variable {B0 : Base} {te ta tb : TE} {tt : TT} {ts tu tw tz : TS} {wi : TI} {tas : TA} {env : List En} {L : Cells} {F F' : Ks} {i j : Nat} {d : PyData} {v : V} {K : PySem.W.Frag}
/-! ### comprehensions -/
def wipeE (env : List En) : List Nat → List En
  | [] => env
  | v :: vs => (wipeE env vs).set v .unk
theorem EnvD.wipe {B : Hp} {σ : L2.St} {env : List En} (h : EnvD B σ env) : ∀ vs : List Nat, EnvD B (wipe σ vs) (wipeE env vs)
  | [] => h
  | v :: vs => by
    have q := EnvD.wipe h vs
    refine ⟨by unfold L2.wipe wipeE; rw [List.length_set, List.length_set]; exact q.len, fun i e z => ?_⟩
    unfold wipeE at z
    unfold L2.wipe
    by_cases n : v = i
    · subst n
      rw [List.getElem?_set, if_pos rfl] at z
      split at z
      · cases z
        trivial
      · cases z
    · rw [List.getElem?_set_ne n] at z ⊢
      exact q.at_ i e z
/-- the target of a comprehension's clause -/
def GW (g : TG) (vs : List Nat) (d : PyData) (env env' : List En) : Prop := ∀ (Fr : Cells) (σ : L2.St) (B H : Hp) (L : Cells) (x : V), EnvD B σ env → Sta L Fr B H → Rp B x d → ∀ Q : L2.St → Hp → Prop, (∀ σ', EnvD B σ' env' → wipe σ' vs = wipe σ vs → Q σ' H) → g x (wipe σ vs) H Q
theorem set_set_none {α : Type} (σ : List (Option α)) (j : Nat) (x : Option α) : ((σ.set j none).set j x).set j none = σ.set j none := by
  rw [List.set_set, List.set_set]
theorem gw_name : GW (gName i) [i] d env ((wipeE env [i]).set i (.dat d)) := fun Fr σ B H L x h1 h2 h3 Q q => by
  refine q _ ((h1.wipe [i]).set (EnOk.d h3)) ?_
  show ((σ.set i none).set i (some x)).set i none = σ.set i none
  exact set_set_none σ i (some x)
theorem set2_none {σ : L2.St} {i j : Nat} {x y : Option V} (n : i ≠ j) : ((((σ.set j none).set i none).set i x).set j y |>.set j none).set i none = (σ.set j none).set i none := by
  refine List.ext_getElem? fun k => ?_
  simp only [List.getElem?_set, List.length_set]
  by_cases a : i = k <;> by_cases b : j = k <;> simp [a, b]
theorem gw_tup2 {d1 d2 : PyData} (n : i ≠ j) : GW (gTup K 2 (gCons (gName i) (gCons (gName j) gNil))) [i, j] (.tuple [d1, d2]) env (((wipeE env [i, j]).set i (.dat d1)).set j (.dat d2)) := fun Fr σ B H L x h1 h2 r Q q => by
  obtain ⟨a, xs, rfl, ha, rs⟩ := r.tup_v
  cases rs with
  | cons r1 rs =>
    cases rs with
    | cons r2 rs =>
      cases rs
      refine ⟨a, _, rfl, SqT.of (h2.ex _ _ ha), rfl, _, _, rfl, _, _, rfl, rfl, q _ (((h1.wipe [i, j]).set (EnOk.d r1)).set (EnOk.d r2)) ?_⟩
      exact set2_none n
theorem put_comm {L : Cells} {a b : Addr} {c c' : Cell} (n : a ≠ b) : (L.put a c).put b c' = (L.put b c').put a c := by
  funext x
  unfold Cells.put
  by_cases h1 : x = a
  · by_cases h2 : x = b
    · exact absurd (h1.symm.trans h2) n
    · rw [if_neg h2, if_pos h1, if_pos h1]
  · by_cases h2 : x = b
    · rw [if_pos h2, if_neg h1, if_pos h2]
    · rw [if_neg h2, if_neg h1, if_neg h1, if_neg h2]
theorem ee_lc {g : TG} {vs : List Nat} {P : En → Cells → Prop} (h : EvI B0 wi env L fun ds l => ds.length ≤ 100000 ∧ ∃ I : Nat → List PyData → Cells → Prop, I 0 [] l ∧
    (∀ (f : Cells) i d acc l, ds[i]? = some d → I i acc l → ∃ e', GW g vs d env e' ∧ EvT ⟨B0.b, f⟩ tt e' l fun b l1 => if b = true then EvE ⟨B0.b, f⟩ te e' l1 fun e2 l2 => ∃ d2, e2 = .dat d2 ∧ I (i + 1) (acc ++ [d2]) l2 else I (i + 1) acc l1) ∧
    (∀ acc l, I ds.length acc l → P (.dat (.list acc)) l)) : EvE B0 (tLc wi g tt te vs) env L P := fun σ B H x1 x2 x3 Q q =>
  h σ B H x1 x2 x3 _ fun J ds B1 H1 L1 y1 s1 hw ⟨hz, I, i0, hs, hd⟩ => by
  intro D hD
  have fD := s1.fnone hD
  refine ⟨fun i m H' => m = ds.length - i ∧ i ≤ ds.length ∧ ∃ acc l B', acc.length ≤ i ∧ I i acc l ∧ l D = none ∧ Ex B1 B' ∧ Sta (l.put D (lstC acc)) B0.f B' H', ⟨ds.length, by simp, Nat.zero_le _, [], L1, B1, by simp, i0, s1.lnone hD, Ex.rfl, s1.newC hD (c := lstC []) (show ∃ xs, HO.lst [] = .lst xs ∧ RpAll B1 xs [] from ⟨[], rfl, .nil⟩)⟩, ?_⟩
  rintro i m H' ⟨rfl, hi, acc, l, B', hacc, hI, lD, y2, s2⟩
  have y := y1.trans y2
  have s2' := s2.hide lD
  obtain ⟨hstop, hgo⟩ := hw _ i l B' H' y2 s2'
  by_cases z : i = ds.length
  · subst z
    refine .inl ⟨hstop (Nat.le_refl _), ?_⟩
    obtain ⟨o, ho, ⟨xs, rfl, rs⟩, b0, s4⟩ := s2.freeze (p := D) put_same
    have e : Ex B' (upd B' D (.lst xs)) := Ex.new b0
    have dp : (fun a => if a = D then none else (l.put D (lstC acc)) a) = l := drop_put lD
    rw [dp] at s4
    exact q (.ref D) _ l _ H' (y.trans e) s4 (EnOk.d (.lst upd_same (rs.mono e))) (hd acc l hI)
  · have hlt : i < ds.length := Nat.lt_of_le_of_ne hi z
    have hd1 : ds[i]? = some ds[i] := List.getElem?_eq_getElem hlt
    obtain ⟨hg1, hy⟩ := hgo _ hd1
    refine .inr ⟨hg1, fun H2 => ∃ acc l B', acc.length ≤ i + 1 ∧ I (i + 1) acc l ∧ l D = none ∧ Ex B1 B' ∧ Sta (l.put D (lstC acc)) B0.f B' H2, fun H2 p => ⟨ds.length - (i + 1), by omega, rfl, hlt, p⟩, fun x H'' hx => ?_⟩
    obtain ⟨B2, y3, s3, rx⟩ := hy x H'' hx
    obtain ⟨e', hg, ht⟩ := hs (B0.f.put D (lstC acc)) i _ acc l hd1 hI
    refine hg _ σ B2 H'' l x ((x2.mono y).mono y3) s3 rx _ fun σ2 xe2 hwp => ⟨hwp, ?_⟩
    refine ht σ2 B2 H'' (x1.trans (y.trans y3)) xe2 s3 _ fun b l1 B3 H3 y4 s4 p4 => ?_
    cases b with
    | true =>
      have p4 : EvE ⟨B0.b, B0.f.put D (lstC acc)⟩ te e' l1 fun e2 l2 => ∃ d2, e2 = .dat d2 ∧ I (i + 1) (acc ++ [d2]) l2 := p4
      refine p4 σ2 B3 H3 (x1.trans (y.trans (y3.trans y4))) (xe2.mono y4) s4 _ fun v2 e2 l2 B4 H4 y5 s5 k5 p5 => ?_
      obtain ⟨d2, rfl, hI2⟩ := p5
      obtain ⟨_, e, r5⟩ := k5
      cases e
      have s5 : Sta l2 (B0.f.put D (lstC acc)) B4 H4 := s5
      have lD2 : l2 D = none := by
        cases q : l2 D with
        | none => rfl
        | some c =>
          obtain ⟨_, w, _⟩ := s5.cl D c q
          rw [put_same] at w
          cases w
      have s6 := s5.show fD
      obtain ⟨_, _, o, ho, xs, rfl, rs⟩ := s6.cl D _ put_same
      refine ⟨xs, ho, Evl.sz_lt (by have := rs.length; omega), acc ++ [d2], l2, B4, by rw [List.length_append]; simp; omega, hI2, lD2, y2.trans (y3.trans (y4.trans y5)), ?_⟩
      have s7 := s6.setC (p := D) put_same (c := lstC (acc ++ [d2])) (o := .lst (xs ++ [v2])) ⟨_, rfl, rs.append (.cons r5 .nil)⟩
      rw [put_put] at s7
      exact s7
    | false =>
      have p4 : I (i + 1) acc l1 := p4
      have s4 : Sta l1 (B0.f.put D (lstC acc)) B3 H3 := s4
      have lD2 : l1 D = none := by
        cases q : l1 D with
        | none => rfl
        | some c =>
          obtain ⟨_, w, _⟩ := s4.cl D c q
          rw [put_same] at w
          cases w
      exact ⟨acc, l1, B3, by omega, p4, lD2, y2.trans (y3.trans y4), s4.show fD⟩
theorem et_yes {P : Bool → Cells → Prop} (k : P true L) : EvT B0 tYes env L P := fun σ B H x1 x2 x3 Q q => q true L B H Ex.rfl x3 k
/-- each item's value is told by a function -/
theorem ee_lcF {g : TG} {vs : List Nat} {P : En → Cells → Prop} {f : PyData → PyData} (h : EvI B0 wi env L fun ds l => ds.length ≤ 100000 ∧ (∀ (fr : Cells) d, d ∈ ds → ∃ e', GW g vs d env e' ∧ EvE ⟨B0.b, fr⟩ te e' l fun e2 l2 => e2 = .dat (f d) ∧ l2 = l) ∧ P (.dat (.list (ds.map f))) l) : EvE B0 (tLc wi g tYes te vs) env L P :=
  ee_lc fun σ B H x1 x2 x3 R q => h σ B H x1 x2 x3 R fun J ds B1 H1 L1 y1 s1 hw ⟨hz, hs, hp⟩ => q J ds B1 H1 L1 y1 s1 hw ⟨hz, fun i acc l => acc = (ds.take i).map f ∧ l = L1, ⟨by simp, rfl⟩, fun fr i d acc l hi ⟨ha, hl⟩ => by
    subst hl
    obtain ⟨e', hg, he⟩ := hs fr d (List.mem_of_getElem? hi)
    refine ⟨e', hg, et_yes ?_⟩
    show EvE ⟨B0.b, fr⟩ te e' l _
    refine he.imp fun e2 l2 ⟨z1, z2⟩ => ⟨f d, z1, ?_, z2⟩
    rw [ha, List.take_succ, hi, List.map_append]
    rfl, fun acc l ⟨ha, hl⟩ => by
    rw [ha, hl, List.take_length]
    exact hp⟩
/-- .. with a test -/
theorem ee_lcP {g : TG} {vs : List Nat} {P : En → Cells → Prop} {p : PyData → Bool} {f : PyData → PyData} (h : EvI B0 wi env L fun ds l => ds.length ≤ 100000 ∧ (∀ (fr : Cells) d, d ∈ ds → ∃ e', GW g vs d env e' ∧ EvT ⟨B0.b, fr⟩ tt e' l (fun b l2 => b = p d ∧ l2 = l) ∧ (p d = true → EvE ⟨B0.b, fr⟩ te e' l fun e2 l2 => e2 = .dat (f d) ∧ l2 = l)) ∧ P (.dat (.list ((ds.filter p).map f))) l) : EvE B0 (tLc wi g tt te vs) env L P :=
  ee_lc fun σ B H x1 x2 x3 R q => h σ B H x1 x2 x3 R fun J ds B1 H1 L1 y1 s1 hw ⟨hz, hs, hp⟩ => q J ds B1 H1 L1 y1 s1 hw ⟨hz, fun i acc l => acc = ((ds.take i).filter p).map f ∧ l = L1, ⟨by simp, rfl⟩, fun fr i d acc l hi ⟨ha, hl⟩ => by
    subst hl
    obtain ⟨e', hg, ht, he⟩ := hs fr d (List.mem_of_getElem? hi)
    refine ⟨e', hg, ht.imp fun b l2 ⟨z1, z2⟩ => ?_⟩
    subst z1 z2
    have tk : ds.take (i + 1) = ds.take i ++ [d] := by
      rw [List.take_succ, hi]
      rfl
    cases z : p d with
    | true =>
      show EvE ⟨B0.b, fr⟩ te e' l2 _
      refine (he z).imp fun e2 l3 ⟨z1, z2⟩ => ⟨f d, z1, ?_, z2⟩
      rw [ha, tk, List.filter_append, List.map_append, List.filter_cons, if_pos z]
      rfl
    | false =>
      show acc = ((ds.take (i + 1)).filter p).map f ∧ l2 = l2
      refine ⟨?_, rfl⟩
      rw [ha, tk, List.filter_append, List.map_append, List.filter_cons, if_neg (by rw [z]; decide)]
      simp, fun acc l ⟨ha, hl⟩ => by
    rw [ha, hl, List.take_length]
    exact hp⟩

/-! ### promises -/
/-- what a call does: arguments, cells, what is wanted behind it, of what may be raised -/
abbrev Ct := List En → Cells → (En → Cells → Prop) → (Value → Cells → Prop) → Prop
def spOf (C : Ct) : Sp := fun vs H Q E => ∃ (es : List En) (L Fr : Cells) (B : Hp) (P : En → Cells → Prop) (X : Value → Cells → Prop), Sta L Fr B H ∧ EnAll B vs es ∧ C es L P X ∧
  (∀ v e L' B' H', Ex B B' → Sta L' Fr B' H' → EnOk B' (some v) e → P e L' → Q v H') ∧ (∀ cls L' B' H', Ex B B' → Sta L' Fr B' H' → X cls L' → E cls none H')
theorem ee_call {C : Ct} {P : En → Cells → Prop} {E : XK} (h : EvA B0 tas env L fun es l => C es l P fun _ _ => False) : EvE B0 (tCall (spOf C) [] E tas) env L P := fun σ B H x1 x2 x3 Q q =>
  h σ B H x1 x2 x3 _ fun vs es L1 B1 H1 y1 s1 k1 p1 => by
    refine ⟨es, L1, B0.f, B1, P, fun _ _ => False, s1, ?_, p1, fun v e L' B' H' y2 => q v e L' B' H' (y1.trans y2), fun _ _ _ _ _ _ z => z.elim⟩
    rw [List.append_nil]
    exact k1
/-- .. of a def that may raise, out of the caller -/
theorem ee_callX {C : Ct} {P : En → Cells → Prop} {X : Value → Cells → Prop} {E : XK} (hE : ∀ cls L' B' H', Ex B0.b B' → Sta L' B0.f B' H' → X cls L' → E cls none H') (h : EvA B0 tas env L fun es l => C es l P X) : EvE B0 (tCall (spOf C) [] E tas) env L P := fun σ B H x1 x2 x3 Q q =>
  h σ B H x1 x2 x3 _ fun vs es L1 B1 H1 y1 s1 k1 p1 => by
    refine ⟨es, L1, B0.f, B1, P, X, s1, ?_, p1, fun v e L' B' H' y2 => q v e L' B' H' (y1.trans y2), fun cls L' B' H' y2 s2 z => hE cls L' B' H' (x1.trans (y1.trans y2)) s2 z⟩
    rw [List.append_nil]
    exact k1
theorem se_raise {E : XK} {cls : Value} (k : ∀ B' H', Ex B0.b B' → Sta L B0.f B' H' → E cls none H') : SE B0 (fun _ σ H => (fun (cls : Value) (d : Option Addr) (_ : L2.St) (H : Hp) => E cls d H) cls none σ H) env L F := fun D σ B H x1 x2 x3 _ _ _ _ => k B H x1 x3
/-- a promise by the body: the reading at the entry -/
theorem body {C : Ct} {N : List Str} {vs : List V} {H : Hp} {Q : VK} {E : XK} {t : TS} (h : spOf C vs H Q E)
    (k : ∀ (B0 : Base) (es : List En) (L : Cells) (P : En → Cells → Prop) (X : Value → Cells → Prop), C es L P X → (∀ cls L' B' H', Ex B0.b B' → Sta L' B0.f B' H' → X cls L' → E cls none H') →
      SE B0 t (es ++ List.replicate (N.length - es.length) .unk) L { nx := fun _ l => ∃ l', Weak l l' ∧ P (.dat .none) l', rt := fun e l => ∃ l', Weak l l' ∧ P e l' }) : t { nx := fun _ H' => Q .non H', rt := Q } (L2.start N vs) H := by
  obtain ⟨es, L, Fr, B, P, X, s, hv, hc, hq, hx⟩ := h
  refine k ⟨B, Fr⟩ es L P X hc hx _ _ B H Ex.rfl (env_start hv) s ?_ ?_ ?_ ?_
  · rintro e l σ' B' H' ⟨l', w, p⟩ y1 y2 y3
    exact hq .non _ l' B' H' y1 (y3.weak w) (EnOk.d .non) p
  · rintro e l v B' H' ⟨l', w, p⟩ y1 y2 y3
    exact hq v e l' B' H' y1 (y3.weak w) y2 p
  · intro e l σ' B' H' z
    exact z.elim
  · intro e l σ' B' H' z
    exact z.elim
theorem spOf_len {C : Ct} {n : Nat} (h : ∀ es L P X, C es L P X → es.length = n) {vs : List V} {H : Hp} {Q : VK} {E : XK} (s : spOf C vs H Q E) : vs.length = n := by
  obtain ⟨es, L, Fr, B, P, X, _, hv, hc, _⟩ := s
  rw [hv.length]
  exact h _ _ _ _ hc
end
end WS
/-! WS3: texts as lists of codes; more operators by values; statements in a row -/
namespace WS
open PySem L2

/-! ### texts -/
def tx (l : List Nat) : Str := ⟨l.toArray⟩
theorem tx_list (l : List Nat) : (tx l).cps.toList = l := by simp [tx]
theorem tx_len (l : List Nat) : (tx l).length = l.length := by simp [tx, Str.length]
theorem tx_inj {a b : List Nat} (h : tx a = tx b) : a = b := by
  have := congrArg (fun s : Str => s.cps.toList) h
  simpa [tx] using this
theorem tx_eq {a b : List Nat} : (tx a = tx b) = (a = b) := propext ⟨tx_inj, fun h => h ▸ rfl⟩
theorem tx_app (a b : List Nat) : tx a ++ tx b = tx (a ++ b) := by
  have e : tx a ++ tx b = ⟨(tx a).cps ++ (tx b).cps⟩ := rfl
  rw [e]
  simp [tx]
theorem tx_cut (l : List Nat) (lo hi : Option Int) : cutS (tx l) lo hi = tx ((l.drop (HT.sIx l.length 0 lo)).take (HT.sIx l.length l.length hi - HT.sIx l.length 0 lo)) := by
  unfold cutS
  rw [tx_list, tx_len]
  rfl
theorem cut_to {l : List Nat} {k : Nat} : cutS (tx l) none (some (k : Int)) = tx (l.take k) := by
  rw [tx_cut, HT.sIx_none, HT.sIx_nat, List.drop_zero, Nat.sub_zero]
  congr 1
  by_cases h : k ≤ l.length
  · rw [Nat.min_eq_left h]
  · rw [Nat.min_eq_right (by omega), List.take_length, List.take_of_length_le (by omega)]
theorem cut_from {l : List Nat} {k : Nat} : cutS (tx l) (some (k : Int)) none = tx (l.drop k) := by
  rw [tx_cut, HT.sIx_none, HT.sIx_nat]
  congr 1
  by_cases h : k ≤ l.length
  · rw [Nat.min_eq_left h, List.take_of_length_le (by rw [List.length_drop]; omega)]
  · rw [Nat.min_eq_right (by omega), List.drop_length, List.drop_of_length_le (by omega)]
    simp
theorem cut_mid {l : List Nat} {j k : Nat} : cutS (tx l) (some (j : Int)) (some (k : Int)) = tx ((l.drop j).take (k - j)) := by
  rw [tx_cut, HT.sIx_nat, HT.sIx_nat]
  congr 1
  by_cases h : j ≤ l.length
  · by_cases h2 : k ≤ l.length
    · rw [Nat.min_eq_left h, Nat.min_eq_left h2]
    · rw [Nat.min_eq_left h, Nat.min_eq_right (by omega), List.take_of_length_le (by rw [List.length_drop]; omega), List.take_of_length_le (by rw [List.length_drop]; omega)]
  · rw [Nat.min_eq_right (show l.length ≤ j by omega), List.drop_length, List.drop_of_length_le (by omega : l.length ≤ j)]
    simp
theorem tx_one {c : Nat} : (⟨#[c]⟩ : Str) = tx [c] := rfl
theorem sgnD_tx (l : List Nat) : sgnD (tx l) = l.map fun c => .str (tx [c]) := by
  unfold sgnD
  rw [tx_list]
  rfl

/-! ### statements in a row; what is wanted written out -/
section
variable {B0 : Base} {te ta tb : TE} {tt : TT} {ts tu tw tz : TS} {wi : TI} {tas : TA} {env : List En} {L : Cells} {i j : Nat} {d : PyData} {v : V} {K : PySem.W.Frag}
variable {n : List En → Cells → Prop} {r : En → Cells → Prop} {bk ct : List En → Cells → Prop}
theorem s_next (k : n env L) : SE B0 tNext env L ⟨n, r, bk, ct⟩ := se_next k
theorem s_break (k : bk env L) : SE B0 tBreak env L ⟨n, r, bk, ct⟩ := se_break k
theorem s_cont (k : ct env L) : SE B0 tCont env L ⟨n, r, bk, ct⟩ := se_cont k
theorem s_asg (h : EvE B0 te env L fun e l => n (env.set i e) l) : SE B0 (tAsg te (gName i)) env L ⟨n, r, bk, ct⟩ := se_asg h
theorem q_asg (h : EvE B0 te env L fun e l => SE B0 tu (env.set i e) l ⟨n, r, bk, ct⟩) : SE B0 (tSeq (tAsg te (gName i)) tu) env L ⟨n, r, bk, ct⟩ := se_seq (se_asg h)
theorem s_asgG {g : TG} (h : EvE B0 te env L fun e l => ∃ env', GE B0 g e env env' ∧ n env' l) : SE B0 (tAsg te g) env L ⟨n, r, bk, ct⟩ := se_asgG h
theorem q_asgG {g : TG} (h : EvE B0 te env L fun e l => ∃ env', GE B0 g e env env' ∧ SE B0 tu env' l ⟨n, r, bk, ct⟩) : SE B0 (tSeq (tAsg te g) tu) env L ⟨n, r, bk, ct⟩ := se_seq (se_asgG h)
theorem s_ret (h : EvE B0 te env L r) : SE B0 (tRet te) env L ⟨n, r, bk, ct⟩ := se_ret h
theorem s_drop (h : EvE B0 te env L fun _ l => n env l) : SE B0 (tDrop te) env L ⟨n, r, bk, ct⟩ := se_drop h
theorem q_drop (h : EvE B0 te env L fun _ l => SE B0 tu env l ⟨n, r, bk, ct⟩) : SE B0 (tSeq (tDrop te) tu) env L ⟨n, r, bk, ct⟩ := se_seq (se_drop h)
theorem s_if (h : EvT B0 tt env L fun b l => if b = true then SE B0 ts env l ⟨n, r, bk, ct⟩ else SE B0 tu env l ⟨n, r, bk, ct⟩) : SE B0 (tIfS tt ts tu) env L ⟨n, r, bk, ct⟩ := se_if h
theorem q_if (h : EvT B0 tt env L fun b l => if b = true then SE B0 ts env l ⟨fun e l => SE B0 tz e l ⟨n, r, bk, ct⟩, r, bk, ct⟩ else SE B0 tu env l ⟨fun e l => SE B0 tz e l ⟨n, r, bk, ct⟩, r, bk, ct⟩) : SE B0 (tSeq (tIfS tt ts tu) tz) env L ⟨n, r, bk, ct⟩ := se_seq (se_if h)
theorem q_when (h : EvT B0 tt env L fun b l => if b = true then SE B0 ts env l ⟨fun e l => SE B0 tz e l ⟨n, r, bk, ct⟩, r, bk, ct⟩ else SE B0 tz env l ⟨n, r, bk, ct⟩) : SE B0 (tSeq (tIfS tt ts tNext) tz) env L ⟨n, r, bk, ct⟩ :=
  se_seq (se_if (h.imp fun b l p => by
    cases b with
    | true => exact p
    | false => exact se_next p))
theorem q_cut (M : List En → Cells → Prop) (h : SE B0 ts env L ⟨M, r, bk, ct⟩) (k : ∀ e l, M e l → SE B0 tz e l ⟨n, r, bk, ct⟩) : SE B0 (tSeq ts tz) env L ⟨n, r, bk, ct⟩ := se_seq (h.imp k (fun _ _ x => x) (fun _ _ x => x) (fun _ _ x => x))
theorem s_for {g : TG} (I : Nat → List En → Cells → Prop) (h : EvI B0 wi env L fun ds l => I 0 env l ∧
    (∀ i d e l, ds[i]? = some d → I i e l → ∃ e', GE B0 g (.dat d) e e' ∧ SE B0 ts e' l ⟨I (i + 1), r, n, I (i + 1)⟩) ∧ (∀ e l, I ds.length e l → n e l)) : SE B0 (tFor wi g ts) env L ⟨n, r, bk, ct⟩ :=
  se_for fun σ B H x1 x2 x3 R q => h σ B H x1 x2 x3 R fun J ds B1 H1 L1 y1 s1 hw p => q J ds B1 H1 L1 y1 s1 hw ⟨I, p⟩
/-- .. whose target is a name -/
theorem s_forN (I : Nat → List En → Cells → Prop) (h : EvI B0 wi env L fun ds l => I 0 env l ∧
    (∀ i d e l, ds[i]? = some d → I i e l → SE B0 ts (e.set j (.dat d)) l ⟨I (i + 1), r, n, I (i + 1)⟩) ∧ (∀ e l, I ds.length e l → n e l)) : SE B0 (tFor wi (gName j) ts) env L ⟨n, r, bk, ct⟩ :=
  s_for I fun σ B H x1 x2 x3 R q => h σ B H x1 x2 x3 R fun J ds B1 H1 L1 y1 s1 hw ⟨p1, p2, p3⟩ => q J ds B1 H1 L1 y1 s1 hw ⟨p1, fun i d e l hi hI => ⟨_, ge_name, p2 i d e l hi hI⟩, p3⟩
theorem q_forN (I : Nat → List En → Cells → Prop) (h : EvI B0 wi env L fun ds l => I 0 env l ∧
    (∀ i d e l, ds[i]? = some d → I i e l → SE B0 ts (e.set j (.dat d)) l ⟨I (i + 1), r, fun e l => SE B0 tz e l ⟨n, r, bk, ct⟩, I (i + 1)⟩) ∧ (∀ e l, I ds.length e l → SE B0 tz e l ⟨n, r, bk, ct⟩)) : SE B0 (tSeq (tFor wi (gName j) ts) tz) env L ⟨n, r, bk, ct⟩ :=
  se_seq (s_forN I h)
/-- .. over a range -/
theorem s_forR1 (I : Nat → List En → Cells → Prop) (h : EvA B0 tas env L fun es l => ∃ k : Int, es = [.dat (.int k)] ∧ -100000 ≤ k ∧ k ≤ 100000 ∧ I 0 env l ∧
    (∀ (i : Nat) e l, (i : Int) < k → I i e l → SE B0 ts (e.set j (.dat (.int (i : Int)))) l ⟨I (i + 1), r, n, I (i + 1)⟩) ∧ (∀ e l, I k.toNat e l → n e l)) : SE B0 (tFor (iRng1 tas) (gName j) ts) env L ⟨n, r, bk, ct⟩ :=
  s_forN I (ei_rng1 (h.imp fun es l ⟨k, h1, h2, h3, h4, h5, h6⟩ => ⟨k, h1, h2, h3, h4, fun i d e l hi hI => by
    obtain ⟨lt, rfl⟩ := rngD_get hi
    have z : (0 : Int) + (i : Int) = (i : Int) := Int.zero_add _
    rw [z]
    exact h5 i e l (by omega) hI, fun e l hI => h6 e l (by rw [rngD_length] at hI; exact hI)⟩))
theorem q_forR1 (I : Nat → List En → Cells → Prop) (h : EvA B0 tas env L fun es l => ∃ k : Int, es = [.dat (.int k)] ∧ -100000 ≤ k ∧ k ≤ 100000 ∧ I 0 env l ∧
    (∀ (i : Nat) e l, (i : Int) < k → I i e l → SE B0 ts (e.set j (.dat (.int (i : Int)))) l ⟨I (i + 1), r, fun e l => SE B0 tz e l ⟨n, r, bk, ct⟩, I (i + 1)⟩) ∧ (∀ e l, I k.toNat e l → SE B0 tz e l ⟨n, r, bk, ct⟩)) : SE B0 (tSeq (tFor (iRng1 tas) (gName j) ts) tz) env L ⟨n, r, bk, ct⟩ := se_seq (s_forR1 I h)
theorem s_forR2 (I : Nat → List En → Cells → Prop) (h : EvA B0 tas env L fun es l => ∃ lo k : Int, es = [.dat (.int lo), .dat (.int k)] ∧ -100000 ≤ lo ∧ lo ≤ 100000 ∧ -100000 ≤ k ∧ k ≤ 100000 ∧ I 0 env l ∧
    (∀ (i : Nat) e l, lo + (i : Int) < k → I i e l → SE B0 ts (e.set j (.dat (.int (lo + (i : Int))))) l ⟨I (i + 1), r, n, I (i + 1)⟩) ∧ (∀ e l, I (k - lo).toNat e l → n e l)) : SE B0 (tFor (iRng2 tas) (gName j) ts) env L ⟨n, r, bk, ct⟩ :=
  s_forN I (ei_rng2 (h.imp fun es l ⟨lo, k, h1, h2, h3, h2', h3', h4, h5, h6⟩ => ⟨lo, k, h1, h2, h3, h2', h3', h4, fun i d e l hi hI => by
    obtain ⟨lt, rfl⟩ := rngD_get hi
    exact h5 i e l (by omega) hI, fun e l hI => h6 e l (by rw [rngD_length] at hI; exact hI)⟩))
theorem q_forR2 (I : Nat → List En → Cells → Prop) (h : EvA B0 tas env L fun es l => ∃ lo k : Int, es = [.dat (.int lo), .dat (.int k)] ∧ -100000 ≤ lo ∧ lo ≤ 100000 ∧ -100000 ≤ k ∧ k ≤ 100000 ∧ I 0 env l ∧
    (∀ (i : Nat) e l, lo + (i : Int) < k → I i e l → SE B0 ts (e.set j (.dat (.int (lo + (i : Int))))) l ⟨I (i + 1), r, fun e l => SE B0 tz e l ⟨n, r, bk, ct⟩, I (i + 1)⟩) ∧ (∀ e l, I (k - lo).toNat e l → SE B0 tz e l ⟨n, r, bk, ct⟩)) : SE B0 (tSeq (tFor (iRng2 tas) (gName j) ts) tz) env L ⟨n, r, bk, ct⟩ := se_seq (s_forR2 I h)
end

/-! ### operators -/
section
variable {B0 : Base} {te ta tb : TE} {tt : TT} {tas : TA} {env : List En} {L : Cells} {P : En → Cells → Prop} {a b : Int} {K : PySem.W.Frag} {ds es : List PyData}
theorem rv_add (k : P (.dat (.int (a + b))) L) : RV2 B0 (rI0 fun i j => .int (i + j)) (.dat (.int a)) (.dat (.int b)) L P := rv_I0 VD.int k
theorem rv_sub (k : P (.dat (.int (a - b))) L) : RV2 B0 (rI0 fun i j => .int (i - j)) (.dat (.int a)) (.dat (.int b)) L P := rv_I0 VD.int k
theorem rv_mul (hc : CMul a b) (k : P (.dat (.int (a * b))) L) : RV2 B0 (rI CMul fun i j => .int (i * j)) (.dat (.int a)) (.dat (.int b)) L P := rv_I hc VD.int k
theorem rv_mod (hc : 0 < b) (k : P (.dat (.int (a % b))) L) : RV2 B0 (rI (fun _ j => 0 < j) fun i j => .int (i % j)) (.dat (.int a)) (.dat (.int b)) L P := rv_I hc VD.int k
theorem rv_fdiv (hc : CDiv a b) (k : P (.dat (.int (a / b))) L) : RV2 B0 (rI CDiv fun i j => .int (i / j)) (.dat (.int a)) (.dat (.int b)) L P := rv_I hc VD.int k
theorem rv_pow (hc : CPow a b) (k : P (.dat (.int (a ^ b.toNat))) L) : RV2 B0 (rI CPow fun i j => .int (i ^ j.toNat)) (.dat (.int a)) (.dat (.int b)) L P := rv_I hc VD.int k
theorem rv_lt (k : P (.dat (.bool (decide (a < b)))) L) : RV2 B0 (rI0 fun i j => .bl (decide (i < j))) (.dat (.int a)) (.dat (.int b)) L P := rv_I0 VD.bl k
theorem rv_le (k : P (.dat (.bool (decide (a ≤ b)))) L) : RV2 B0 (rI0 fun i j => .bl (decide (i ≤ j))) (.dat (.int a)) (.dat (.int b)) L P := rv_I0 VD.bl k
theorem rv_gt (k : P (.dat (.bool (decide (b < a)))) L) : RV2 B0 (rI0 fun i j => .bl (decide (j < i))) (.dat (.int a)) (.dat (.int b)) L P := rv_I0 VD.bl k
theorem rv_ge (k : P (.dat (.bool (decide (b ≤ a)))) L) : RV2 B0 (rI0 fun i j => .bl (decide (j ≤ i))) (.dat (.int a)) (.dat (.int b)) L P := rv_I0 VD.bl k
theorem rv_eqT {s t : List Nat} (k : P (.dat (.bool (decide (s = t)))) L) : RV2 B0 rEq (.dat (.str (tx s))) (.dat (.str (tx t))) L P := rv_eqS (by
  have e : decide (tx s = tx t) = decide (s = t) := decide_eq_decide.mpr ⟨tx_inj, fun h => h ▸ rfl⟩
  rw [e]
  exact k)
theorem rv_addS {s t : List Nat} (hl : s.length + t.length ≤ 100000) (k : P (.dat (.str (tx (s ++ t)))) L) : RV2 B0 (fun x y H Q => ∃ i j, x = .str i ∧ y = .str j ∧ i.length + j.length ≤ sizeLine ∧ Q (.str (i ++ j)) H) (.dat (.str (tx s))) (.dat (.str (tx t))) L P := fun B H x y st hx hy Q q => by
  obtain ⟨_, e1, r1⟩ := hx
  obtain ⟨_, e2, r2⟩ := hy
  cases e1
  cases e2
  refine ⟨_, _, r1.str_v, r2.str_v, by rw [tx_len, tx_len]; exact Evl.sz_of hl, ?_⟩
  rw [tx_app]
  exact q _ _ L B H Ex.rfl st (EnOk.d (.str _)) k
theorem rv_isN {d : PyData} (k : P (.dat (.bool (match d with | .none => true | _ => false))) L) : RV2 B0 (fun x y H Q => y = .non ∧ Q (.bl (decide (x = .non))) H) (.dat d) (.dat .none) L P := fun B H x y st hx hy Q q => by
  obtain ⟨_, e1, r1⟩ := hx
  obtain ⟨_, e2, r2⟩ := hy
  cases e1
  cases e2
  refine ⟨r2.non_v, ?_⟩
  cases r1 with
  | non => exact q _ _ L B H Ex.rfl st (EnOk.d (.bl _)) k
  | bl b => exact q _ _ L B H Ex.rfl st (EnOk.d (.bl _)) k
  | int b => exact q _ _ L B H Ex.rfl st (EnOk.d (.bl _)) k
  | str b => exact q _ _ L B H Ex.rfl st (EnOk.d (.bl _)) k
  | lst h r => exact q _ _ L B H Ex.rfl st (EnOk.d (.bl _)) k
  | tup h r => exact q _ _ L B H Ex.rfl st (EnOk.d (.bl _)) k
  | zt h n r => exact q _ _ L B H Ex.rfl st (EnOk.d (.bl _)) k
theorem rv_notN {d : PyData} (k : P (.dat (.bool (match d with | .none => false | _ => true))) L) : RV2 B0 (fun x y H Q => y = .non ∧ Q (.bl (!decide (x = .non))) H) (.dat d) (.dat .none) L P := fun B H x y st hx hy Q q => by
  obtain ⟨_, e1, r1⟩ := hx
  obtain ⟨_, e2, r2⟩ := hy
  cases e1
  cases e2
  refine ⟨r2.non_v, ?_⟩
  cases r1 with
  | non => exact q _ _ L B H Ex.rfl st (EnOk.d (.bl _)) k
  | bl b => exact q _ _ L B H Ex.rfl st (EnOk.d (.bl _)) k
  | int b => exact q _ _ L B H Ex.rfl st (EnOk.d (.bl _)) k
  | str b => exact q _ _ L B H Ex.rfl st (EnOk.d (.bl _)) k
  | lst h r => exact q _ _ L B H Ex.rfl st (EnOk.d (.bl _)) k
  | tup h r => exact q _ _ L B H Ex.rfl st (EnOk.d (.bl _)) k
  | zt h n r => exact q _ _ L B H Ex.rfl st (EnOk.d (.bl _)) k
/-- len -/
theorem rv_len (k : P (.dat (.int (ds.length : Nat))) L) (h : d = .list ds ∨ d = .tuple ds) : RVs B0 (fun xs H Q => ∃ p ys, xs = [.ref p] ∧ (SqL K H p ys ∨ SqT K H p ys) ∧ Q (.int ys.length) H) [.dat d] L P := fun B H xs st hx Q q => by
  cases hx with
  | cons h1 h2 =>
    cases h2
    obtain ⟨_, e1, r1⟩ := h1
    cases e1
    rcases h with rfl | rfl
    · obtain ⟨p, ys, rfl, hp, rs⟩ := r1.lst_v
      exact ⟨p, ys, rfl, .inl (SqL.of (st.ex _ _ hp)), q _ _ L B H Ex.rfl st (EnOk.d (by rw [rs.length]; exact .int _)) k⟩
    · obtain ⟨p, ys, rfl, hp, rs⟩ := r1.tup_v
      exact ⟨p, ys, rfl, .inr (SqT.of (st.ex _ _ hp)), q _ _ L B H Ex.rfl st (EnOk.d (by rw [rs.length]; exact .int _)) k⟩
theorem rv_lenL (k : P (.dat (.int (ds.length : Nat))) L) : RVs B0 (fun xs H Q => ∃ p ys, xs = [.ref p] ∧ (SqL K H p ys ∨ SqT K H p ys) ∧ Q (.int ys.length) H) [.dat (.list ds)] L P := rv_len k (.inl rfl)
theorem rv_lenT (k : P (.dat (.int (ds.length : Nat))) L) : RVs B0 (fun xs H Q => ∃ p ys, xs = [.ref p] ∧ (SqL K H p ys ∨ SqT K H p ys) ∧ Q (.int ys.length) H) [.dat (.tuple ds)] L P := rv_len k (.inr rfl)
theorem rv_lenC {p : Addr} (hp : L p = some (lstC ds)) (k : P (.dat (.int (ds.length : Nat))) L) : RVs B0 (fun xs H Q => ∃ p ys, xs = [.ref p] ∧ (SqL K H p ys ∨ SqT K H p ys) ∧ Q (.int ys.length) H) [.val (.ref p)] L P := fun B H xs st hx Q q => by
  cases hx with
  | cons h1 h2 =>
    cases h2
    have h1 := Option.some.inj (show some _ = some (V.ref p) from h1)
    subst h1
    obtain ⟨_, _, o, ho, ys, rfl, rs⟩ := st.cl p _ hp
    exact ⟨p, ys, rfl, .inl (SqL.of ho), q _ _ L B H Ex.rfl st (EnOk.d (by rw [rs.length]; exact .int _)) k⟩
theorem rv_lenS {s : List Nat} (hl : s.length ≤ 100000) (k : P (.dat (.int (s.length : Nat))) L) : RVs B0 (fun xs H Q => ∃ z, xs = [.str z] ∧ z.length ≤ sizeLine ∧ Q (.int z.length) H) [.dat (.str (tx s))] L P := fun B H xs st hx Q q => by
  cases hx with
  | cons h1 h2 =>
    cases h2
    obtain ⟨_, e1, r1⟩ := h1
    cases e1
    cases r1.str_v
    refine ⟨tx s, rfl, by rw [tx_len]; exact Evl.sz_of hl, ?_⟩
    rw [tx_len]
    exact q _ _ L B H Ex.rfl st (EnOk.d (.int _)) k
/-- a list of lists' sum: + of two lists of data, a new one -/
theorem rv_cat (hl : ds.length + es.length ≤ 100000) (k : P (.dat (.list (ds ++ es))) L) : RV2 B0 rCat (.dat (.list ds)) (.dat (.list es)) L P := fun B H x y st hx hy Q q => by
  obtain ⟨_, e1, r1⟩ := hx
  obtain ⟨_, e2, r2⟩ := hy
  cases e1
  cases e2
  obtain ⟨p, xs, rfl, hp, rs⟩ := r1.lst_v
  obtain ⟨p2, ys, rfl, hp2, rs2⟩ := r2.lst_v
  refine ⟨p, p2, xs, ys, rfl, rfl, st.ex _ _ hp, st.ex _ _ hp2, by rw [rs.length, rs2.length]; exact Evl.sz_of hl, fun a ha => ?_⟩
  have e := st.exD ha (o := .lst (xs ++ ys))
  exact q _ _ L _ _ e (st.newD ha _) (EnOk.d (.lst upd_same ((rs.append rs2).mono e))) k
theorem rv_ixSt {s : List Nat} {c : Nat} (hl : s.length ≤ 100000) (h : L2.atI s a = some c) (k : P (.dat (.str (tx [c]))) L) : RV2 B0 rIxS (.dat (.str (tx s))) (.dat (.int a)) L P :=
  rv_ixS (by rw [tx_len]; exact hl) (by rw [tx_list]; exact h) k
theorem rep_rp {B : Hp} {xs : List V} (rs : RpAll B xs ds) : ∀ n : Nat, RpAll B (List.replicate n xs).flatten (List.replicate n ds).flatten
  | 0 => .nil
  | n + 1 => by
    rw [List.replicate_succ, List.replicate_succ, List.flatten_cons, List.flatten_cons]
    exact rs.append (rep_rp rs n)
end
end WS
/-! WS4: in, slices, join, append, index, len(set(..)), chains -/
namespace WS
open PySem L2

theorem join_fold : ∀ (ws : List (List Nat)) (a : Array Nat), (ws.map tx).foldl (fun acc p => acc ++ (tx []).cps ++ p.cps) a = a ++ ws.flatten.toArray
  | [], a => by simp
  | w :: ws, a => by
    rw [List.map_cons, List.foldl_cons, join_fold ws]
    simp [tx]
theorem join_tx : ∀ ws : List (List Nat), Txt.join (tx []) (ws.map tx) = tx ws.flatten
  | [] => by simp [Txt.join, Builtin.Str.glued, tx, Str.empty]
  | w :: ws => by
    show (⟨(ws.map tx).foldl (fun acc p => acc ++ (tx []).cps ++ p.cps) (tx w).cps⟩ : Str) = tx (w :: ws).flatten
    rw [join_fold]
    simp [tx]
section
variable {B0 : Base} {te ta tb tc : TE} {tt : TT} {tas : TA} {env : List En} {L : Cells} {P : En → Cells → Prop} {a b : Int} {K : PySem.W.Frag} {ds es : List PyData} {d : PyData}
/-! ### flat data -/
def flatD : PyData → Bool
  | .none => true
  | .bool _ => true
  | .int _ => true
  | .str _ => true
  | _ => false
def toV : PyData → V
  | .bool b => .bl b
  | .int b => .int b
  | .str b => .str b
  | _ => .non
theorem toV_of {B : Hp} {v : V} {d : PyData} (h : Rp B v d) (f : flatD d = true) : v = toV d := by
  cases h with
  | non => rfl
  | bl b => rfl
  | int b => rfl
  | str b => rfl
  | lst h r => cases f
  | tup h r => cases f
  | zt h n r => cases f
theorem toV_all {B : Hp} : ∀ {xs : List V} {ds : List PyData}, RpAll B xs ds → ds.all flatD = true → xs = ds.map toV
  | _, _, .nil, _ => rfl
  | _, _, .cons h r, f => by
    rw [List.all_cons, Bool.and_eq_true] at f
    rw [List.map_cons, toV_of h f.1, toV_all r f.2]
theorem flat_toV (d : PyData) : flatV (toV d) = true := by cases d <;> rfl
theorem flat_toVs : ∀ ds : List PyData, (ds.map toV).all flatV = true
  | [] => rfl
  | d :: ds => by rw [List.map_cons, List.all_cons, flat_toV, flat_toVs ds]; rfl
theorem rv_inG {neg : Bool} (f1 : flatD d = true) (f2 : ds.all flatD = true) (e2 : En) (h : ∀ B H y, Sta L B0.f B H → EnOk B (some y) e2 → ∃ p xs, y = .ref p ∧ RpAll B xs ds ∧ (H p = some (.lst xs) ∨ H p = some (.tup xs)))
    (k : P (.dat (.bool (if neg then !inV (toV d) (ds.map toV) else inV (toV d) (ds.map toV)))) L) : RV2 B0 (rIn K neg) (.dat d) e2 L P := fun B H x y st hx hy Q q => by
  obtain ⟨_, e1, r1⟩ := hx
  cases e1
  obtain ⟨p, xs, rfl, rs, hp⟩ := h B H y st hy
  have ex := toV_of r1 f1
  have exs := toV_all rs f2
  subst ex exs
  refine ⟨p, _, rfl, hp.imp SqL.of SqT.of, flat_toV d, flat_toVs ds, q _ _ L B H Ex.rfl st (EnOk.d (.bl _)) k⟩
theorem rv_inL {neg : Bool} (f1 : flatD d = true) (f2 : ds.all flatD = true) (k : P (.dat (.bool (if neg then !inV (toV d) (ds.map toV) else inV (toV d) (ds.map toV)))) L) : RV2 B0 (rIn K neg) (.dat d) (.dat (.list ds)) L P :=
  rv_inG f1 f2 _ (fun B H y st hy => by
    obtain ⟨_, e1, r1⟩ := hy
    cases e1
    obtain ⟨p, xs, rfl, hp, rs⟩ := r1.lst_v
    exact ⟨p, xs, rfl, rs, .inl (st.ex _ _ hp)⟩) k
theorem rv_inT {neg : Bool} (f1 : flatD d = true) (f2 : ds.all flatD = true) (k : P (.dat (.bool (if neg then !inV (toV d) (ds.map toV) else inV (toV d) (ds.map toV)))) L) : RV2 B0 (rIn K neg) (.dat d) (.dat (.tuple ds)) L P :=
  rv_inG f1 f2 _ (fun B H y st hy => by
    obtain ⟨_, e1, r1⟩ := hy
    cases e1
    obtain ⟨p, xs, rfl, hp, rs⟩ := r1.tup_v
    exact ⟨p, xs, rfl, rs, .inr (st.ex _ _ hp)⟩) k
theorem rv_inC {neg : Bool} {p : Addr} (hp : L p = some (lstC ds)) (f1 : flatD d = true) (f2 : ds.all flatD = true) (k : P (.dat (.bool (if neg then !inV (toV d) (ds.map toV) else inV (toV d) (ds.map toV)))) L) : RV2 B0 (rIn K neg) (.dat d) (.val (.ref p)) L P :=
  rv_inG f1 f2 _ (fun B H y st hy => by
    have hy := Option.some.inj (show some _ = some (V.ref p) from hy)
    subst hy
    obtain ⟨_, _, o, ho, ys, rfl, rs⟩ := st.cl p _ hp
    exact ⟨p, ys, rfl, rs, .inl ho⟩) k
/-- a list of texts, of numbers -/
abbrev txs (ws : List (List Nat)) : List PyData := ws.map fun w => .str (tx w)
abbrev nms (ns : List Int) : List PyData := ns.map .int
theorem flat_txs (ws : List (List Nat)) : (txs ws).all flatD = true := by simp [txs, flatD]
theorem flat_nms (ns : List Int) : (nms ns).all flatD = true := by simp [nms, flatD]
theorem in_txs (s : List Nat) (ws : List (List Nat)) : inV (toV (.str (tx s))) ((txs ws).map toV) = decide (s ∈ ws) := by
  induction ws with
  | nil => rfl
  | cons w ws ih =>
    have e : inV (toV (.str (tx s))) ((txs (w :: ws)).map toV) = ((tx w == tx s) || inV (toV (.str (tx s))) ((txs ws).map toV)) := rfl
    rw [e, ih]
    by_cases h : w = s
    · subst h
      simp
    · have e2 : (tx w == tx s) = false := beq_eq_false_iff_ne.mpr fun z => h (tx_inj z)
      rw [e2, Bool.false_or]
      exact decide_eq_decide.mpr ⟨fun m => List.mem_cons_of_mem _ m, fun m => (List.mem_cons.mp m).resolve_left fun z => h z.symm⟩
theorem in_nms (s : Int) (ws : List Int) : inV (toV (.int s)) ((nms ws).map toV) = decide (s ∈ ws) := by
  induction ws with
  | nil => rfl
  | cons w ws ih =>
    have e : inV (toV (.int s)) ((nms (w :: ws)).map toV) = ((w == s) || inV (toV (.int s)) ((nms ws).map toV)) := rfl
    rw [e, ih]
    by_cases h : w = s
    · subst h
      simp
    · have e2 : (w == s) = false := beq_eq_false_iff_ne.mpr h
      rw [e2, Bool.false_or]
      exact decide_eq_decide.mpr ⟨fun m => List.mem_cons_of_mem _ m, fun m => (List.mem_cons.mp m).resolve_left fun z => h z.symm⟩
/-- a sign in a text -/
theorem rv_inS {c : Nat} {s : List Nat} (k : P (.dat (.bool (decide (c ∈ s)))) L) : RV2 B0 (fun x y H Q => ∃ (c : Nat) (z : Str), x = .str ⟨#[c]⟩ ∧ y = .str z ∧ Q (.bl (decide (c ∈ z.cps.toList))) H) (.dat (.str (tx [c]))) (.dat (.str (tx s))) L P := fun B H x y st hx hy Q q => by
  obtain ⟨_, e1, r1⟩ := hx
  obtain ⟨_, e2, r2⟩ := hy
  cases e1
  cases e2
  refine ⟨c, tx s, r1.str_v, r2.str_v, q _ _ L B H Ex.rfl st (EnOk.d ?_) k⟩
  rw [tx_list]
  exact .bl _
theorem rv_ninS {c : Nat} {s : List Nat} (k : P (.dat (.bool (!decide (c ∈ s)))) L) : RV2 B0 (fun x y H Q => ∃ (c : Nat) (z : Str), x = .str ⟨#[c]⟩ ∧ y = .str z ∧ Q (.bl (!decide (c ∈ z.cps.toList))) H) (.dat (.str (tx [c]))) (.dat (.str (tx s))) L P := fun B H x y st hx hy Q q => by
  obtain ⟨_, e1, r1⟩ := hx
  obtain ⟨_, e2, r2⟩ := hy
  cases e1
  cases e2
  refine ⟨c, tx s, r1.str_v, r2.str_v, q _ _ L B H Ex.rfl st (EnOk.d ?_) k⟩
  rw [tx_list]
  exact .bl _

/-! ### slices -/
theorem eo_none {P : Option Int → Cells → Prop} (k : P none L) : EvO B0 tNoPart env L P := fun σ B H x1 x2 x3 Q q => q none L B H Ex.rfl x3 k
theorem eo_some {P : Option Int → Cells → Prop} (h : EvE B0 te env L fun e l => ∃ i : Int, e = .dat (.int i) ∧ P (some i) l) : EvO B0 (tPart te) env L P := fun σ B H x1 x2 x3 Q q =>
  h σ B H x1 x2 x3 _ fun v e L1 B1 H1 y1 s1 k1 ⟨i, he, p⟩ => by
    subst he
    obtain ⟨_, e, r⟩ := k1
    cases e
    exact ⟨i, r.int_v, q (some i) L1 B1 H1 y1 s1 p⟩
def RS (B0 : Base) (r : V → Option Int → Option Int → Hp → VK → Prop) (e1 : En) (lo hi : Option Int) (L : Cells) (P : En → Cells → Prop) : Prop :=
  ∀ (B H : Hp) (x : V), Sta L B0.f B H → EnOk B (some x) e1 → ∀ Q : VK, (∀ v e L' B' H', Ex B B' → Sta L' B0.f B' H' → EnOk B' (some v) e → P e L' → Q v H') → r x lo hi H Q
theorem ee_sl {r : V → Option Int → Option Int → Hp → VK → Prop} {tl th : TO} (h : EvE B0 te env L fun e l => EvO B0 tl env l fun lo l1 => EvO B0 th env l1 fun hi l2 => RS B0 r e lo hi l2 P) : EvE B0 (tSl r te tl th) env L P := fun σ B H x1 x2 x3 Q q =>
  h σ B H x1 x2 x3 _ fun v e L1 B1 H1 y1 s1 k1 p1 => p1 σ B1 H1 (x1.trans y1) (x2.mono y1) s1 _ fun lo L2 B2 H2 y2 s2 p2 =>
    p2 σ B2 H2 (x1.trans (y1.trans y2)) ((x2.mono y1).mono y2) s2 _ fun hi L3 B3 H3 y3 s3 p3 => p3 B3 H3 v s3 ((k1.mono y2).mono y3) Q fun v e L' B' H' y4 => q v e L' B' H' (y1.trans (y2.trans (y3.trans y4)))
theorem rs_str {s : List Nat} {lo hi : Option Int} (hl : s.length ≤ 100000) {t : List Nat} (e : cutS (tx s) lo hi = tx t) (k : P (.dat (.str (tx t))) L) : RS B0 rSlS (.dat (.str (tx s))) lo hi L P := fun B H x st hx Q q => by
  obtain ⟨_, e1, r1⟩ := hx
  cases e1
  refine ⟨tx s, r1.str_v, by rw [tx_len]; exact Evl.sz_of hl, ?_⟩
  rw [e]
  exact q _ _ L B H Ex.rfl st (EnOk.d (.str _)) k
def cutD (ds : List PyData) (lo hi : Option Int) : List PyData := (ds.drop (HT.sIx ds.length 0 lo)).take (HT.sIx ds.length ds.length hi - HT.sIx ds.length 0 lo)
theorem cut_rp {B : Hp} {xs : List V} (rs : RpAll B xs ds) (lo hi : Option Int) : RpAll B (cutV xs lo hi) (cutD ds lo hi) := by
  unfold cutV cutD
  rw [rs.length]
  exact (rs.drop _).take _
theorem cutD_to {k : Nat} : cutD ds none (some (k : Int)) = ds.take k := by
  unfold cutD
  rw [HT.sIx_none, HT.sIx_nat, List.drop_zero, Nat.sub_zero]
  by_cases h : k ≤ ds.length
  · rw [Nat.min_eq_left h]
  · rw [Nat.min_eq_right (by omega), List.take_length, List.take_of_length_le (by omega)]
theorem cutD_from {k : Nat} : cutD ds (some (k : Int)) none = ds.drop k := by
  unfold cutD
  rw [HT.sIx_none, HT.sIx_nat]
  by_cases h : k ≤ ds.length
  · rw [Nat.min_eq_left h, List.take_of_length_le (by rw [List.length_drop]; omega)]
  · rw [Nat.min_eq_right (by omega), List.drop_length, List.drop_of_length_le (by omega)]
    simp
theorem rs_list {lo hi : Option Int} (k : P (.dat (.list (cutD ds lo hi))) L) : RS B0 (rSlL K) (.dat (.list ds)) lo hi L P := fun B H x st hx Q q => by
  obtain ⟨_, e1, r1⟩ := hx
  cases e1
  obtain ⟨p, xs, rfl, hp, rs⟩ := r1.lst_v
  refine ⟨p, xs, rfl, SqL.of (st.ex _ _ hp), fun a ha => ?_⟩
  have e := st.exD ha (o := .lst (cutV xs lo hi))
  exact q _ _ L _ _ e (st.newD ha _) (EnOk.d (.lst upd_same ((cut_rp rs lo hi).mono e))) k
theorem rs_tup {lo hi : Option Int} (k : P (.dat (.tuple (cutD ds lo hi))) L) : RS B0 (rSlA K) (.dat (.tuple ds)) lo hi L P := fun B H x st hx Q q => by
  obtain ⟨_, e1, r1⟩ := hx
  cases e1
  obtain ⟨p, xs, rfl, hp, rs⟩ := r1.tup_v
  refine ⟨p, xs, rfl, SqT.of (st.ex _ _ hp), fun ⟨h1, h2⟩ => ?_, fun _ a ha => ?_⟩
  · refine q _ _ L B H Ex.rfl st (EnOk.d (.tup hp ?_)) k
    have e : cutD ds lo hi = ds := by
      unfold cutD
      rw [rs.length] at h1 h2
      rw [h1, h2, List.drop_zero, Nat.sub_zero, List.take_length]
    rw [e]
    exact rs
  · have e := st.exD ha (o := .tup (cutV xs lo hi))
    exact q _ _ L _ _ e (st.newD ha _) (EnOk.d (.tup upd_same ((cut_rp rs lo hi).mono e))) k

/-! ### methods -/
/-- the receiver is a list that one holds alone: append -/
theorem ee_append (h : EvE B0 te env L fun e l => ∃ p, e = .val (.ref p) ∧ (∃ ds, l p = some (lstC ds)) ∧ EvE B0 ta env l fun e2 l2 => ∃ ds d, e2 = .dat d ∧ l2 p = some (lstC ds) ∧ ds.length < 100000 ∧ P (.dat .none) (l2.put p (lstC (ds ++ [d])))) :
    EvE B0 (tBM K "list" rAppend te (tCons ta tNil)) env L P := fun σ B H x1 x2 x3 Q q =>
  h σ B H x1 x2 x3 _ fun v e L1 B1 H1 y1 s1 k1 ⟨p, he, ⟨ds0, hp0⟩, p1⟩ => by
    subst he
    have k1 := Option.some.inj (show some v = some (V.ref p) from k1)
    subst k1
    obtain ⟨_, _, o, ho, ys, rfl, rs⟩ := s1.cl p _ hp0
    refine ⟨.inl ⟨rfl, _, SqL.of ho⟩, ?_⟩
    refine p1 σ B1 H1 (x1.trans y1) (x2.mono y1) s1 _ fun v2 e2 L2 B2 H2 y2 s2 k2 ⟨ds, d, he, hp, hz, p2⟩ => ?_
    subst he
    obtain ⟨_, e, r⟩ := k2
    cases e
    obtain ⟨_, _, o, ho, ys, rfl, rs⟩ := s2.cl p _ hp
    refine ⟨p, ys, v2, rfl, rfl, ho, Evl.sz_lt (by rw [rs.length]; exact hz), ?_⟩
    exact q _ _ _ B2 _ (y1.trans y2) (s2.setC hp (c := lstC (ds ++ [d])) (o := .lst (ys ++ [v2])) ⟨_, rfl, rs.append (.cons r .nil)⟩) (EnOk.d .non) p2
theorem ee_join (h : EvE B0 te env L fun e l => e = .dat (.str (tx [])) ∧ EvE B0 ta env l fun e2 l2 => ∃ ws : List (List Nat), e2 = .dat (.list (txs ws)) ∧ (ws.map List.length).sum ≤ 100000 ∧ P (.dat (.str (tx ws.flatten))) l2) :
    EvE B0 (tM1 (fun x xs H Q => ∃ a p, ∃ ys : List Str, x = .str a ∧ xs = [.ref p] ∧ (SqL K H p (ys.map V.str) ∨ SqT K H p (ys.map V.str)) ∧ (ys.map (·.length)).sum + ys.length * a.length ≤ 16777216 ∧ Q (.str (Txt.join a ys)) H) te ta) env L P := fun σ B H x1 x2 x3 Q q =>
  h σ B H x1 x2 x3 _ fun v e L1 B1 H1 y1 s1 k1 ⟨he, p1⟩ => by
    subst he
    obtain ⟨_, e, r⟩ := k1
    cases e
    cases r.str_v
    refine ⟨⟨_, rfl⟩, p1 σ B1 H1 (x1.trans y1) (x2.mono y1) s1 _ fun v2 e2 L2 B2 H2 y2 s2 k2 ⟨ws, he, hz, p2⟩ => ?_⟩
    subst he
    obtain ⟨_, e, r⟩ := k2
    cases e
    obtain ⟨p, xs, rfl, hp, rs⟩ := r.lst_v
    have exs : xs = (ws.map tx).map V.str := by
      have := RpAll.strs (ws.map tx) (xs := xs) (B := B2) (by rw [List.map_map]; exact rs)
      exact this
    subst exs
    refine ⟨tx [], p, ws.map tx, rfl, rfl, .inl (SqL.of (s2.ex _ _ hp)), ?_, ?_⟩
    · rw [tx_len, List.map_map]
      have e : ((fun x : Str => x.length) ∘ tx) = List.length := funext fun l => tx_len l
      rw [e]
      show _ + _ * 0 ≤ _
      omega
    · have e : Txt.join (tx []) (ws.map tx) = tx ws.flatten := join_tx ws
      rw [e]
      exact q _ _ L2 B2 H2 (y1.trans y2) s2 (EnOk.d (.str _)) p2
/-- a chain of two comparisons -/
theorem ee_chain {r r' : R2} (h : EvE B0 ta env L fun e1 l1 => EvE B0 tb env l1 fun e2 l2 => RV2 B0 r e1 e2 l2 fun e3 l3 => ∃ k, e3 = .dat (.bool k) ∧ if k = true then EvE B0 tc env l3 fun e4 l4 => RV2 B0 r' e2 e4 l4 P else P (.dat (.bool false)) l3) :
    EvE B0 (tChain r r' ta tb tc) env L P := fun σ B H x1 x2 x3 Q q =>
  h σ B H x1 x2 x3 _ fun v1 e1 L1 B1 H1 y1 s1 k1 p1 => p1 σ B1 H1 (x1.trans y1) (x2.mono y1) s1 _ fun v2 e2 L2 B2 H2 y2 s2 k2 p2 =>
    p2 B2 H2 v1 v2 s2 (k1.mono y2) k2 _ fun v3 e3 L3 B3 H3 y3 s3 k3 ⟨k, he, p3⟩ => by
      subst he
      obtain ⟨_, e, r3⟩ := k3
      cases e
      refine ⟨k, r3.bl_v, ?_⟩
      cases k with
      | true =>
        have p3 : EvE B0 tc env L3 fun e4 l4 => RV2 B0 r' e2 e4 l4 P := p3
        show tc σ H3 _
        exact p3 σ B3 H3 (x1.trans (y1.trans (y2.trans y3))) (((x2.mono y1).mono y2).mono y3) s3 _ fun v4 e4 L4 B4 H4 y4 s4 k4 p4 =>
          p4 B4 H4 v2 v4 s4 ((k2.mono y3).mono y4) k4 Q fun v e L' B' H' y5 => q v e L' B' H' (y1.trans (y2.trans (y3.trans (y4.trans y5))))
      | false => exact q _ _ L3 B3 H3 (y1.trans (y2.trans y3)) s3 (EnOk.d (.bl _)) p3
end
end WS
/-! WS5: index, len(set(..)), repeated lists and texts; the law's row -/
namespace WS
open PySem L2

/-! ### len(set(xs)) of numbers -/
def dd (ns : List Int) : List Int := ns.foldl PyProof.Rows.step_dedup []
theorem firstMet_take (ns : List Int) : ∀ i, i ≤ ns.length → PyProof.Rows.firstMet (fun i => ns.getD i 0) i = dd (ns.take i)
  | 0, _ => rfl
  | i + 1, hi => by
    have hlt : i < ns.length := hi
    have e1 : ns.getD i 0 = ns[i] := (List.getElem_eq_getD 0).symm
    have e2 : ns.take (i + 1) = ns.take i ++ [ns[i]] := List.take_succ_eq_append_getElem hlt
    rw [PyProof.Rows.firstMet_succ, firstMet_take ns i (Nat.le_of_lt hlt), e1, e2]
    unfold dd
    rw [List.foldl_append]
    rfl
theorem dd_all (ns : List Int) : PyProof.Rows.firstMet (fun i => ns.getD i 0) ns.length = dd ns := by
  rw [firstMet_take ns _ (Nat.le_refl _), List.take_length]
theorem dd_step (acc : List Int) (v : Int) : PyProof.Rows.step_dedup acc v = if v ∈ acc then acc else acc ++ [v] := by
  unfold PyProof.Rows.step_dedup
  by_cases h : v ∈ acc
  · rw [if_pos h]
    have e : acc.any (· == v) = true := List.any_eq_true.mpr ⟨v, h, beq_self_eq_true v⟩
    simp [e]
  · rw [if_neg h]
    have e : acc.any (· == v) = false := by
      cases q : acc.any (· == v) with
      | false => rfl
      | true =>
        obtain ⟨y, hy, ey⟩ := List.any_eq_true.mp q
        exact absurd (eq_of_beq ey ▸ hy) h
    simp [e]
theorem dd_len_go : ∀ (ns acc : List Int), (ns.foldl PyProof.Rows.step_dedup acc).length ≤ acc.length + ns.length ∧ ((ns.foldl PyProof.Rows.step_dedup acc).length = acc.length + ns.length ↔ (ns.Nodup ∧ ∀ v ∈ ns, v ∉ acc))
  | [], acc => by simp
  | n :: ns, acc => by
    rw [List.foldl_cons, dd_step]
    by_cases h : n ∈ acc
    · rw [if_pos h]
      obtain ⟨h1, h2⟩ := dd_len_go ns acc
      refine ⟨by rw [List.length_cons]; omega, ⟨fun e => ?_, fun ⟨_, k⟩ => absurd h (k n (List.mem_cons_self ..))⟩⟩
      rw [List.length_cons] at e
      omega
    · rw [if_neg h]
      obtain ⟨h1, h2⟩ := dd_len_go ns (acc ++ [n])
      rw [List.length_append] at h1 h2
      have e1 : acc.length + ([n] : List Int).length + ns.length = acc.length + (n :: ns).length := by
        rw [List.length_cons]
        simp
        omega
      rw [e1] at h1 h2
      refine ⟨h1, h2.trans ⟨fun ⟨k1, k2⟩ => ⟨List.nodup_cons.mpr ⟨fun m => k2 n m (by simp), k1⟩, fun v hv => ?_⟩, fun ⟨k1, k2⟩ => ?_⟩⟩
      · rcases List.mem_cons.mp hv with rfl | hv
        · exact h
        · exact fun m => k2 v hv (List.mem_append.mpr (.inl m))
      · obtain ⟨k3, k4⟩ := List.nodup_cons.mp k1
        refine ⟨k4, fun v hv m => ?_⟩
        rcases List.mem_append.mp m with m | m
        · exact k2 v (List.mem_cons_of_mem _ hv) m
        · exact k3 (List.mem_singleton.mp m ▸ hv)
theorem dd_len (ns : List Int) : (dd ns).length = ns.length ↔ ns.Nodup := by
  have h := (dd_len_go ns []).2
  simp at h
  exact h
theorem dd_le (ns : List Int) : (dd ns).length ≤ ns.length := by
  have h := (dd_len_go ns []).1
  simp at h
  exact h
def tLenSetG (K : PySem.W.Frag) (ta : TE) : TE := fun σ H Q => ta σ H fun x H1 => ∃ (l : Addr) (ns : List Int), x = .ref l ∧ SqL K H1 l (ns.map V.int) ∧ ns.length ≤ 4000 ∧ Q (.int ((dd ns).length : Nat)) H1
theorem pe_lenSetG {X : Cx} {a : Expr} {ta : TE} {p p2 q pos : Pos} (hg : Gl X "len") (hm : X.mg "len" = none) (hg2 : Gl X "set") (hm2 : X.mg "set" = none) (ha : PE X a ta) (hc : X.calm = true := by rfl)
    (na : starEach [a] X.env = (false, eval a X.env) :: starEach [] X.env := by rfl) : PE X (.Call (.Name "len" p) [.Call (.Name "set" p2) [a] [] q] [] pos) (tLenSetG X.K ta) := by
  refine ⟨fun pins s σ H Q I h => ?_⟩
  refine PyProof.Rows.Call_ (ld_blt I hg hm boot_len ?_)
  refine PyProof.Rows.callWith_builtin1 (PyProof.Rows.args_cons ?_ rfl) rfl rfl
  refine PyProof.Rows.Call_ (ld_blt I hg2 hm2 (show bootBuiltins "set" = some (.type "set") by decide +kernel) ?_)
  refine PyProof.Rows.callWith_type1 (PyProof.Rows.args_cons (thn (ha.run pins s σ H _ I h) fun v s1 ⟨x, H1, I1, r1, q1⟩ => PyProof.Rows.args_nil ?_) na) na rfl
  obtain ⟨l, ns, rfl, hq, hl, q1⟩ := q1
  cases r1
  obtain ⟨its, r, pl, hz⟩ := I1.list hq
  have hlen : its.toArray.size = ns.length := by rw [List.size_toArray, ← r.length, List.length_map]
  refine PySem.call_set_list (I1.ok.hd hc) pl.isList (by simpa using RZ.intsAre_vals r) (by rw [hlen]; unfold scanBound; omega) fun h' tk hS hk => ?_
  refine PyProof.Rows.args_nil ?_
  rw [hlen, dd_all] at hS
  obtain ⟨o, es, ep, t, ho, hex, hd, _, _, _, hf, hn⟩ := hS
  have I2 : Inv X pins σ H1 { s1 with heap := h', toks := tk } := I1.kept fun b o e => hk b o (Heap.lt_size e) e
  have hdl := dd_le ns
  exact PySem.call_len_set ho hex hd hf (by rw [hn] <;> omega) ⟨.int ((dd ns).length : Nat), H1, I2.tok _, ⟨_, by rw [hn]⟩, q1⟩

/-! ### text * number -/
theorem fold_rep (a : Array Nat) : ∀ (n : Nat) (acc : Array Nat), (List.replicate n a).foldl (· ++ ·) acc = acc ++ (List.replicate n a.toList).flatten.toArray
  | 0, acc => by simp
  | n + 1, acc => by
    rw [List.replicate_succ, List.foldl_cons, fold_rep a n]
    apply Array.toList_inj.mp
    simp [List.replicate_succ]
theorem op_mulS {X : Cx} : OpR X (binaryOp .Mult) (fun x y H Q => ∃ (s : List Nat) (n : Int), x = .str (tx s) ∧ y = .int n ∧ 0 ≤ n ∧ n ≤ 100 ∧ s.length ≤ 100 ∧ Q (.str (tx (List.replicate n.toNat s).flatten)) H) := by
  intro pins s σ H x y v u Q I rx ry h
  obtain ⟨z, n, rfl, rfl, h0, h1, hl, q⟩ := h
  obtain ⟨t, rfl⟩ := rx
  obtain ⟨t2, rfl⟩ := ry
  have hz : (tx z).length ≤ 100 := by rw [tx_len]; exact hl
  have nn : n.toNat ≤ 100 := by omega
  have hm : (tx z).length * n.toNat ≤ 100 * 100 := Nat.mul_le_mul hz nn
  refine SB.mul (x := tx z) ⟨?_, fun _ _ => ?_, fun _ _ => ?_⟩ fun t' k => ?_
  · simp
    omega
  · have : (2 ^ 63 - 1 : Int) / n ≥ 100 := by
      rcases Int.lt_or_eq_of_le h0 with h | h
      · exact (Int.le_ediv_iff_mul_le h).mpr (by omega)
      · subst h
        exfalso
        rename_i g _
        exact g (by decide)
    omega
  · unfold Builtin.Str.tooLong
    have : (tx z).length * n.toNat ≤ sizeLine := Evl.sz_of (by omega)
    simp
    omega
  · have e : Txt.mul (tx z) n = tx (List.replicate n.toNat z).flatten := by
      unfold Txt.mul
      by_cases g : n < 1
      · rw [if_pos g]
        have : n.toNat = 0 := by omega
        rw [this]
        rfl
      · rw [if_neg g]
        by_cases g2 : (n == 1 || (tx z).length == 0) = true
        · rw [if_pos g2]
          rcases Bool.or_eq_true_iff.mp g2 with g3 | g3
          · have : n = 1 := eq_of_beq g3
            subst this
            simp
          · have : z = [] := List.length_eq_zero_iff.mp (by have := eq_of_beq g3; rw [tx_len] at this; exact this)
            subst this
            simp
        · rw [if_neg g2, fold_rep]
          simp [tx]
    rw [e]
    exact ⟨.str _, H, I.tok _, ⟨t', rfl⟩, q⟩

section
variable {B0 : Base} {te ta tb tc : TE} {tt : TT} {tas : TA} {env : List En} {L : Cells} {P : En → Cells → Prop} {a b : Int} {K : PySem.W.Frag} {ds es : List PyData} {d : PyData}
theorem ee_lenSet (h : EvE B0 ta env L fun e l => ∃ ns : List Int, e = .dat (.list (nms ns)) ∧ ns.length ≤ 4000 ∧ P (.dat (.int ((dd ns).length : Nat))) l) : EvE B0 (tLenSetG K ta) env L P := fun σ B H x1 x2 x3 Q q =>
  h σ B H x1 x2 x3 _ fun v e L1 B1 H1 y1 s1 k1 ⟨ns, he, hz, p⟩ => by
    subst he
    obtain ⟨_, e, r⟩ := k1
    cases e
    obtain ⟨p1, xs, rfl, hp, rs⟩ := r.lst_v
    have := rs.ints ns
    subst this
    exact ⟨p1, ns, rfl, SqL.of (s1.ex _ _ hp), hz, q _ _ L1 B1 H1 y1 s1 (EnOk.d (.int _)) p⟩
theorem rv_mulS {s : List Nat} (h0 : 0 ≤ b) (h1 : b ≤ 100) (hl : s.length ≤ 100) (k : P (.dat (.str (tx (List.replicate b.toNat s).flatten))) L) : RV2 B0 (fun x y H Q => ∃ (s : List Nat) (n : Int), x = .str (tx s) ∧ y = .int n ∧ 0 ≤ n ∧ n ≤ 100 ∧ s.length ≤ 100 ∧ Q (.str (tx (List.replicate n.toNat s).flatten)) H) (.dat (.str (tx s))) (.dat (.int b)) L P := fun B H x y st hx hy Q q => by
  obtain ⟨_, e1, r1⟩ := hx
  obtain ⟨_, e2, r2⟩ := hy
  cases e1
  cases e2
  exact ⟨s, b, r1.str_v, r2.int_v, h0, h1, hl, q _ _ L B H Ex.rfl st (EnOk.d (.str _)) k⟩
/-- [x] * n, a list one will change -/
theorem rv_repC (h0 : 0 ≤ b) (h1 : b ≤ 1000) (hl : ds.length ≤ 100) (k : ∀ p, L p = none → P (.val (.ref p)) (L.put p (lstC (List.replicate b.toNat ds).flatten))) : RV2 B0 rRep (.dat (.list ds)) (.dat (.int b)) L P := fun B H x y st hx hy Q q => by
  obtain ⟨_, e1, r1⟩ := hx
  obtain ⟨_, e2, r2⟩ := hy
  cases e1
  cases e2
  obtain ⟨p, xs, rfl, hp, rs⟩ := r1.lst_v
  have nn : b.toNat ≤ 1000 := by omega
  have hm : xs.length * b.toNat ≤ 100 * 1000 := Nat.mul_le_mul (by rw [rs.length]; exact hl) nn
  refine ⟨p, b, xs, rfl, r2.int_v, st.ex _ _ hp, by omega, by omega, Evl.sz_of (by omega), fun a ha => ?_⟩
  exact q _ _ _ B _ Ex.rfl (st.newC ha (c := lstC (List.replicate b.toNat ds).flatten) (o := .lst (List.replicate b.toNat xs).flatten) ⟨_, rfl, rep_rp rs _⟩) EnOk.v (k a (st.lnone ha))
/-- "..".index(sign) -/
theorem ee_sindex (h : EvE B0 te env L fun e l => ∃ s, e = .dat (.str s) ∧ EvE B0 ta env l fun e2 l2 => ∃ t i rest, e2 = .dat (.str t) ∧ Builtin.Str.occurrences s t 0 s.length 1 = i :: rest ∧ P (.dat (.int (i : Nat))) l2) :
    EvE B0 (tBM K "str" (fun x xs H Q => ∃ a b i rest, x = .str a ∧ xs = [.str b] ∧ Builtin.Str.occurrences a b 0 a.length 1 = i :: rest ∧ Q (.int (i : Nat)) H) te (tCons ta tNil)) env L P := fun σ B H x1 x2 x3 Q q =>
  h σ B H x1 x2 x3 _ fun v e L1 B1 H1 y1 s1 k1 ⟨s, he, p1⟩ => by
    subst he
    obtain ⟨_, e, r⟩ := k1
    cases e
    cases r.str_v
    refine ⟨rfl, p1 σ B1 H1 (x1.trans y1) (x2.mono y1) s1 _ fun v2 e2 L2 B2 H2 y2 s2 k2 ⟨t, i, rest, he, ho, p2⟩ => ?_⟩
    subst he
    obtain ⟨_, e, r⟩ := k2
    cases e
    exact ⟨s, t, i, rest, rfl, by rw [r.str_v], ho, q _ _ L2 B2 H2 (y1.trans y2) s2 (EnOk.d (.int _)) p2⟩
theorem occ_abcd {c : Nat} (h : c ∈ [97, 98, 99, 100]) : Builtin.Str.occurrences ("abcd" : Str) (tx [c]) 0 ("abcd" : Str).length 1 = [c - 97] := by
  simp at h
  rcases h with rfl | rfl | rfl | rfl <;> decide +kernel
/-- ns.index(k) of numbers -/
theorem idxOf_get {ns : List Int} {k : Int} (h : k ∈ ns) : ∃ j, j < ns.length ∧ ns[j]? = some k ∧ (∀ m, m < j → ns[m]? ≠ some k) ∧ ns.idxOf k = j := by
  induction ns with
  | nil => cases h
  | cons n ns ih =>
    by_cases e : n = k
    · subst e
      exact ⟨0, by simp, rfl, fun m hm => absurd hm (Nat.not_lt_zero _), by simp⟩
    · obtain ⟨j, h1, h2, h3, h4⟩ := ih ((List.mem_cons.mp h).resolve_left fun z => e z.symm)
      refine ⟨j + 1, by simpa using h1, by simpa using h2, fun m hm => ?_, ?_⟩
      · cases m with
        | zero => simpa using e
        | succ m => simpa using h3 m (by omega)
      · have e2 : (n == k) = false := beq_eq_false_iff_ne.mpr e
        rw [List.idxOf_cons, e2, h4]
        rfl
theorem idxOf_getN {ns : List (List Nat)} {k : List Nat} (h : k ∈ ns) : ∃ j, j < ns.length ∧ ns[j]? = some k ∧ (∀ m, m < j → ns[m]? ≠ some k) ∧ ns.idxOf k = j := by
  induction ns with
  | nil => cases h
  | cons n ns ih =>
    by_cases e : n = k
    · subst e
      exact ⟨0, by simp, rfl, fun m hm => absurd hm (Nat.not_lt_zero _), by simp⟩
    · obtain ⟨j, h1, h2, h3, h4⟩ := ih ((List.mem_cons.mp h).resolve_left fun z => e z.symm)
      refine ⟨j + 1, by simpa using h1, by simpa using h2, fun m hm => ?_, ?_⟩
      · cases m with
        | zero => simpa using e
        | succ m => simpa using h3 m (by omega)
      · have e2 : (n == k) = false := beq_eq_false_iff_ne.mpr e
        rw [List.idxOf_cons, e2, h4]
        rfl
theorem ee_index (h : EvE B0 te env L fun e l => ∃ ds, e = .dat (.list ds) ∧ EvE B0 ta env l fun e2 l2 => ∃ d j z, e2 = .dat d ∧ flatD d = true ∧ ds.all flatD = true ∧ ds[j]? = some z ∧ eqV (toV z) (toV d) = true ∧ (∀ m z', m < j → ds[m]? = some z' → eqV (toV z') (toV d) = false) ∧ P (.dat (.int (j : Nat))) l2) :
    EvE B0 (tBM K "list" (rIndex K) te (tCons ta tNil)) env L P := fun σ B H x1 x2 x3 Q q =>
  h σ B H x1 x2 x3 _ fun v e L1 B1 H1 y1 s1 k1 ⟨ds, he, p1⟩ => by
    subst he
    obtain ⟨_, e, r⟩ := k1
    cases e
    obtain ⟨p, xs, rfl, hp, rs⟩ := r.lst_v
    refine ⟨.inl ⟨rfl, xs, SqL.of (s1.ex _ _ hp)⟩, p1 σ B1 H1 (x1.trans y1) (x2.mono y1) s1 _ fun v2 e2 L2 B2 H2 y2 s2 k2 ⟨d, j, z, he, f1, f2, hj, hq, hn, p2⟩ => ?_⟩
    subst he
    obtain ⟨_, e, r⟩ := k2
    cases e
    have e1 := toV_all rs f2
    have e2 := toV_of r f1
    subst e1 e2
    refine ⟨p, ds.map toV, toV d, j, toV z, rfl, rfl, SqL.of (s2.ex _ _ (y2 _ _ hp)), flat_toV d, flat_toVs ds, by rw [List.getElem?_map, hj]; rfl, hq, fun m z' hm hz => ?_, q _ _ L2 B2 H2 (y1.trans y2) s2 (EnOk.d (.int _)) p2⟩
    rw [List.getElem?_map] at hz
    cases w : ds[m]? with
    | none => rw [w] at hz; cases hz
    | some u =>
      rw [w] at hz
      cases hz
      exact hn m u hm w
theorem eqV_int {a b : Int} : eqV (toV (.int a)) (toV (.int b)) = (a == b) := rfl
theorem eqV_str {a b : List Nat} : eqV (toV (.str (tx a))) (toV (.str (tx b))) = (tx a == tx b) := rfl
end

/-! ### the law's row of draws -/
theorem sqL_mono {K : PySem.W.Frag} {B B' : Hp} {a : Addr} {xs : List V} (e : Ex B B') (h : SqL K B a xs) : SqL K B' a xs := by
  rcases h with (h | ⟨o, h⟩) | h
  · exact .inl (.inl (e _ _ h))
  · exact .inl (.inr ⟨o, e _ _ h⟩)
  · exact .inr h
def rowS (K : PySem.W.Frag) (a : Addr) (ns : List Int) (i m b : Int) : Cell := ⟨fun B o => o = .lst [.ref a, .int i, .int m, .int b] ∧ SqL K B a (ns.map V.int), fun e ⟨h, r⟩ => ⟨h, sqL_mono e r⟩, fun h => nomatch h.1⟩
def rowC (K : PySem.W.Frag) (a : Addr) (ns : List Int) : Cell := ⟨fun B o => ∃ i m b : Int, 0 ≤ i ∧ 0 ≤ m ∧ m < 2147483647 ∧ 0 ≤ b ∧ o = .lst [.ref a, .int i, .int m, .int b] ∧ SqL K B a (ns.map V.int), fun e ⟨i, m, b, h1, h2, h3, h4, h, r⟩ => ⟨i, m, b, h1, h2, h3, h4, h, sqL_mono e r⟩, fun h => by obtain ⟨_, _, _, _, _, _, _, h, _⟩ := h; cases h⟩
section
variable {B0 : Base} {te ta tb tc : TE} {tt : TT} {ts : TS} {tas : TA} {env : List En} {L : Cells} {P : En → Cells → Prop} {F : Ks} {a : Addr} {ns : List Int} {p : Addr} {i m b : Int} {K : PySem.W.Frag}
theorem se_row (hp : L p = some (rowC K a ns)) (k : ∀ i m b : Int, 0 ≤ i → 0 ≤ m → m < 2147483647 → 0 ≤ b → SE B0 ts env (L.put p (rowS K a ns i m b)) F) : SE B0 ts env L F := se_cell hp fun B o ⟨i, m, b, h1, h2, h3, h4, h, r⟩ => ⟨rowS K a ns i m b, ⟨h, r⟩, k i m b h1 h2 h3 h4⟩
theorem row_weak (hp : L p = some (rowC K a ns)) (h1 : 0 ≤ i) (h2 : 0 ≤ m) (h3 : m < 2147483647) (h4 : 0 ≤ b) : Weak (L.put p (rowS K a ns i m b)) L := Weak.to hp fun B o ⟨h, r⟩ => ⟨i, m, b, h1, h2, h3, h4, h, r⟩
def rowAt (i m b : Int) : Int → Option En
  | 1 => some (.dat (.int i))
  | 2 => some (.dat (.int m))
  | 3 => some (.dat (.int b))
  | _ => none
theorem rv_row {j : Int} {e : En} (hp : L p = some (rowS K a ns i m b)) (h : (j = 0 ∧ e = .val (.ref a)) ∨ (j = 1 ∧ e = .dat (.int i)) ∨ (j = 2 ∧ e = .dat (.int m)) ∨ (j = 3 ∧ e = .dat (.int b))) (k : P e L) : RV2 B0 (rIxL K) (.val (.ref p)) (.dat (.int j)) L P := fun B H x y st hx hy Q q => by
  obtain ⟨_, e2, r2⟩ := hy
  cases e2
  have hx := Option.some.inj (show some _ = some (V.ref p) from hx)
  subst hx
  obtain ⟨_, _, o, ho, rfl, hs⟩ := st.cl p _ hp
  rcases h with ⟨rfl, rfl⟩ | ⟨rfl, rfl⟩ | ⟨rfl, rfl⟩ | ⟨rfl, rfl⟩
  · exact ⟨p, _, 0, .ref a, rfl, r2.int_v, SqL.of ho, rfl, q _ _ L B H Ex.rfl st EnOk.v k⟩
  · exact ⟨p, _, 1, .int i, rfl, r2.int_v, SqL.of ho, rfl, q _ _ L B H Ex.rfl st (EnOk.d (.int _)) k⟩
  · exact ⟨p, _, 2, .int m, rfl, r2.int_v, SqL.of ho, rfl, q _ _ L B H Ex.rfl st (EnOk.d (.int _)) k⟩
  · exact ⟨p, _, 3, .int b, rfl, r2.int_v, SqL.of ho, rfl, q _ _ L B H Ex.rfl st (EnOk.d (.int _)) k⟩
/-- the script's length, an item -/
theorem rv_rowLen (hp : L p = some (rowS K a ns i m b)) (k : P (.dat (.int (ns.length : Nat))) L) : RVs B0 (fun xs H Q => ∃ p ys, xs = [.ref p] ∧ (SqL K H p ys ∨ SqT K H p ys) ∧ Q (.int ys.length) H) [.val (.ref a)] L P := fun B H xs st hx Q q => by
  cases hx with
  | cons h1 h2 =>
    cases h2
    have h1 := Option.some.inj (show some _ = some (V.ref a) from h1)
    subst h1
    obtain ⟨_, _, o, ho, rfl, hs⟩ := st.cl p _ hp
    exact ⟨a, _, rfl, .inl (sqL_mono st.ex hs), q _ _ L B H Ex.rfl st (EnOk.d (by rw [List.length_map]; exact .int _)) k⟩
theorem rv_rowIx {j : Int} (hp : L p = some (rowS K a ns i m b)) (h0 : 0 ≤ j) (h1 : j < ns.length) (k : ∀ n, P (.dat (.int n)) L) : RV2 B0 (rIxL K) (.val (.ref a)) (.dat (.int j)) L P := fun B H x y st hx hy Q q => by
  obtain ⟨_, e2, r2⟩ := hy
  cases e2
  have hx := Option.some.inj (show some _ = some (V.ref a) from hx)
  subst hx
  obtain ⟨_, _, o, ho, rfl, hs⟩ := st.cl p _ hp
  obtain ⟨n, rfl⟩ := Int.eq_ofNat_of_zero_le h0
  have lt : n < ns.length := by omega
  refine ⟨a, ns.map V.int, n, .int (ns[n]), rfl, r2.int_v, sqL_mono st.ex hs, atI_nat (by rw [List.getElem?_map, List.getElem?_eq_getElem lt]; rfl), q _ _ L B H Ex.rfl st (EnOk.d (.int _)) (k _)⟩
/-- row[j] = e -/
theorem se_setRow (h : EvE B0 te env L fun e1 l1 => EvE B0 ta env l1 fun e2 l2 => EvE B0 tb env l2 fun e3 l3 => ∃ p a ns i m b j n i' m' b', e1 = .dat (.int n) ∧ e2 = .val (.ref p) ∧ l3 p = some (rowS K a ns i m b) ∧ e3 = .dat (.int j) ∧
      ((j = 1 ∧ i' = n ∧ m' = m ∧ b' = b) ∨ (j = 2 ∧ i' = i ∧ m' = n ∧ b' = b) ∨ (j = 3 ∧ i' = i ∧ m' = m ∧ b' = n)) ∧ F.nx env (l3.put p (rowS K a ns i' m' b'))) :
    SE B0 (tAsg te (gSub ta tb rSetL)) env L F := fun D σ B H x1 x2 x3 qn _ _ _ =>
  h σ B H x1 x2 x3 _ fun v1 e1 L1 B1 H1 y1 s1 k1 p1 => p1 σ B1 H1 (x1.trans y1) (x2.mono y1) s1 _ fun v2 e2 L2 B2 H2 y2 s2 k2 p2 =>
    p2 σ B2 H2 ((x1.trans y1).trans y2) ((x2.mono y1).mono y2) s2 _ fun v3 e3 L3 B3 H3 y3 s3 k3 p3 => by
      obtain ⟨p, a, ns, i, m, b, j, n, i', m', b', rfl, rfl, hp, rfl, hj, q⟩ := p3
      have k2 := Option.some.inj (show some v2 = some (V.ref p) from k2)
      subst k2
      obtain ⟨_, e, r3⟩ := k3
      cases e
      obtain ⟨_, e, r1⟩ := k1
      cases e
      cases r1.int_v
      obtain ⟨_, _, o, ho, rfl, hs⟩ := s3.cl p _ hp
      have y := (y1.trans y2).trans y3
      have fin : ∀ (jj : Nat) (xs : List V), [V.ref a, V.int i, V.int m, V.int b].set jj (.int n) = [V.ref a, V.int i', V.int m', V.int b'] → ixN 4 j = some jj → rSetL (.ref p) v3 (.int n) H3 fun H4 => D.nx σ H4 := fun jj xs he hx => by
        refine ⟨p, _, j, jj, rfl, r3.int_v, ho, hx, ?_⟩
        rw [he]
        exact qn _ _ σ B3 _ q y (x2.mono y) (s3.setC hp (c := rowS K a ns i' m' b') (o := .lst [.ref a, .int i', .int m', .int b']) ⟨rfl, hs⟩)
      rcases hj with ⟨rfl, rfl, rfl, rfl⟩ | ⟨rfl, rfl, rfl, rfl⟩ | ⟨rfl, rfl, rfl, rfl⟩
      · exact fin 1 [] rfl rfl
      · exact fin 2 [] rfl rfl
      · exact fin 3 [] rfl rfl
/-- [script, 0, 0, 0] -/
theorem ee_row {a : Addr} {ns : List Int} (hs : SqL K B0.b a (ns.map V.int)) (h : EvA B0 tas env L fun es l => es = [.val (.ref a), .dat (.int 0), .dat (.int 0), .dat (.int 0)] ∧ ∀ p, l p = none → P (.val (.ref p)) (l.put p (rowC K a ns))) : EvE B0 (tLst tas) env L P := fun σ B H x1 x2 x3 Q q =>
  h σ B H x1 x2 x3 _ fun vs es L1 B1 H1 y1 s1 k1 ⟨he, p⟩ => by
    subst he
    cases k1 with
    | cons a1 k1 => cases k1 with
      | cons a2 k1 => cases k1 with
        | cons a3 k1 => cases k1 with
          | cons a4 k1 =>
            cases k1
            have a1 := Option.some.inj (show some _ = some (V.ref a) from a1)
            subst a1
            obtain ⟨_, e, r⟩ := a2
            cases e
            cases r.int_v
            obtain ⟨_, e, r⟩ := a3
            cases e
            cases r.int_v
            obtain ⟨_, e, r⟩ := a4
            cases e
            cases r.int_v
            refine ⟨by show 4 ≤ sizeLine; decide, fun c hc => ?_⟩
            exact q _ _ _ B1 _ y1 (s1.newC hc (c := rowC K a ns) (o := .lst [.ref a, .int 0, .int 0, .int 0]) ⟨0, 0, 0, by omega, by omega, by omega, by omega, rfl, sqL_mono (x1.trans y1) hs⟩) EnOk.v (p c (s1.lnone hc))
end
end WS
/-! WS6: small words for the steps -/
namespace WS
open PySem L2
theorem iteD {p A B : Prop} [Decidable p] (h1 : p → A) (h2 : ¬ p → B) : if decide p = true then A else B := by
  by_cases h : p
  · rw [decide_eq_true h]; exact h1 h
  · rw [decide_eq_false h]; exact h2 h
theorem iteN {p A B : Prop} [Decidable p] (h1 : p → B) (h2 : ¬ p → A) : if (!decide p) = true then A else B := by
  by_cases h : p
  · rw [decide_eq_true h]; exact h1 h
  · rw [decide_eq_false h]; exact h2 h
theorem iteB {b : Bool} {A B : Prop} (h1 : b = true → A) (h2 : b = false → B) : if b = true then A else B := by
  cases b with
  | true => exact h1 rfl
  | false => exact h2 rfl
theorem iteNB {b : Bool} {A B : Prop} (h1 : b = true → B) (h2 : b = false → A) : if (!b) = true then A else B := by
  cases b with
  | true => exact h1 rfl
  | false => exact h2 rfl
theorem ite_t {b : Bool} {A B : Prop} (h : b = true) (k : A) : if b = true then A else B := by rw [if_pos h]; exact k
theorem ite_f {b : Bool} {A B : Prop} (h : b = false) (k : B) : if b = true then A else B := by rw [if_neg (by rw [h]; decide)]; exact k
/-- a written list of arguments, all data -/
theorem da0 : ([] : List En) = ([] : List PyData).map En.dat := rfl
theorem da1 {a : PyData} : [En.dat a] = [a].map En.dat := rfl
theorem da2 {a b : PyData} : [En.dat a, En.dat b] = [a, b].map En.dat := rfl
theorem da3 {a b c : PyData} : [En.dat a, En.dat b, En.dat c] = [a, b, c].map En.dat := rfl
theorem da4 {a b c d : PyData} : [En.dat a, En.dat b, En.dat c, En.dat d] = [a, b, c, d].map En.dat := rfl
theorem da8 {a b c d e f g h : PyData} : [En.dat a, En.dat b, En.dat c, En.dat d, En.dat e, En.dat f, En.dat g, En.dat h] = [a, b, c, d, e, f, g, h].map En.dat := rfl
section
variable {B0 : Base} {te ta tb tc : TE} {tt : TT} {tas : TA} {env : List En} {L : Cells} {P : En → Cells → Prop}
theorem all_of {P : List PyData → Prop} {es : List En} {ds : List PyData} (h : es = ds.map En.dat) (hl : ds.length ≤ 100000) {Q : Prop} (k : Q) : es = ds.map En.dat ∧ ds.length ≤ 100000 ∧ Q := ⟨h, hl, k⟩
end
section
variable {B0 : Base} {te ta tb tc : TE} {tt : TT} {tas : TA} {wi : TI} {env : List En} {L : Cells} {P : En → Cells → Prop} {i : Nat}
/-- [e for x in xs if t], the target a name -/
theorem ee_lcNP {α : Type} {enc : α → PyData} (p : α → Bool) (f : α → PyData) (h : EvI B0 wi env L fun ds l => ∃ xs : List α, ds = xs.map enc ∧ xs.length ≤ 100000 ∧
    (∀ fr x, x ∈ xs → EvT ⟨B0.b, fr⟩ tt ((wipeE env [i]).set i (.dat (enc x))) l (fun b l2 => b = p x ∧ l2 = l) ∧ (p x = true → EvE ⟨B0.b, fr⟩ te ((wipeE env [i]).set i (.dat (enc x))) l fun e2 l2 => e2 = .dat (f x) ∧ l2 = l)) ∧
    P (.dat (.list ((xs.filter p).map f))) l) : EvE B0 (tLc wi (gName i) tt te [i]) env L P :=
  ee_lc fun σ B H x1 x2 x3 R q => h σ B H x1 x2 x3 R fun J ds B1 H1 L1 y1 s1 hw ⟨xs, hds, hz, hs, hp⟩ => q J ds B1 H1 L1 y1 s1 hw ⟨by rw [hds, List.length_map]; exact hz, fun k acc l => acc = ((xs.take k).filter p).map f ∧ l = L1, ⟨by simp, rfl⟩, fun fr k d acc l hi ⟨ha, hl⟩ => by
    subst hl hds
    rw [List.getElem?_map] at hi
    cases hx : xs[k]? with
    | none => rw [hx] at hi; cases hi
    | some x =>
      rw [hx] at hi
      cases hi
      obtain ⟨ht, he⟩ := hs fr x (List.mem_of_getElem? hx)
      refine ⟨_, gw_name, ht.imp fun b l2 ⟨z1, z2⟩ => ?_⟩
      subst z1 z2
      have tk : xs.take (k + 1) = xs.take k ++ [x] := by
        rw [List.take_succ, hx]
        rfl
      cases z : p x with
      | true =>
        show EvE ⟨B0.b, fr⟩ te _ l2 _
        refine (he z).imp fun e2 l3 ⟨z1, z2⟩ => ⟨f x, z1, ?_, z2⟩
        rw [ha, tk, List.filter_append, List.map_append, List.filter_cons, if_pos z]
        rfl
      | false =>
        show acc = ((xs.take (k + 1)).filter p).map f ∧ l2 = l2
        refine ⟨?_, rfl⟩
        rw [ha, tk, List.filter_append, List.map_append, List.filter_cons, if_neg (by rw [z]; decide)]
        simp, fun acc l ⟨ha, hl⟩ => by
    rw [ha, hl, hds, List.length_map, List.take_length]
    exact hp⟩
/-- [e for x in xs] -/
theorem ee_lcN {α : Type} {enc : α → PyData} (f : α → PyData) (h : EvI B0 wi env L fun ds l => ∃ xs : List α, ds = xs.map enc ∧ xs.length ≤ 100000 ∧
    (∀ fr x, x ∈ xs → EvE ⟨B0.b, fr⟩ te ((wipeE env [i]).set i (.dat (enc x))) l fun e2 l2 => e2 = .dat (f x) ∧ l2 = l) ∧
    P (.dat (.list (xs.map f))) l) : EvE B0 (tLc wi (gName i) tYes te [i]) env L P :=
  ee_lcNP (fun _ => true) f fun σ B H x1 x2 x3 R q => h σ B H x1 x2 x3 R fun J ds B1 H1 L1 y1 s1 hw ⟨xs, hds, hz, hs, hp⟩ => q J ds B1 H1 L1 y1 s1 hw ⟨xs, hds, hz, fun fr x hx => ⟨et_yes ⟨rfl, rfl⟩, fun _ => hs fr x hx⟩, by
    rw [List.filter_eq_self.mpr (fun _ _ => rfl)]
    exact hp⟩
/-- .. of draws: each item meets a word -/
theorem ee_lcR {α : Type} {enc : α → PyData} (W : PyData → Prop) (J : Cells → Prop) (h : EvI B0 wi env L fun ds l => ∃ xs : List α, ds = xs.map enc ∧ xs.length ≤ 100000 ∧ J l ∧
    (∀ fr x l, x ∈ xs → J l → EvE ⟨B0.b, fr⟩ te ((wipeE env [i]).set i (.dat (enc x))) l fun e2 l2 => ∃ d, e2 = .dat d ∧ W d ∧ J l2) ∧
    (∀ out l, out.length = xs.length → (∀ d ∈ out, W d) → J l → P (.dat (.list out)) l)) : EvE B0 (tLc wi (gName i) tYes te [i]) env L P :=
  ee_lc fun σ B H x1 x2 x3 R q => h σ B H x1 x2 x3 R fun J' ds B1 H1 L1 y1 s1 hw ⟨xs, hds, hz, j0, hs, hp⟩ => q J' ds B1 H1 L1 y1 s1 hw ⟨by rw [hds, List.length_map]; exact hz, fun k acc l => acc.length = k ∧ (∀ d ∈ acc, W d) ∧ J l, ⟨rfl, ⟨fun d (hd : d ∈ ([] : List PyData)) => (nomatch hd), j0⟩⟩, fun fr k d acc l hi ⟨ha, hw2, hj⟩ => by
    subst hds
    rw [List.getElem?_map] at hi
    cases hx : xs[k]? with
    | none => rw [hx] at hi; cases hi
    | some x =>
      rw [hx] at hi
      cases hi
      refine ⟨_, gw_name, et_yes ?_⟩
      show EvE ⟨B0.b, fr⟩ te _ l _
      refine (hs fr x l (List.mem_of_getElem? hx) hj).imp fun e2 l2 ⟨d, z1, z2, z3⟩ => ⟨d, z1, by rw [List.length_append, ha]; rfl, fun d' hd' => ?_, z3⟩
      rcases List.mem_append.mp hd' with m | m
      · exact hw2 d' m
      · rw [List.mem_singleton.mp m]
        exact z2, fun acc l ⟨ha, hw2, hj⟩ => hp acc l (by rw [ha, hds, List.length_map]) hw2 hj⟩
abbrev sgs (l : List Nat) : List PyData := l.map fun c => .str (tx [c])
theorem ei_strT {P : List PyData → Cells → Prop} (h : EvE B0 te env L fun e l => ∃ s, e = .dat (.str (tx s)) ∧ P (sgs s) l) : EvI B0 (iStr te) env L P :=
  ei_str (h.imp fun e l ⟨s, he, p⟩ => ⟨tx s, he, by rw [sgnD_tx]; exact p⟩)
end
theorem abcd_tx : (Str.ofString "abcd") = tx [97, 98, 99, 100] := by decide +kernel
theorem empty_tx : (Str.ofString "") = tx [] := by decide +kernel
section
variable {B0 : Base} {env : List En} {L : Cells} {P : En → Cells → Prop}
theorem ee_abcd (k : P (.dat (.str (tx [97, 98, 99, 100]))) L) : EvE B0 (tC (.str (Str.ofString "abcd"))) env L P := by
  rw [abcd_tx]
  exact ee_str k
theorem ee_empty (k : P (.dat (.str (tx []))) L) : EvE B0 (tC (.str (Str.ofString ""))) env L P := by
  rw [empty_tx]
  exact ee_str k
end
theorem passL0 {X : Cx} : Passes (L2.CX X.prog X.w) X E0 := passL
theorem hd_of {A : Around} {k : Nat} (hr : Room k A) : A.units + 65 < cLine := by have := hr.un; omega
end WS
/-! WS7: data compared: what == tells of numbers, texts, lists and tuples of them -/
namespace WS
open PySem L2

/-- data of depth at most n, laid plainly -/
def Sh (n : Nat) (d : PyData) : Prop := d.canLay0 = true ∧ d.depth ≤ n
theorem Sh.mono {n m : Nat} {d : PyData} (h : Sh n d) (l : n ≤ m) : Sh m d := ⟨h.1, Nat.le_trans h.2 l⟩
theorem Sh.shaped {n : Nat} {d : PyData} (h : Sh n d) (l : n ≤ 64) : SeqAt.shaped d = true := by
  unfold SeqAt.shaped
  rw [h.1, decide_eq_true (Nat.le_trans h.2 l)]
  rfl
theorem sh_int {n : Nat} {i : Int} : Sh n (.int i) := ⟨rfl, Nat.zero_le _⟩
/-- signs that there are -/
def Okc (l : List Nat) : Prop := ∀ c ∈ l, c < 1114112
theorem sh_txt {n : Nat} {l : List Nat} (h : Okc l) : Sh n (.str (tx l)) := by
  refine ⟨?_, Nat.zero_le _⟩
  show (tx l).cps.all (· < 0x110000) = true
  rw [Array.all_eq_true]
  intro i hi
  have q : (tx l).cps[i] ∈ l := by
    have := Array.getElem_mem hi
    simpa [tx] using this
  exact decide_eq_true (h _ q)
theorem sh_bool {n : Nat} {i : Bool} : Sh n (.bool i) := ⟨rfl, Nat.zero_le _⟩
theorem sh_none {n : Nat} : Sh n .none := ⟨rfl, Nat.zero_le _⟩
theorem shAll {n : Nat} : ∀ {ds : List PyData}, (∀ d ∈ ds, Sh n d) → PyData.canLayAll0 ds = true ∧ PyData.depthAll ds ≤ n
  | [], _ => ⟨rfl, Nat.zero_le _⟩
  | d :: ds, h => by
    obtain ⟨h1, h2⟩ := h d (List.mem_cons_self ..)
    obtain ⟨h3, h4⟩ := shAll (ds := ds) fun x hx => h x (List.mem_cons_of_mem _ hx)
    constructor
    · show (PyData.canLay0 d && PyData.canLayAll0 ds) = true
      rw [h1, h3]
      rfl
    · exact Nat.max_le.mpr ⟨h2, h4⟩
theorem sh_list {n : Nat} {ds : List PyData} (h : ∀ d ∈ ds, Sh n d) : Sh (n + 1) (.list ds) := ⟨(shAll h).1, Nat.succ_le_succ (shAll h).2⟩
theorem sh_tuple {n : Nat} {ds : List PyData} (h : ∀ d ∈ ds, Sh n d) : Sh (n + 1) (.tuple ds) := ⟨(shAll h).1, Nat.succ_le_succ (shAll h).2⟩
theorem sh_nms (ns : List Int) : Sh 1 (.list (nms ns)) := sh_list fun d hd => by
  obtain ⟨n, _, rfl⟩ := List.mem_map.mp hd
  exact sh_int
theorem sh_tnms (ns : List Int) : Sh 1 (.tuple (nms ns)) := sh_tuple fun d hd => by
  obtain ⟨n, _, rfl⟩ := List.mem_map.mp hd
  exact sh_int
theorem sh_txs {ws : List (List Nat)} (h : ∀ w ∈ ws, Okc w) : Sh 1 (.list (txs ws)) := sh_list fun d hd => by
  obtain ⟨n, hn, rfl⟩ := List.mem_map.mp hd
  exact sh_txt (h n hn)
theorem sh_sgs {l : List Nat} (h : Okc l) : Sh 1 (.list (sgs l)) := sh_list fun d hd => by
  obtain ⟨n, hn, rfl⟩ := List.mem_map.mp hd
  exact sh_txt fun c hc => by rw [List.mem_singleton.mp hc]; exact h n hn
mutual
/-- == is sameness on such data: numbers, texts, None; no True, False -/
def plainD : PyData → Bool
  | .none => true
  | .int _ => true
  | .str _ => true
  | .list xs => plainAll xs
  | .tuple xs => plainAll xs
  | _ => false
def plainAll : List PyData → Bool
  | [] => true
  | x :: xs => plainD x && plainAll xs
end
mutual
theorem eqv_plain : ∀ {d e : PyData}, plainD d = true → plainD e = true → (PyData.eqv d e = true ↔ d = e)
  | .none, .none, _, _ => ⟨fun _ => rfl, fun _ => rfl⟩
  | .int a, .int b, _, _ => ⟨fun h => congrArg PyData.int (eq_of_beq (show (a == b) = true from h)), fun h => by cases h; exact beq_self_eq_true a⟩
  | .str a, .str b, _, _ => ⟨fun h => congrArg PyData.str (eq_of_beq (show (a == b) = true from h)), fun h => by cases h; exact beq_self_eq_true a⟩
  | .list a, .list b, h1, h2 => ⟨fun h => congrArg PyData.list ((eqv_plainAll (show plainAll a = true from h1) (show plainAll b = true from h2)).mp h), fun h => by cases h; exact (eqv_plainAll (show plainAll a = true from h1) (show plainAll a = true from h1)).mpr rfl⟩
  | .tuple a, .tuple b, h1, h2 => ⟨fun h => congrArg PyData.tuple ((eqv_plainAll (show plainAll a = true from h1) (show plainAll b = true from h2)).mp h), fun h => by cases h; exact (eqv_plainAll (show plainAll a = true from h1) (show plainAll a = true from h1)).mpr rfl⟩
  | .none, .int _, _, _ => ⟨fun h => (nomatch h), fun h => (nomatch h)⟩
  | .none, .str _, _, _ => ⟨fun h => (nomatch h), fun h => (nomatch h)⟩
  | .none, .list _, _, _ => ⟨fun h => (nomatch h), fun h => (nomatch h)⟩
  | .none, .tuple _, _, _ => ⟨fun h => (nomatch h), fun h => (nomatch h)⟩
  | .int _, .none, _, _ => ⟨fun h => (nomatch h), fun h => (nomatch h)⟩
  | .int _, .str _, _, _ => ⟨fun h => (nomatch h), fun h => (nomatch h)⟩
  | .int _, .list _, _, _ => ⟨fun h => (nomatch h), fun h => (nomatch h)⟩
  | .int _, .tuple _, _, _ => ⟨fun h => (nomatch h), fun h => (nomatch h)⟩
  | .str _, .none, _, _ => ⟨fun h => (nomatch h), fun h => (nomatch h)⟩
  | .str _, .int _, _, _ => ⟨fun h => (nomatch h), fun h => (nomatch h)⟩
  | .str _, .list _, _, _ => ⟨fun h => (nomatch h), fun h => (nomatch h)⟩
  | .str _, .tuple _, _, _ => ⟨fun h => (nomatch h), fun h => (nomatch h)⟩
  | .list _, .none, _, _ => ⟨fun h => (nomatch h), fun h => (nomatch h)⟩
  | .list _, .int _, _, _ => ⟨fun h => (nomatch h), fun h => (nomatch h)⟩
  | .list _, .str _, _, _ => ⟨fun h => (nomatch h), fun h => (nomatch h)⟩
  | .list _, .tuple _, _, _ => ⟨fun h => (nomatch h), fun h => (nomatch h)⟩
  | .tuple _, .none, _, _ => ⟨fun h => (nomatch h), fun h => (nomatch h)⟩
  | .tuple _, .int _, _, _ => ⟨fun h => (nomatch h), fun h => (nomatch h)⟩
  | .tuple _, .str _, _, _ => ⟨fun h => (nomatch h), fun h => (nomatch h)⟩
  | .tuple _, .list _, _, _ => ⟨fun h => (nomatch h), fun h => (nomatch h)⟩
theorem eqv_plainAll : ∀ {d e : List PyData}, plainAll d = true → plainAll e = true → (PyData.eqvAll d e = true ↔ d = e)
  | [], [], _, _ => ⟨fun _ => rfl, fun _ => rfl⟩
  | [], _ :: _, _, _ => ⟨fun h => (nomatch h), fun h => (nomatch h)⟩
  | _ :: _, [], _, _ => ⟨fun h => (nomatch h), fun h => (nomatch h)⟩
  | x :: xs, y :: ys, h1, h2 => by
    have g1 : plainD x = true ∧ plainAll xs = true := Bool.and_eq_true_iff.mp h1
    have g2 : plainD y = true ∧ plainAll ys = true := Bool.and_eq_true_iff.mp h2
    have e : PyData.eqvAll (x :: xs) (y :: ys) = (PyData.eqv x y && PyData.eqvAll xs ys) := rfl
    rw [e, Bool.and_eq_true, eqv_plain g1.1 g2.1, eqv_plainAll g1.2 g2.2]
    exact ⟨fun ⟨a, b⟩ => by rw [a, b], fun h => by cases h; exact ⟨rfl, rfl⟩⟩
end
theorem plainAll_of : ∀ {ds : List PyData}, (∀ d ∈ ds, plainD d = true) → plainAll ds = true
  | [], _ => rfl
  | d :: ds, h => by
    show (plainD d && plainAll ds) = true
    rw [h d (List.mem_cons_self ..), plainAll_of fun x hx => h x (List.mem_cons_of_mem _ hx)]
    rfl
theorem eqv_dec {d e : PyData} (h1 : plainD d = true) (h2 : plainD e = true) {p : Prop} [Decidable p] (k : d = e ↔ p) : PyData.eqv d e = decide p := by
  by_cases h : p
  · rw [decide_eq_true h]
    exact (eqv_plain h1 h2).mpr (k.mpr h)
  · rw [decide_eq_false h]
    cases z : PyData.eqv d e with
    | false => rfl
    | true => exact absurd (k.mp ((eqv_plain h1 h2).mp z)) h
theorem plain_nms (ns : List Int) : plainD (.list (nms ns)) = true := plainAll_of (by simp [nms, plainD])
theorem plain_txs (ns : List (List Nat)) : plainD (.list (txs ns)) = true := plainAll_of (by simp [txs, plainD])
theorem plain_sgs (ns : List Nat) : plainD (.list (sgs ns)) = true := plainAll_of (by simp [sgs, plainD])
theorem plain_tnms (ns : List Int) : plainD (.tuple (nms ns)) = true := plainAll_of (by simp [nms, plainD])
theorem eqv_nil (ds : List PyData) : PyData.eqv (.list ds) (.list []) = ds.isEmpty := by
  cases ds <;> rfl
section
variable {B0 : Base} {L : Cells} {P : En → Cells → Prop} {K : PySem.W.Frag} {ds : List PyData} {d e : PyData}
/-- xs == [] -/
theorem rv_eqNil {n : Nat} (h : Sh n (.list ds)) (l : n ≤ 64) (k : P (.dat (.bool ds.isEmpty)) L) : RV2 B0 (rEqD K) (.dat (.list ds)) (.dat (.list [])) L P :=
  rv_eqD (h.shaped l) (Sh.shaped (n := 1) (sh_list (n := 0) fun d hd => nomatch hd) (by decide)) (by rw [eqv_nil]; exact k)
theorem rv_neNil {n : Nat} (h : Sh n (.list ds)) (l : n ≤ 64) (k : P (.dat (.bool (!ds.isEmpty))) L) : RV2 B0 (rNeD K) (.dat (.list ds)) (.dat (.list [])) L P :=
  rv_neD (h.shaped l) (Sh.shaped (n := 1) (sh_list (n := 0) fun d hd => nomatch hd) (by decide)) (by rw [eqv_nil]; exact k)
/-- == of plain data -/
theorem rv_eqP {n m : Nat} (s1 : Sh n d) (s2 : Sh m e) (l1 : n ≤ 64) (l2 : m ≤ 64) (h1 : plainD d = true) (h2 : plainD e = true) {p : Prop} [Decidable p] (hp : d = e ↔ p) (k : P (.dat (.bool (decide p))) L) : RV2 B0 (rEqD K) (.dat d) (.dat e) L P :=
  rv_eqD (s1.shaped l1) (s2.shaped l2) (by rw [eqv_dec h1 h2 hp]; exact k)
theorem rv_neP {n m : Nat} (s1 : Sh n d) (s2 : Sh m e) (l1 : n ≤ 64) (l2 : m ≤ 64) (h1 : plainD d = true) (h2 : plainD e = true) {p : Prop} [Decidable p] (hp : d = e ↔ p) (k : P (.dat (.bool (!decide p))) L) : RV2 B0 (rNeD K) (.dat d) (.dat e) L P :=
  rv_neD (s1.shaped l1) (s2.shaped l2) (by rw [eqv_dec h1 h2 hp]; exact k)
end
theorem sgs_get {l : List Nat} {i : Nat} {d : PyData} (h : (sgs l)[i]? = some d) : ∃ c, l[i]? = some c ∧ d = .str (tx [c]) := by
  rw [List.getElem?_map] at h
  cases e : l[i]? with
  | none => rw [e] at h; cases h
  | some c => rw [e] at h; cases h; exact ⟨c, rfl, rfl⟩
theorem txs_get {l : List (List Nat)} {i : Nat} {d : PyData} (h : (txs l)[i]? = some d) : ∃ c, l[i]? = some c ∧ d = .str (tx c) := by
  rw [List.getElem?_map] at h
  cases e : l[i]? with
  | none => rw [e] at h; cases h
  | some c => rw [e] at h; cases h; exact ⟨c, rfl, rfl⟩
theorem nms_get {l : List Int} {i : Nat} {d : PyData} (h : (nms l)[i]? = some d) : ∃ c, l[i]? = some c ∧ d = .int c := by
  rw [List.getElem?_map] at h
  cases e : l[i]? with
  | none => rw [e] at h; cases h
  | some c => rw [e] at h; cases h; exact ⟨c, rfl, rfl⟩
theorem txs_atI {l : List (List Nat)} {i : Nat} {c : List Nat} (h : l[i]? = some c) : L2.atI (txs l) (i : Int) = some (.str (tx c)) := atI_nat (by rw [List.getElem?_map, h]; rfl)
theorem nms_atI {l : List Int} {i : Nat} {c : Int} (h : l[i]? = some c) : L2.atI (nms l) (i : Int) = some (.int c) := atI_nat (by rw [List.getElem?_map, h]; rfl)
theorem tx_atI {l : List Nat} {i : Nat} {c : Nat} (h : l[i]? = some c) : L2.atI (tx l).cps.toList (i : Int) = some c := by
  rw [tx_list]
  exact atI_nat h
theorem occ_tx {c : Nat} (h : c ∈ [97, 98, 99, 100]) : Builtin.Str.occurrences (tx [97, 98, 99, 100]) (tx [c]) 0 (tx [97, 98, 99, 100]).length 1 = [c - 97] := by
  have e := occ_abcd h
  have z : ("abcd" : Str) = tx [97, 98, 99, 100] := abcd_tx
  rw [z] at e
  exact e
section
variable {B0 : Base} {te ta tb : TE} {tu : TS} {env : List En} {L : Cells} {n : List En → Cells → Prop} {r : En → Cells → Prop} {bk ct : List En → Cells → Prop} {K : PySem.W.Frag} {P : En → Cells → Prop}
theorem q_setRow (h : EvE B0 te env L fun e1 l1 => EvE B0 ta env l1 fun e2 l2 => EvE B0 tb env l2 fun e3 l3 => ∃ p a ns i m b j n' i' m' b', e1 = .dat (.int n') ∧ e2 = .val (.ref p) ∧ l3 p = some (rowS K a ns i m b) ∧ e3 = .dat (.int j) ∧
      ((j = 1 ∧ i' = n' ∧ m' = m ∧ b' = b) ∨ (j = 2 ∧ i' = i ∧ m' = n' ∧ b' = b) ∨ (j = 3 ∧ i' = i ∧ m' = m ∧ b' = n')) ∧ SE B0 tu env (l3.put p (rowS K a ns i' m' b')) ⟨n, r, bk, ct⟩) :
    SE B0 (tSeq (tAsg te (gSub ta tb rSetL)) tu) env L ⟨n, r, bk, ct⟩ := se_seq (se_setRow h)
theorem s_setRow (h : EvE B0 te env L fun e1 l1 => EvE B0 ta env l1 fun e2 l2 => EvE B0 tb env l2 fun e3 l3 => ∃ p a ns i m b j n' i' m' b', e1 = .dat (.int n') ∧ e2 = .val (.ref p) ∧ l3 p = some (rowS K a ns i m b) ∧ e3 = .dat (.int j) ∧
      ((j = 1 ∧ i' = n' ∧ m' = m ∧ b' = b) ∨ (j = 2 ∧ i' = i ∧ m' = n' ∧ b' = b) ∨ (j = 3 ∧ i' = i ∧ m' = m ∧ b' = n')) ∧ n env (l3.put p (rowS K a ns i' m' b'))) :
    SE B0 (tAsg te (gSub ta tb rSetL)) env L ⟨n, r, bk, ct⟩ := se_setRow h
theorem q_setC (h : EvE B0 te env L fun e1 l1 => EvE B0 ta env l1 fun e2 l2 => EvE B0 tb env l2 fun e3 l3 => ∃ p ds k j d, e1 = .dat d ∧ e2 = .val (.ref p) ∧ l3 p = some (lstC ds) ∧ e3 = .dat (.int k) ∧ ixN ds.length k = some j ∧ SE B0 tu env (l3.put p (lstC (ds.set j d))) ⟨n, r, bk, ct⟩) :
    SE B0 (tSeq (tAsg te (gSub ta tb rSetL)) tu) env L ⟨n, r, bk, ct⟩ := se_seq (se_setC (p := 0) (ds := []) h)
theorem s_setC (h : EvE B0 te env L fun e1 l1 => EvE B0 ta env l1 fun e2 l2 => EvE B0 tb env l2 fun e3 l3 => ∃ p ds k j d, e1 = .dat d ∧ e2 = .val (.ref p) ∧ l3 p = some (lstC ds) ∧ e3 = .dat (.int k) ∧ ixN ds.length k = some j ∧ n env (l3.put p (lstC (ds.set j d)))) :
    SE B0 (tAsg te (gSub ta tb rSetL)) env L ⟨n, r, bk, ct⟩ := se_setC (p := 0) (ds := []) h
/-- int(n) of a number -/
theorem rv_int1 {a : Int} (k : P (.dat (.int a)) L) : RVs B0 (fun xs H Q => (∃ i, xs = [.int i] ∧ Q (.int i) H) ∨ ∃ k, xs = [.bl k] ∧ Q (.int (if k then 1 else 0)) H) [.dat (.int a)] L P := fun B H xs st hx Q q => by
  cases hx with
  | cons h1 h2 =>
    cases h2
    obtain ⟨_, e1, r1⟩ := h1
    cases e1
    cases r1.int_v
    exact .inl ⟨a, rfl, q _ _ L B H Ex.rfl st (EnOk.d (.int _)) k⟩
theorem rv_int1b {a : Bool} (k : P (.dat (.int (if a then 1 else 0))) L) : RVs B0 (fun xs H Q => (∃ i, xs = [.int i] ∧ Q (.int i) H) ∨ ∃ k, xs = [.bl k] ∧ Q (.int (if k then 1 else 0)) H) [.dat (.bool a)] L P := fun B H xs st hx Q q => by
  cases hx with
  | cons h1 h2 =>
    cases h2
    obtain ⟨_, e1, r1⟩ := h1
    cases e1
    cases r1.bl_v
    exact .inr ⟨a, rfl, q _ _ L B H Ex.rfl st (EnOk.d (.int _)) k⟩
end
theorem se_raising {B0 : Base} {ts : TS} {env : List En} {L : Cells} {F : Ks} (k : ∀ B' H', Ex B0.b B' → Sta L B0.f B' H' → ∀ D σ, ts D σ H') : SE B0 ts env L F := fun D σ B H x1 x2 x3 _ _ _ _ => k B H x1 x3 D σ
/-- what the top says of an own exception class over ValueError, without __init__ -/
structure ExcTxt (K : PySem.W.Frag) (mg : Str → Option Value) (x : Str) (C : Addr) : Prop where
  g : mg x = some (.ref C)
  x : PySem.W.excIn K C [.type "ValueError", .type "Exception", .type "BaseException", .type "object"] "ValueError.__new__" = true
  k : PySem.W.keepIn K (.ref C) = true
  b : PySem.W.subIn K (.ref C) (.type "BaseException") = some true
  t : PySem.W.typeIn K (.ref C) = some (.type "type")
  i : PySem.W.isClsIn K C = true
  s : PySem.W.subIn K (.ref C) (.ref C) = some true
theorem exm_of {K : PySem.W.Frag} {C S : Addr} (h1 : PySem.W.subIn K (.ref S) (.type "BaseException") = some true) (h2 : PySem.W.isClsIn K C = true) (h3 : PySem.W.typeIn K (.ref C) = some (.type "type")) {b : Bool} (h4 : PySem.W.subIn K (.ref C) (.ref S) = some b)
    (h5 : PySem.W.kitCls K (.ref C) (.ref S) = PySem.W.subIn K (.ref C) (.ref S)) :
    PySem.W.exmOne K (.ref C) (.ref S) = some b := by
  have e1 : (PySem.W.subIn K (.ref S) (.type "BaseException") == some true) = true := by rw [h1] <;> rfl
  show (if (PySem.W.subIn K (.ref S) (.type "BaseException") == some true) = true then PySem.W.kitCls K (.ref C) (.ref S) else none) = some b
  rw [if_pos e1, h5]
  exact h4
end WS
/-! WSK: the rules with the written part by its name -/
namespace WS
open PySem L2
section
variable {X : Cx} {K : PySem.W.Frag}
theorem ix_listK (h : X.K = K) : IxR X (rIxL K) := h ▸ ix_list
theorem ix_tupK (h : X.K = K) : IxR X (rIxT K) := h ▸ ix_tup
theorem op_in_seqK (h : X.K = K) : OpR X (compareOp .In) (rIn K false) := h ▸ op_in_seq
theorem op_notIn_seqK (h : X.K = K) : OpR X (compareOp .NotIn) (rIn K true) := h ▸ op_notIn_seq
theorem op_eqDK (h : X.K = K) (hu : X.A.units + 64 < cLine) : OpR X (compareOp .Eq) (rEqD K) := h ▸ op_eqD hu
theorem op_neDK (h : X.K = K) (hu : X.A.units + 64 < cLine) : OpR X (compareOp .NotEq) (rNeD K) := h ▸ op_neD hu
theorem op_inDK (h : X.K = K) (hu : X.A.units + 65 < cLine) : OpR X (compareOp .In) (rInD K) := h ▸ op_inD hu
theorem op_notInDK (h : X.K = K) (hu : X.A.units + 65 < cLine) : OpR X (compareOp .NotIn) (rNotInD K) := h ▸ op_notInD hu
theorem sl_listK (h : X.K = K) : SlR X (rSlL K) := h ▸ sl_list
theorem sl_tupAK (h : X.K = K) : SlR X (rSlA K) := h ▸ sl_tupA
theorem op_catAK (h : X.K = K) : OpR X (binaryOp .Add) (rCatA K) := h ▸ op_catA
theorem len_seqK (h : X.K = K) : CallR X (.builtin "len") (fun xs H Q => ∃ p ys, xs = [.ref p] ∧ (SqL K H p ys ∨ SqT K H p ys) ∧ Q (.int ys.length) H) := h ▸ call_len_seq
theorem list_ofK (h : X.K = K) : CallR X (.type "list") (fun xs H Q => ∃ p ys, xs = [.ref p] ∧ (SqL K H p ys ∨ SqT K H p ys) ∧ ∀ l, H l = none → Q (.ref l) (upd H l (.lst ys))) := h ▸ call_list_of
theorem tuple_ofK (h : X.K = K) : CallR X (.type "tuple") (fun xs H Q => ∃ p ys, xs = [.ref p] ∧ ((SqL K H p ys ∧ ∀ l, H l = none → Q (.ref l) (upd H l (.tup ys))) ∨ (SqT K H p ys ∧ Q (.ref p) H))) := h ▸ call_tuple_of
theorem cr_sumK (h : X.K = K) (hc : X.calm = true) : CallR X (.builtin "sum") (rSum K) := h ▸ cr_sum hc
theorem cr_maxK (h : X.K = K) (hc : X.calm = true) : CallR X (.builtin "max") (rMax K) := h ▸ cr_max hc
theorem cr_minK (h : X.K = K) (hc : X.calm = true) : CallR X (.builtin "min") (rMin K) := h ▸ cr_min hc
theorem mt_indexK (h : X.K = K) : MtR X "list.index" (rIndex K) := h ▸ mt_index
theorem pe_bmK {id T : String} {name : Str} {o e : Expr} {es : List Expr} {to : TE} {t : TA} {r : V → List V → Hp → VK → Prop} {apos cpos : Pos} (hK : X.K = K) (pa : PlainAttrs T) (slot : Slot T name id) (hty : typeOf (.builtin id) = pure (.type "method_descriptor")) (hm : MtR X id r) (ho : PE X o to) (ha : PA X (e :: es) t)
    (hbase : attributeBase o name X.env (eval o X.env) = eval o X.env := by rfl)
    (hfew : ((backTo cpos (starEach (e :: es) X.env)).all (fun x => !x.1) && (backToKw cpos (keywordEach [] X.env)).all (fun x => x.1.isSome)
      && decide ((e :: es).length + ([] : List Keyword).length + (if ([] : List Keyword).isEmpty then 0 else 1) < 30)) = true := by rfl)
    (hline : (apos.endLine == cpos.line) = true := by rfl) (hs : starEach (e :: es) X.env = (false, eval e X.env) :: starEach es X.env := by rfl) (hplain : (backTo cpos (starEach es X.env)).any (·.1) = false := by rfl) :
    PE X (.Call (.Attribute o name apos) (e :: es) [] cpos) (tBM K T r to t) := by
  subst hK
  exact pe_bm pa slot hty hm ho ha hbase hfew hline hs hplain
theorem pe_bm0K {id T : String} {name : Str} {o : Expr} {to : TE} {r : V → List V → Hp → VK → Prop} {apos cpos : Pos} (hK : X.K = K) (pa : PlainAttrs T) (slot : Slot T name id) (hty : typeOf (.builtin id) = pure (.type "method_descriptor")) (hm : MtR X id r) (ho : PE X o to)
    (hbase : attributeBase o name X.env (eval o X.env) = eval o X.env := by rfl) (hline : (apos.endLine == cpos.line) = true := by rfl) : PE X (.Call (.Attribute o name apos) [] [] cpos) (tBM0 K T r to) := by
  subst hK
  exact pe_bm0 pa slot hty hm ho hbase hline
theorem pi_listK {tg l : Expr} {tl : TE} (hK : X.K = K) (hl : PE X l tl) : PI X tg l (iList K tl) := hK ▸ pi_list hl
theorem pi_tupK {tg l : Expr} {tl : TE} (hK : X.K = K) (hl : PE X l tl) : PI X tg l (iTup K tl) := hK ▸ pi_tup hl
theorem lenSetK {a : Expr} {ta : TE} {p p2 q pos : Pos} (hK : X.K = K) (hg : Gl X "len") (hm : X.mg "len" = none) (hg2 : Gl X "set") (hm2 : X.mg "set" = none) (ha : PE X a ta) (hc : X.calm = true := by rfl)
    (na : starEach [a] X.env = (false, eval a X.env) :: starEach [] X.env := by rfl) : PE X (.Call (.Name "len" p) [.Call (.Name "set" p2) [a] [] q] [] pos) (tLenSetG K ta) := by
  subst hK
  exact pe_lenSetG hg hm hg2 hm2 ha hc na
theorem pe_joinK {o e : Expr} {to te : TE} {apos pos : Pos} (hK : X.K = K) (ho : PE X o to) (he : PE X e te) (hs : starEach [e] X.env = [(false, eval e X.env)] := by rfl) (hbase : attributeBase o "join" X.env (eval o X.env) = eval o X.env := by rfl) (hline : (apos.endLine == pos.line) = true := by rfl) :
    PE X (.Call (.Attribute o "join" apos) [e] [] pos) (tM1 (fun x xs H Q => ∃ a p, ∃ ys : List Str, x = .str a ∧ xs = [.ref p] ∧ (SqL K H p (ys.map V.str) ∨ SqT K H p (ys.map V.str)) ∧
      (ys.map (·.length)).sum + ys.length * a.length ≤ 16777216 ∧ Q (.str (Txt.join a ys)) H) to te) := by
  subst hK
  exact pe_join ho he hs hbase hline
theorem pg_tupK {es : List Expr} {k : Nat} {t : TGs} {n : Nat} {pos : Pos} (hK : X.K = K) (hc : X.calm = true) (h : PGs X es t)
    (hn : (assignEach es X.env).length = n := by rfl) (hst : (assignEach es X.env).findIdx? (·.1) = none := by rfl) : PG X (.Tuple es k pos) (gTup K n t) := by
  subst hK
  exact pg_tup hc h hn hst
theorem pe_fldK {e : Expr} {f : Str} {pos : Pos} {ta : TE} (hK : X.K = K) (he : PE X e ta) (hb : attributeBase e f X.env (eval e X.env) = eval e X.env) : PE X (.Attribute e f pos) (tFld K ta f) := by
  subst hK
  exact pe_fld he hb
theorem pe_tupRgK {e : Expr} {te : TE} {p pos : Pos} (hK : X.K = K) (h : PE X e te) : PE X e te := h
end
end WS
/-! WH: raising, catching; a tuple unpacked while an exception is handled -/
namespace L2N
open PySem PySem.Spec PyProof.Rows L2 HotX
section
variable {X : Cx} {K : PySem.W.Frag}
theorem hotS {a : Addr} {oe : Obj} {cls : Value} {d : Option Addr} {pn : List (Addr × Obj)} (hz : Zn cls d oe) (hf : ∃ vs, oe.data = .fields vs) : L2H.HotC (X.suite a ((a, oe) :: pn)) := by
  obtain ⟨vs, e⟩ := hf
  exact ⟨(a, oe), ⟨rfl, vs, e, hz.2.2 vs e⟩, List.mem_cons_self ..⟩
/-- around a body nothing is let out -/
theorem takes0 {X : Cx} : Takes X (fun _ _ _ _ => False) := fun _ _ ⟨_, _, _, _, _, _, _, _, _, _, _, _, _, _, _, _, z⟩ => z.elim
theorem passL {X : Cx} : Passes (L2N.CX X.prog X.w) X E0 := fun _ _ _ _ _ _ _ h => by
  obtain ⟨_, _, _, _, _, _, _, _, _, _, _, _, z⟩ := h
  exact z.elim
end
section
variable {P : Program} {w : World} {K : PySem.W.Frag} {mg : Str → Option Value} {base : Heap}
theorem okN {x qual : Str} {st : Stmt} {f : Addr} {fd : FuncData} {N ps : List Str} {k : Nat} {sp : Sp} (F : Fun K x qual st f fd) (S : FnScope N ps (defScope st)) (len : ∀ vs H Q E, sp vs H Q E → vs.length = ps.length)
    (hbody : ∀ (cdv : Value) (A : Around) (outer : List Env) (s : Shared) (H : Hp) (vs : List V) (Q : VK) (E : XK), Room k (A.deeper (envOfC qual (defScope st) s.heap.objs.size f cdv)) → sp vs H Q E →
      ∃ t, PSs (cxOf (L2N.CX P w) P w K mg base N qual (defScope st) f cdv A outer s H E) (defBody st) t ∧ t { nx := fun _ H' => Q .non H', rt := Q } (start N vs) H) : FnOk P w K mg base (L2N.CX P w) (k + 1) f fd ps sp := by
  have F2 : FunD K x qual (defArgs st) (defBody st) (defScope st) [] [] f fd := by
    obtain ⟨oc, od, kV, doc, pm, an, cdv, ct, osl, e, lk, hcd⟩ := F.ex
    exact ⟨⟨oc, od, .none, kV, doc, pm, an, cdv, ct, osl, e, lk, hcd, .inl ⟨rfl, rfl⟩, .inl rfl⟩, F.kp⟩
  exact F2.ok S len hbody
end
end L2N
namespace WS
open PySem L2
section
variable {B0 : Base} {te ta tb : TE} {tas : TA} {tu : TS} {env : List En} {L : Cells} {n : List En → Cells → Prop} {r : En → Cells → Prop} {bk ct : List En → Cells → Prop} {K : PySem.W.Frag} {P : En → Cells → Prop}
theorem ee_callS {C : Ct} {W : WX} (XC : Value → List En → Cells → Prop) (hW : ∀ cls e l σ' B' H', XC cls e l → Ex B0.b B' → EnvD B' σ' e → Sta l B0.f B' H' → W cls none σ' H')
    (h : EvA B0 tas env L fun es l => C es l P fun cls l' => XC cls env l') : EvE B0 (tCallS (spOf C) (WE W) tas) env L P := fun σ B H x1 x2 x3 Q q =>
  h σ B H x1 x2 x3 _ fun vs es L1 B1 H1 y1 s1 k1 p1 =>
    ⟨es, L1, B0.f, B1, P, _, s1, k1, p1, fun v e L' B' H' y2 => q v e L' B' H' (y1.trans y2), fun cls L' B' H' y2 s2 z => hW cls env L' σ B' H' z (x1.trans (y1.trans y2)) (x2.mono (y1.trans y2)) s2⟩
/-- try: .. except X: .. -/
theorem se_try {tb : WX → TS} {Wout : WX} {c : Value} {ts : Addr → Value → Option Addr → TS} (XC : Value → List En → Cells → Prop)
    (h : ∀ (B1 : Hp) (W : WX), Ex B0.b B1 → (∀ cls e l σ' B' H', XC cls e l → Ex B1 B' → EnvD B' σ' e → Sta l B0.f B' H' → W cls none σ' H') → SE ⟨B1, B0.f⟩ (tb W) env L ⟨n, r, bk, ct⟩)
    (hs : ∀ cls e l, XC cls e l → PySem.W.exmOne K cls c = some true ∧ ∀ a, SE B0 (ts a cls none) e l ⟨n, r, bk, ct⟩) : SE B0 (fun D σ H => tb (wMany K Wout D [(c, ts)]) D σ H) env L ⟨n, r, bk, ct⟩ := fun D σ B H x1 x2 x3 qn qr qb qc => by
  refine h B (wMany K Wout D [(c, ts)]) x1 (fun cls e l σ' B' H' hX y xe s => ?_) D σ B H Ex.rfl x2 x3 qn qr qb qc
  obtain ⟨hm, hsu⟩ := hs cls e l hX
  exact ⟨true, hm, fun _ a _ => hsu a D σ' B' H' (x1.trans y) xe s (fun e2 l2 σ2 B2 H2 z1 z2 => qn e2 l2 σ2 B2 H2 z1 (y.trans z2)) (fun e2 l2 v B2 H2 z1 z2 => qr e2 l2 v B2 H2 z1 (y.trans z2)) (fun e2 l2 σ2 B2 H2 z1 z2 => qb e2 l2 σ2 B2 H2 z1 (y.trans z2)) (fun e2 l2 σ2 B2 H2 z1 z2 => qc e2 l2 σ2 B2 H2 z1 (y.trans z2)), fun z => nomatch z⟩
theorem q_par {i j : Nat} (h : EvA B0 tas env L fun es l => ∃ e1 e2, es = [e1, e2] ∧ SE B0 tu ((env.set i e1).set j e2) l ⟨n, r, bk, ct⟩) : SE B0 (tSeq (tPar i j tas) tu) env L ⟨n, r, bk, ct⟩ := se_seq fun D σ B H x1 x2 x3 qn _ _ _ =>
  h σ B H x1 x2 x3 _ fun vs es L1 B1 H1 y1 s1 k1 ⟨e1, e2, he, p⟩ => by
    subst he
    cases k1 with
    | cons a k1 =>
      cases k1 with
      | cons b k1 =>
        cases k1
        exact ⟨_, _, rfl, qn _ L1 _ B1 H1 p y1 (((x2.mono y1).set a).set b) s1⟩
theorem s_par {i j : Nat} (h : EvA B0 tas env L fun es l => ∃ e1 e2, es = [e1, e2] ∧ n ((env.set i e1).set j e2) l) : SE B0 (tPar i j tas) env L ⟨n, r, bk, ct⟩ := fun D σ B H x1 x2 x3 qn _ _ _ =>
  h σ B H x1 x2 x3 _ fun vs es L1 B1 H1 y1 s1 k1 ⟨e1, e2, he, p⟩ => by
    subst he
    cases k1 with
    | cons a k1 =>
      cases k1 with
      | cons b k1 =>
        cases k1
        exact ⟨_, _, rfl, qn _ L1 _ B1 H1 p y1 (((x2.mono y1).set a).set b) s1⟩
end
/-- the law: a list of numbers is handed in, True comes out -/
def spLaw (K : PySem.W.Frag) : Sp := fun vs H Q _ => ∃ (a : Addr) (ns : List Int), vs = [.ref a] ∧ SqL K H a (ns.map V.int) ∧ ∀ H', Q (.bl true) H'
theorem body_law {K : PySem.W.Frag} {N : List Str} {vs : List V} {H : Hp} {Q : VK} {E : XK} {t : TS} (h : spLaw K vs H Q E)
    (k : ∀ (B0 : Base) (a : Addr) (ns : List Int), SqL K B0.b a (ns.map V.int) → SE B0 t (([.val (.ref a)] : List En) ++ List.replicate (N.length - 1) .unk) (fun _ => none) ⟨fun _ _ => False, fun e _ => e = .dat (.bool true), fun _ _ => False, fun _ _ => False⟩) : t { nx := fun _ H' => Q .non H', rt := Q } (L2.start N vs) H := by
  obtain ⟨a, ns, rfl, hs, q⟩ := h
  refine k ⟨H, fun _ => none⟩ a ns hs _ _ H H Ex.rfl (env_start (vs := [.ref a]) (es := [.val (.ref a)]) (.cons EnOk.v .nil)) ⟨Ex.rfl, fun _ _ z => (nomatch z), fun _ _ z => (nomatch z)⟩ ?_ ?_ ?_ ?_
  · intro e l σ' B' H' z
    exact z.elim
  · rintro e l v B' H' rfl y1 y2 y3
    obtain ⟨x, e, r⟩ := y2
    cases e
    rw [r.bl_v]
    exact q H'
  · intro e l σ' B' H' z
    exact z.elim
  · intro e l σ' B' H' z
    exact z.elim
/-- numbers or None -/
theorem rv_neO {B0 : Base} {L : Cells} {P : En → Cells → Prop} {d e : PyData} {p : Prop} [Decidable p] (f1 : flatD d = true) (f2 : flatD e = true) (hd : scal (toV d) (toV e) = true) (he : toV d = toV e ↔ p) (k : P (.dat (.bool (!decide p))) L) : RV2 B0 rNe (.dat d) (.dat e) L P := fun B H x y st h1 h2 Q q => by
  obtain ⟨_, e1, r1⟩ := h1
  obtain ⟨_, e2, r2⟩ := h2
  cases e1
  cases e2
  cases toV_of r1 f1
  cases toV_of r2 f2
  refine ⟨hd, q _ _ L B H Ex.rfl st (EnOk.d ?_) k⟩
  rw [decide_eq_decide.mpr he]
  exact .bl _
theorem rv_min2 {B0 : Base} {L : Cells} {P : En → Cells → Prop} {a b : Int} (k : P (.dat (.int (if b < a then b else a))) L) : RVs B0 (fun xs H Q => ∃ i j, xs = [.int i, .int j] ∧ Q (.int (if j < i then j else i)) H) [.dat (.int a), .dat (.int b)] L P := fun B H xs st hx Q q => by
  cases hx with
  | cons h1 h2 =>
    cases h2 with
    | cons h2 h3 =>
      cases h3
      obtain ⟨_, e1, r1⟩ := h1
      cases e1
      cases r1.int_v
      obtain ⟨_, e1, r1⟩ := h2
      cases e1
      cases r1.int_v
      exact ⟨a, b, rfl, q _ _ L B H Ex.rfl st (EnOk.d (.int _)) k⟩
theorem rv_max2 {B0 : Base} {L : Cells} {P : En → Cells → Prop} {a b : Int} (k : P (.dat (.int (if b > a then b else a))) L) : RVs B0 (fun xs H Q => ∃ i j, xs = [.int i, .int j] ∧ Q (.int (if j > i then j else i)) H) [.dat (.int a), .dat (.int b)] L P := fun B H xs st hx Q q => by
  cases hx with
  | cons h1 h2 =>
    cases h2 with
    | cons h2 h3 =>
      cases h3
      obtain ⟨_, e1, r1⟩ := h1
      cases e1
      cases r1.int_v
      obtain ⟨_, e1, r1⟩ := h2
      cases e1
      cases r1.int_v
      exact ⟨a, b, rfl, q _ _ L B H Ex.rfl st (EnOk.d (.int _)) k⟩
end WS
namespace WS
open PySem L2
section
variable {B0 : Base} {L : Cells} {P : En → Cells → Prop} {K : PySem.W.Frag} {d : PyData}
theorem rv_eqSame {n : Nat} (s : Sh n d) (l : n ≤ 64) (k : P (.dat (.bool true)) L) : RV2 B0 (rEqD K) (.dat d) (.dat d) L P :=
  rv_eqD (s.shaped l) (s.shaped l) (by rw [SeqAt.eqv_refl d s.1]; exact k)
theorem rv_neSame {n : Nat} (s : Sh n d) (l : n ≤ 64) (k : P (.dat (.bool false)) L) : RV2 B0 (rNeD K) (.dat d) (.dat d) L P :=
  rv_neD (s.shaped l) (s.shaped l) (by rw [SeqAt.eqv_refl d s.1]; exact k)
end
end WS
/-! WHot: a tuple unpacked while an exception is handled, by the library's walker -/
namespace L2N
open PySem PySem.Spec PyProof.Rows L2 HotX
section
variable {prog : Program} {w : World} {A : Around} {E : Value → Shared → Prop} {s : Shared}
/-- a tuple's iterator is through, while an exception is handled -/
theorem through_hot {it t x1 : Addr} {items : Array Value} {Q : Option Value → Shared → Prop} (hot : HotAt A x1 s.heap) (hne : x1 ≠ it) (hi : IsTupIter s.heap it t items.size) (ht : IsTup s.heap t items)
    (q : ∀ h', Heap.ExtBut it s.heap h' → Q none { s with heap := h' }) : wpAny (model prog w) A (pyNext (.ref it)) Q E s := by
  have ty := hi.typeIs
  obtain ⟨hp, g, d, tk, os⟩ := s
  obtain ⟨⟨_, _, _, _⟩, ho, rfl, rfl⟩ := hi
  obtain ⟨⟨_, _, _, _⟩, hol, rfl, nl, rfl⟩ := ht
  obtain ⟨hh, ⟨_, _, _, _⟩, vs1, h1, rfl, c1⟩ := hot
  have hx : items[items.size]? = none := by simp
  unfold pyNext
  refine wpAny_bind (wpAny_attempt (wpAny_callSpecial?_slot ty slot_tupleiter_next (wpAny_call_entry slot_tupleiter_next ty entry_tupleiter_next ?_ (args_tupleiter_next _))))
  unfold Builtin.«tuple_iterator.__next__»
  wp_walk
  rw [show items[(items.size : Int).toNat]? = none from hx]
  wp_walk
  have up := fun (b : Addr) (o : Obj) (n : b ≠ it) (e : hp.get? b = some o) => show ((hp.update it (Obj.mapFields fun x => x.setIfInBounds 0 Value.none)).push { cls := Value.type "tuple", data := Data.seq #[] }).get? b = some o by heap_get
  have e1 := up x1 _ hne h1
  refine raiseNew_hot ⟨hh, _, vs1, Heap.get?_push_of_some _ e1, rfl, c1⟩ (Nat.ne_of_lt (Heap.lt_size e1)) (Heap.get?_push_size _ rfl) rfl (by simp only [Array.size_append]; simp; omega) ?_
  refine wpAny_bind (wpAny_isInstance ⟨_, Heap.get?_update_self _ (Heap.get?_push_size _ rfl) rfl, rfl⟩ isSubtype_stop (wpAny_pure (q _ fun b o n e => ?_)))
  have z := up b o n e
  rw [Heap.get?_update_other _ _ (Nat.ne_of_gt (Heap.lt_size z))]
  heap_get
/-- a tuple unpacked, while an exception is handled -/
theorem apart_hot {t x1 : Addr} {items : Array Value} {Q : List Value → Shared → Prop} (hot : HotAt A x1 s.heap) (ht : IsTup s.heap t items)
    (q : ∀ h', Heap.ExtBut s.heap.objs.size s.heap h' → Q items.toList { s with heap := h' }) : wpAny (model prog w) A (unpackItems (.ref t) items.size none) Q E s := by
  have nt : t ≠ s.heap.objs.size := Nat.ne_of_lt (Heap.lt_size ht.choose_spec.1)
  obtain ⟨hd, o1, vs, e1, f1, c1⟩ := hot
  have nx := Nat.ne_of_lt (Heap.lt_size e1)
  have ty := ht.typeIs
  have si := slot_tuple_iter.lookup
  unfold unpackItems notIterableAtAll
  repeat (first | with_reducible refine iter_tuple ht ?_ | wp_step)
  refine draw_tuple nt _ 0 _ _ ⟨_, Heap.get?_push_size _ rfl, rfl, rfl⟩ (ht.push _) (by omega) fun h1 i1 b1 => ?_
  have all : (items.toList.drop 0).take items.size = items.toList := by simp [List.take_of_length_le]
  rw [Nat.zero_add] at i1
  rw [all]
  have keep := fun (b : Addr) (o : Obj) (n : b ≠ s.heap.objs.size) (e : s.heap.get? b = some o) => b1.extBut b o n (Heap.get?_push_of_some _ e)
  refine wpAny_ite_false (by simp) (wpAny_bind (wpAny_holding (through_hot ⟨hd, o1, vs, keep x1 o1 nx e1, f1, c1⟩ nx i1 ((ht.push _).extBut b1.extBut nt) fun h2 b2 => ?_)))
  exact wpAny_ite_false rfl (wpAny_pure (q h2 fun b o n e => b2 b o n (keep b o n e)))
end
section
variable {X : Cx} {K : PySem.W.Frag}
/-- the names of a tuple, in an except clause -/
theorem pg_tupH {es : List Expr} {k : Nat} {t : TGs} {n : Nat} {pos : Pos} (hK : X.K = K) (hc : L2H.HotC X) (h : PGs X es t)
    (hn : (assignEach es X.env).length = n := by rfl) (hst : (assignEach es X.env).findIdx? (·.1) = none := by rfl) : PG X (.Tuple es k pos) (gTup K n t) := by
  cases hK
  constructor
  rintro pins s σ H _ _ Q I r ⟨a, xs, rfl, hq, hl, hw⟩
  cases r
  obtain ⟨its, rv, ht, _⟩ := I.tuple hq
  obtain ⟨_, hot⟩ := hc.at I
  have sz : n = its.toArray.size := by simp [← hl, rv.length]
  rw [assign_Tuple]
  refine wpAny_bind (wpAny_standAt ?_)
  unfold unpack
  rw [hn, hst, sz]
  exact wpAny_bind (wpAny_holding (apart_hot hot ht fun h' kp => h.run pins _ σ H xs _ Q (I.kept (t' := s.toks) fun b o e => kp b o (Nat.ne_of_lt (Heap.lt_size e)) e) (by simpa using rv) hw))
end
end L2N
/-! MX0: texts and words -/
namespace Lw
open PySem L2 WS
def isSg (c : Nat) : Bool := decide (c ∈ [97, 98, 99, 100])
def isText (l : List Nat) (m : Int) : Bool := decide ((l.length : Int) ≤ m) && l.all isSg
/-- signs a, b, c, d alone -/
def Sg (l : List Nat) : Prop := ∀ c ∈ l, c ∈ [97, 98, 99, 100]
theorem Sg.okc {l : List Nat} (h : Sg l) : Okc l := fun c hc => by
  have := h c hc
  simp at this
  omega
theorem isText_of {l : List Nat} {m : Int} (h : Sg l) (hl : (l.length : Int) ≤ m) : isText l m = true := by
  unfold isText
  rw [decide_eq_true hl, Bool.true_and, List.all_eq_true]
  exact fun c hc => decide_eq_true (h c hc)
theorem Sg.app {a b : List Nat} (h1 : Sg a) (h2 : Sg b) : Sg (a ++ b) := fun c hc => (List.mem_append.mp hc).elim (h1 c) (h2 c)
theorem Sg.take {a : List Nat} (h : Sg a) (n : Nat) : Sg (a.take n) := fun c hc => h c (List.mem_of_mem_take hc)
theorem Sg.drop {a : List Nat} (h : Sg a) (n : Nat) : Sg (a.drop n) := fun c hc => h c (List.mem_of_mem_drop hc)
/-- one to eight unlike texts of at most six signs -/
structure Wds (ws : List (List Nat)) : Prop where
  ne : ws ≠ []
  len : ws.length ≤ 8
  nd : ws.Nodup
  sg : ∀ w ∈ ws, Sg w
  six : ∀ w ∈ ws, w.length ≤ 6
theorem txs_snoc (ws : List (List Nat)) (s : List Nat) : txs (ws ++ [s]) = txs ws ++ [.str (tx s)] := by simp [txs]
/-- drawn signs make a text -/
theorem signs_of : ∀ {out : List PyData}, (∀ d ∈ out, ∃ c, c ∈ [97, 98, 99, 100] ∧ d = .str (tx [c])) → ∃ t : List Nat, out = txs (t.map fun c => [c]) ∧ Sg t ∧ t.length = out.length
  | [], _ => ⟨[], rfl, fun c hc => (nomatch hc), rfl⟩
  | d :: out, h => by
    obtain ⟨c, hc, rfl⟩ := h d (List.mem_cons_self ..)
    obtain ⟨t, h1, h2, h3⟩ := signs_of (out := out) fun x hx => h x (List.mem_cons_of_mem _ hx)
    refine ⟨c :: t, by rw [h1]; rfl, fun x hx => ?_, by rw [List.length_cons, h3]; rfl⟩
    rcases List.mem_cons.mp hx with rfl | hx
    · exact hc
    · exact h2 x hx
theorem flat_ones (t : List Nat) : (t.map fun c => [c]).flatten = t := by
  induction t with
  | nil => rfl
  | cons c t ih => rw [List.map_cons, List.flatten_cons, ih]; rfl
theorem len_ones (t : List Nat) : ((t.map fun c => [c]).map List.length).sum = t.length := by
  induction t with
  | nil => rfl
  | cons c t ih =>
    rw [List.map_cons, List.map_cons, List.sum_cons, ih, List.length_cons]
    simp
    omega
theorem abcd_at {k : Int} (h0 : 0 ≤ k) (h1 : k < 4) : ∃ c, c ∈ [97, 98, 99, 100] ∧ L2.atI [97, 98, 99, 100] k = some c := by
  obtain rfl | rfl | rfl | rfl : k = 0 ∨ k = 1 ∨ k = 2 ∨ k = 3 := by omega
  · exact ⟨97, by decide, rfl⟩
  · exact ⟨98, by decide, rfl⟩
  · exact ⟨99, by decide, rfl⟩
  · exact ⟨100, by decide, rfl⟩
theorem Sg.one {c : Nat} (h : c ∈ [97, 98, 99, 100]) : Sg [c] := fun x hx => by rw [List.mem_singleton.mp hx]; exact h
theorem Wds.snoc {ws : List (List Nat)} {s : List Nat} (h : Wds ws) (h1 : Sg s) (h2 : s.length < 7) (h3 : s ∉ ws) (h4 : ws.length < 8) : Wds (ws ++ [s]) where
  ne := by simp
  len := by simp; omega
  nd := by
    rw [List.nodup_append]
    refine ⟨h.nd, by simp, fun a ha b hb => ?_⟩
    rw [List.mem_singleton.mp hb]
    exact fun z => h3 (z ▸ ha)
  sg := fun w hw => by
    rcases List.mem_append.mp hw with m | m
    · exact h.sg w m
    · rw [List.mem_singleton.mp m]; exact h1
  six := fun w hw => by
    rcases List.mem_append.mp hw with m | m
    · exact h.six w m
    · rw [List.mem_singleton.mp m]; omega
theorem Wds.one {s : List Nat} (h1 : Sg s) (h2 : s.length ≤ 6) : Wds [s] where
  ne := by simp
  len := by simp
  nd := by simp
  sg := fun w hw => by rw [List.mem_singleton.mp hw]; exact h1
  six := fun w hw => by rw [List.mem_singleton.mp hw]; omega
theorem Sg.rep {s : List Nat} (h : Sg s) : ∀ n : Nat, Sg (List.replicate n s).flatten
  | 0 => fun c hc => (nomatch hc)
  | n + 1 => by
    rw [List.replicate_succ, List.flatten_cons]
    exact h.app (h.rep n)
theorem rep_len (s : List Nat) : ∀ n : Nat, (List.replicate n s).flatten.length = n * s.length
  | 0 => by simp
  | n + 1 => by
    rw [List.replicate_succ, List.flatten_cons, List.length_append, rep_len s n, Nat.succ_mul]
    omega
end Lw
/-! MX1: which word; boxes; tables -/
namespace Lw
open PySem L2 WS
def caseN (ws : List (List Nat)) (t : List Nat) : Option Nat := if t ∈ ws then some (ws.idxOf t) else none
def optD : Option Nat → PyData
  | some k => .int (k : Int)
  | none => .none
/-- a text's number, sign by sign, by 97 -/
def boxW (l : List Nat) (f : Int) : Int := l.foldl (fun a c => (a * f + 1 + ((c - 97 : Nat) : Int)) % 97) 0
theorem boxW_snoc (l : List Nat) (c : Nat) (f : Int) : boxW (l ++ [c]) f = (boxW l f * f + 1 + ((c - 97 : Nat) : Int)) % 97 := by
  unfold boxW
  rw [List.foldl_append]
  rfl
theorem boxW_lt (l : List Nat) (f : Int) : 0 ≤ boxW l f ∧ boxW l f < 97 := by
  rcases List.eq_nil_or_concat l with rfl | ⟨l', c, rfl⟩
  · exact ⟨Int.le_refl 0, (by decide : (0 : Int) < 97)⟩
  · rw [List.concat_eq_append, boxW_snoc]
    omega
theorem take_snoc {α : Type} {l : List α} {i : Nat} {c : α} (h : l[i]? = some c) : l.take (i + 1) = l.take i ++ [c] := by
  rw [List.take_succ, h]
  rfl
theorem boxW_take {l : List Nat} {i c : Nat} (h : l[i]? = some c) (f : Int) : boxW (l.take (i + 1)) f = (boxW (l.take i) f * f + 1 + ((c - 97 : Nat) : Int)) % 97 := by
  rw [take_snoc h, boxW_snoc]
/-- all words' boxes -/
def nums (ws : List (List Nat)) (f s : Int) : List Int := ws.map fun w => boxW w f % s
/-- the least table's size and factor -/
structure IsTab (ws : List (List Nat)) (s f : Int) : Prop where
  s0 : (ws.length : Int) ≤ s
  s1 : s ≤ 16
  f0 : 1 ≤ f
  f1 : f ≤ 30
  nd : (nums ws f s).Nodup
  lt : ∀ s' f' : Int, (ws.length : Int) ≤ s' → 1 ≤ f' → f' ≤ 30 → (s' < s ∨ (s' = s ∧ f' < f)) → ¬ (nums ws f' s').Nodup
def NoTab (ws : List (List Nat)) : Prop := ∀ s f : Int, (ws.length : Int) ≤ s → s ≤ 16 → 1 ≤ f → f ≤ 30 → ¬ (nums ws f s).Nodup
def boxesD (ns : List Int) (s : Int) : List PyData := (List.range s.toNat).map fun (k : Nat) => if ((k : Int) ∈ ns) then .int (ns.idxOf (k : Int) : Nat) else .none
def tabD (ws : List (List Nat)) (s f : Int) : PyData := .tuple [.int s, .int f, .list (boxesD (nums ws f s) s)]
theorem nd_get {α : Type} {l : List α} (hN : l.Nodup) {i j : Nat} {x : α} (a : l[i]? = some x) (b : l[j]? = some x) : i = j := by
  obtain ⟨h1, e1⟩ := List.getElem?_eq_some_iff.mp a
  obtain ⟨h2, e2⟩ := List.getElem?_eq_some_iff.mp b
  exact (List.getElem_inj hN).mp (e1.trans e2.symm)
theorem caseN_at {ws : List (List Nat)} {j : Nat} {t : List Nat} (nd : ws.Nodup) (h : ws[j]? = some t) : caseN ws t = some j := by
  unfold caseN
  have hm := List.mem_of_getElem? h
  obtain ⟨i, _, h2, _, h4⟩ := idxOf_getN hm
  rw [if_pos hm, h4, nd_get nd h2 h]
theorem caseN_no {ws : List (List Nat)} {t : List Nat} (h : t ∉ ws) : caseN ws t = none := by
  unfold caseN
  rw [if_neg h]
theorem nums_get {ws : List (List Nat)} {f s : Int} {j : Nat} {w : List Nat} (h : ws[j]? = some w) : (nums ws f s)[j]? = some (boxW w f % s) := by
  unfold nums
  rw [List.getElem?_map, h]
  rfl
theorem tab_case {ws : List (List Nat)} {t : List Nat} {s f : Int} (nd : ws.Nodup) (h : (nums ws f s).Nodup) :
    (boxW t f % s ∉ nums ws f s → caseN ws t = none) ∧ ∀ j, (nums ws f s)[j]? = some (boxW t f % s) → ∃ w, ws[j]? = some w ∧ (w = t → caseN ws t = some j) ∧ (w ≠ t → caseN ws t = none) := by
  refine ⟨fun hn => caseN_no fun hm => hn ?_, fun j hj => ?_⟩
  · obtain ⟨i, hi⟩ := List.mem_iff_getElem?.mp hm
    exact List.mem_of_getElem? (nums_get hi)
  · have : j < ws.length := by
      have := (List.getElem?_eq_some_iff.mp hj).1
      unfold nums at this
      rw [List.length_map] at this
      exact this
    have hw : ws[j]? = some ws[j] := List.getElem?_eq_getElem this
    refine ⟨_, hw, fun e => by rw [← e]; exact caseN_at nd hw, fun e => caseN_no fun hm => e ?_⟩
    obtain ⟨i, hi⟩ := List.mem_iff_getElem?.mp hm
    have := nd_get h (nums_get (f := f) (s := s) hi) hj
    subst this
    rw [hi] at hw
    exact (Option.some.inj hw).symm
end Lw
/-! MX2: a table filled word by word -/
namespace Lw
open PySem L2 WS
def dueD (ns : List Int) (s : Int) : Nat → List PyData
  | 0 => List.replicate s.toNat .none
  | i + 1 => (dueD ns s i).set (ns.getD i 0).toNat (.int (i : Nat))
theorem dueD_len (ns : List Int) (s : Int) : ∀ i, (dueD ns s i).length = s.toNat
  | 0 => by simp [dueD]
  | i + 1 => by rw [dueD, List.length_set, dueD_len ns s i]
theorem getD_of {ns : List Int} {i : Nat} {v : Int} (h : ns[i]? = some v) : ns.getD i 0 = v := by
  rw [List.getD_eq_getElem?_getD, h]
  rfl
theorem dueD_get {ns : List Int} {s : Int} (hn : ns.Nodup) (hb : ∀ v ∈ ns, 0 ≤ v ∧ v < s) : ∀ i, i ≤ ns.length → ∀ k : Nat, k < s.toNat → (dueD ns s i)[k]? = some (if (k : Int) ∈ ns.take i then .int (ns.idxOf (k : Int) : Nat) else .none)
  | 0, _, k, hk => by
    simp [dueD, hk]
  | i + 1, hi, k, hk => by
    have ih := dueD_get hn hb i (Nat.le_of_lt hi) k hk
    have hlt : i < ns.length := hi
    have hg : ns[i]? = some ns[i] := List.getElem?_eq_getElem hlt
    have hm := hb _ (List.mem_of_getElem? hg)
    rw [dueD, getD_of hg, List.getElem?_set, take_snoc hg]
    by_cases e : ns[i].toNat = k
    · have e2 : (k : Int) = ns[i] := by omega
      rw [if_pos e, if_pos (by rw [dueD_len]; omega), if_pos (List.mem_append.mpr (.inr (by rw [e2]; exact List.mem_singleton.mpr rfl)))]
      obtain ⟨j, h1, h2, h3, h4⟩ := idxOf_get (List.mem_of_getElem? hg)
      rw [e2, h4, nd_get hn h2 hg]
    · rw [if_neg e, ih]
      have e2 : (k : Int) ≠ ns[i] := by omega
      have e3 : ((k : Int) ∈ ns.take i ++ [ns[i]]) ↔ (k : Int) ∈ ns.take i := by
        rw [List.mem_append]
        exact ⟨fun h => h.resolve_right fun h => e2 (List.mem_singleton.mp h), .inl⟩
      simp only [e3]
theorem due_eq {ns : List Int} {s : Int} (hn : ns.Nodup) (hb : ∀ v ∈ ns, 0 ≤ v ∧ v < s) : dueD ns s ns.length = boxesD ns s := by
  refine List.ext_getElem? fun k => ?_
  by_cases hk : k < s.toNat
  · rw [dueD_get hn hb _ (Nat.le_refl _) k hk, List.take_length]
    unfold boxesD
    rw [List.getElem?_map, List.getElem?_range hk]
    rfl
  · rw [List.getElem?_eq_none_iff.mpr (by rw [dueD_len]; omega), List.getElem?_eq_none_iff.mpr (by unfold boxesD; simp; omega)]
def isSome' : PyData → Bool
  | .none => false
  | _ => true
theorem boxes_some {ns : List Int} {s : Int} (hn : ns.Nodup) (hb : ∀ v ∈ ns, 0 ≤ v ∧ v < s) : ((boxesD ns s).filter isSome').length = ns.length := by
  have e : (boxesD ns s).filter isSome' = ((List.range s.toNat).filter fun (k : Nat) => decide ((k : Int) ∈ ns)).map fun k : Nat => if ((k : Int) ∈ ns) then .int (ns.idxOf (k : Int) : Nat) else .none := by
    unfold boxesD
    rw [List.filter_map]
    congr 1
    refine List.filter_congr fun k _ => ?_
    by_cases h : (k : Int) ∈ ns <;> simp [h, isSome']
  rw [e, List.length_map]
  have p : ((List.range s.toNat).filter fun (k : Nat) => decide ((k : Int) ∈ ns)).Perm (ns.map Int.toNat) := by
    refine (List.perm_ext_iff_of_nodup ?_ ?_).mpr fun k => ?_
    · exact List.Nodup.sublist List.filter_sublist List.nodup_range
    · refine List.pairwise_map.mpr ?_
      refine List.Pairwise.imp_of_mem (fun {a b} ha hb2 hab => ?_) hn
      have h1 := hb a ha
      have h2 := hb b hb2
      omega
    · rw [List.mem_filter, List.mem_range, List.mem_map, decide_eq_true_eq]
      refine ⟨fun ⟨_, h⟩ => ⟨_, h, by simp⟩, fun ⟨v, hv, e⟩ => ?_⟩
      have := hb v hv
      refine ⟨by omega, ?_⟩
      have : (k : Int) = v := by omega
      rw [this]
      exact hv
  rw [p.length_eq, List.length_map]
theorem nums_b {ws : List (List Nat)} {f s : Int} (h : 0 < s) : ∀ v ∈ nums ws f s, 0 ≤ v ∧ v < s := fun v hv => by
  obtain ⟨w, _, rfl⟩ := List.mem_map.mp hv
  exact ⟨Int.emod_nonneg _ (by omega), Int.emod_lt_of_pos _ h⟩
theorem flat_boxes (ns : List Int) (s : Int) : ∀ d ∈ boxesD ns s, Sh 0 d := fun d hd => by
  obtain ⟨k, _, rfl⟩ := List.mem_map.mp hd
  split
  · exact sh_int
  · exact sh_none
theorem nums_len (ws : List (List Nat)) (f s : Int) : (nums ws f s).length = ws.length := by simp [nums]
end Lw
namespace WS
open PySem L2
theorem ExcTxt.self {K : PySem.W.Frag} {mg : Str → Option Value} {x : Str} {C : Addr} (e : ExcTxt K mg x C) : PySem.W.exmOne K (.ref C) (.ref C) = some true := by
  refine exm_of e.b e.i e.t e.s ?_
  have h : (PySem.W.clsIn K C).isSome = true := e.i
  have e2 : ((PySem.W.clsIn K C).isSome && PySem.W.typeIn K (.ref C) == some (.type "type")) = true := by
    rw [h, e.t] <;> rfl
  show (if ((PySem.W.clsIn K C).isSome && PySem.W.typeIn K (.ref C) == some (.type "type")) = true then PySem.W.subIn K (.ref C) (.ref C) else none) = _
  rw [if_pos e2]
end WS
namespace Lw
open PySem L2 WS
def top (i : Nat) : Stmt := PySem.Challenge.pw_wordswitch_k19_whole_boxes_sign_by_sign.main.body.getD i (.Pass ⟨0, 0, 0, 0⟩)
abbrev s_is_text : Stmt := top 11
theorem sc_is_text : FnScope ["text", "most", "sign"] ["text", "most"] (defScope s_is_text) := ⟨rfl, rfl, rfl, by decide +kernel, rfl, by decide +kernel, by decide +kernel⟩
abbrev s_need_text : Stmt := top 12
theorem sc_need_text : FnScope ["text"] ["text"] (defScope s_need_text) := ⟨rfl, rfl, rfl, by decide +kernel, rfl, by decide +kernel, by decide +kernel⟩
abbrev s_need_words : Stmt := top 13
theorem sc_need_words : FnScope ["words", "number"] ["words"] (defScope s_need_words) := ⟨rfl, rfl, rfl, by decide +kernel, rfl, by decide +kernel, by decide +kernel⟩
abbrev s_case_of : Stmt := top 14
theorem sc_case_of : FnScope ["words", "text"] ["words", "text"] (defScope s_case_of) := ⟨rfl, rfl, rfl, by decide +kernel, rfl, by decide +kernel, by decide +kernel⟩
abbrev s_case : Stmt := top 15
theorem sc_case : FnScope ["words", "text"] ["words", "text"] (defScope s_case) := ⟨rfl, rfl, rfl, by decide +kernel, rfl, by decide +kernel, by decide +kernel⟩
abbrev s_box_of : Stmt := top 20
theorem sc_box_of : FnScope ["text", "factor", "size", "found", "sign"] ["text", "factor", "size"] (defScope s_box_of) := ⟨rfl, rfl, rfl, by decide +kernel, rfl, by decide +kernel, by decide +kernel⟩
abbrev s_box : Stmt := top 21
theorem sc_box : FnScope ["text", "factor", "size"] ["text", "factor", "size"] (defScope s_box) := ⟨rfl, rfl, rfl, by decide +kernel, rfl, by decide +kernel, by decide +kernel⟩
abbrev s_table_of : Stmt := top 22
theorem sc_table_of : FnScope ["words", "size", "factor", "numbers", "word", "k"] ["words"] (defScope s_table_of) := ⟨rfl, rfl, rfl, by decide +kernel, rfl, by decide +kernel, by decide +kernel⟩
abbrev s_table : Stmt := top 23
theorem sc_table : FnScope ["words"] ["words"] (defScope s_table) := ⟨rfl, rfl, rfl, by decide +kernel, rfl, by decide +kernel, by decide +kernel⟩
abbrev s_by_table : Stmt := top 24
theorem sc_by_table : FnScope ["words", "text", "size", "factor", "boxes", "number"] ["words", "text"] (defScope s_by_table) := ⟨rfl, rfl, rfl, by decide +kernel, rfl, by decide +kernel, by decide +kernel⟩
abbrev s_law_taken : Stmt := top 26
theorem sc_law_taken : FnScope ["_law_row", "_law_many", "_law_found", "_law_cell"] ["_law_row", "_law_many"] (defScope s_law_taken) := ⟨rfl, rfl, rfl, by decide +kernel, rfl, by decide +kernel, by decide +kernel⟩
abbrev s_law_text : Stmt := top 27
theorem sc_law_text : FnScope ["_law_row", "_law_most", "_law_few", "_law_k"] ["_law_row", "_law_most", "_law_few"] (defScope s_law_text) := ⟨rfl, rfl, rfl, by decide +kernel, rfl, by decide +kernel, by decide +kernel⟩
abbrev s_law_near : Stmt := top 28
theorem sc_law_near : FnScope ["_law_row", "_law_text_here", "_law_at", "_law_sign"] ["_law_row", "_law_text_here"] (defScope s_law_near) := ⟨rfl, rfl, rfl, by decide +kernel, rfl, by decide +kernel, by decide +kernel⟩
abbrev s_law_words : Stmt := top 29
theorem sc_law_words : FnScope ["_law_row", "_law_most", "_law_few", "_law_long", "_law_way", "_law_found", "_law_many", "_law_k", "_law_some"] ["_law_row", "_law_most"] (defScope s_law_words) := ⟨rfl, rfl, rfl, by decide +kernel, rfl, by decide +kernel, by decide +kernel⟩
abbrev s_law_texts : Stmt := top 30
theorem sc_law_texts : FnScope ["_law_row", "_law_words_here", "_law_found", "_law_k", "_law_some"] ["_law_row", "_law_words_here"] (defScope s_law_texts) := ⟨rfl, rfl, rfl, by decide +kernel, rfl, by decide +kernel, by decide +kernel⟩
abbrev s_law_whole : Stmt := top 31
theorem sc_law_whole : FnScope ["_law_text_here", "_law_factor", "_law_found", "_law_sign"] ["_law_text_here", "_law_factor"] (defScope s_law_whole) := ⟨rfl, rfl, rfl, by decide +kernel, rfl, by decide +kernel, by decide +kernel⟩
abbrev s_law : Stmt := top 32
theorem sc_law : FnScope ["_law_script", "_law_row", "_law_turn", "_law_text_here", "_law_factor", "_law_number", "_law_sign", "_law_longer", "_law_words_here", "_law_size", "_law_boxes", "_law_due", "_law_k", "_law_low", "_law_other", "_law_numbers", "_law_word"] ["_law_script"] (defScope s_law) := ⟨rfl, rfl, rfl, by decide +kernel, rfl, by decide +kernel, by decide +kernel⟩
structure Txt (w : World) (K : PySem.W.Frag) (mg : Str → Option Value) : Type where
  f_is_text : Addr
  d_is_text : FuncData
  F_is_text : Fun K "is_text" "is_text" s_is_text f_is_text d_is_text
  g_is_text : mg "is_text" = some (.ref f_is_text)
  b_is_text : Binds K d_is_text ["text", "most"] []
  f_need_text : Addr
  d_need_text : FuncData
  F_need_text : Fun K "need_text" "need_text" s_need_text f_need_text d_need_text
  g_need_text : mg "need_text" = some (.ref f_need_text)
  b_need_text : Binds K d_need_text ["text"] []
  f_need_words : Addr
  d_need_words : FuncData
  F_need_words : Fun K "need_words" "need_words" s_need_words f_need_words d_need_words
  g_need_words : mg "need_words" = some (.ref f_need_words)
  b_need_words : Binds K d_need_words ["words"] []
  f_case_of : Addr
  d_case_of : FuncData
  F_case_of : Fun K "case_of" "case_of" s_case_of f_case_of d_case_of
  g_case_of : mg "case_of" = some (.ref f_case_of)
  b_case_of : Binds K d_case_of ["words", "text"] []
  f_case : Addr
  d_case : FuncData
  F_case : Fun K "case" "case" s_case f_case d_case
  g_case : mg "case" = some (.ref f_case)
  b_case : Binds K d_case ["words", "text"] []
  f_box_of : Addr
  d_box_of : FuncData
  F_box_of : Fun K "box_of" "box_of" s_box_of f_box_of d_box_of
  g_box_of : mg "box_of" = some (.ref f_box_of)
  b_box_of : Binds K d_box_of ["text", "factor", "size"] []
  f_box : Addr
  d_box : FuncData
  F_box : Fun K "box" "box" s_box f_box d_box
  g_box : mg "box" = some (.ref f_box)
  b_box : Binds K d_box ["text", "factor", "size"] []
  f_table_of : Addr
  d_table_of : FuncData
  F_table_of : Fun K "table_of" "table_of" s_table_of f_table_of d_table_of
  g_table_of : mg "table_of" = some (.ref f_table_of)
  b_table_of : Binds K d_table_of ["words"] []
  f_table : Addr
  d_table : FuncData
  F_table : Fun K "table" "table" s_table f_table d_table
  g_table : mg "table" = some (.ref f_table)
  b_table : Binds K d_table ["words"] []
  f_by_table : Addr
  d_by_table : FuncData
  F_by_table : Fun K "by_table" "by_table" s_by_table f_by_table d_by_table
  g_by_table : mg "by_table" = some (.ref f_by_table)
  b_by_table : Binds K d_by_table ["words", "text"] []
  f_law_taken : Addr
  d_law_taken : FuncData
  F_law_taken : Fun K "_law_taken" "_law_taken" s_law_taken f_law_taken d_law_taken
  g_law_taken : mg "_law_taken" = some (.ref f_law_taken)
  b_law_taken : Binds K d_law_taken ["_law_row", "_law_many"] []
  f_law_text : Addr
  d_law_text : FuncData
  F_law_text : Fun K "_law_text" "_law_text" s_law_text f_law_text d_law_text
  g_law_text : mg "_law_text" = some (.ref f_law_text)
  b_law_text : Binds K d_law_text ["_law_row", "_law_most", "_law_few"] []
  f_law_near : Addr
  d_law_near : FuncData
  F_law_near : Fun K "_law_near" "_law_near" s_law_near f_law_near d_law_near
  g_law_near : mg "_law_near" = some (.ref f_law_near)
  b_law_near : Binds K d_law_near ["_law_row", "_law_text_here"] []
  f_law_words : Addr
  d_law_words : FuncData
  F_law_words : Fun K "_law_words" "_law_words" s_law_words f_law_words d_law_words
  g_law_words : mg "_law_words" = some (.ref f_law_words)
  b_law_words : Binds K d_law_words ["_law_row", "_law_most"] []
  f_law_texts : Addr
  d_law_texts : FuncData
  F_law_texts : Fun K "_law_texts" "_law_texts" s_law_texts f_law_texts d_law_texts
  g_law_texts : mg "_law_texts" = some (.ref f_law_texts)
  b_law_texts : Binds K d_law_texts ["_law_row", "_law_words_here"] []
  f_law_whole : Addr
  d_law_whole : FuncData
  F_law_whole : Fun K "_law_whole" "_law_whole" s_law_whole f_law_whole d_law_whole
  g_law_whole : mg "_law_whole" = some (.ref f_law_whole)
  b_law_whole : Binds K d_law_whole ["_law_text_here", "_law_factor"] []
  f_law : Addr
  d_law : FuncData
  F_law : Fun K "law" "law" s_law f_law d_law
  g_law : mg "law" = some (.ref f_law)
  b_law : Binds K d_law ["_law_script"] []
  t_SIGNS : Tok
  c_SIGNS : mg "SIGNS" = some (.str "abcd" t_SIGNS)
  t_MOST_SIGNS : Tok
  c_MOST_SIGNS : mg "MOST_SIGNS" = some (.int 10 t_MOST_SIGNS)
  t_MOST_LETTERS : Tok
  c_MOST_LETTERS : mg "MOST_LETTERS" = some (.int 6 t_MOST_LETTERS)
  t_MOST_WORDS : Tok
  c_MOST_WORDS : mg "MOST_WORDS" = some (.int 8 t_MOST_WORDS)
  t_MOST_FACTOR : Tok
  c_MOST_FACTOR : mg "MOST_FACTOR" = some (.int 30 t_MOST_FACTOR)
  t_MOST_SIZE : Tok
  c_MOST_SIZE : mg "MOST_SIZE" = some (.int 16 t_MOST_SIZE)
  t_REST : Tok
  c_REST : mg "REST" = some (.int 97 t_REST)
  n_len : mg "len" = none
  n_range : mg "range" = none
  n_set : mg "set" = none
  n_int : mg "int" = none
  n_min : mg "min" = none
  a_NoTable : Addr
  e_NoTable : ExcTxt K mg "NoTable" a_NoTable
local macro_rules | `(tactic| walk_at "om") => `(tactic| first | omega | (simp only [List.length_append, List.length_cons, List.length_nil, List.length_map, List.length_take, List.length_drop, rep_len]; done) | (simp only [List.length_append, List.length_cons, List.length_nil, List.length_map, List.length_take, List.length_drop, rep_len]; omega))
local macro_rules | `(tactic| walk_at "st") => `(tactic| first
  | (with_reducible refine iteF ?_)
  | (with_reducible refine iteT ?_)
  | (with_reducible refine q_asg ?_)
  | (with_reducible refine q_drop ?_)
  | (with_reducible refine q_when ?_)
  | (with_reducible refine s_asg ?_)
  | (with_reducible refine s_drop ?_)
  | (with_reducible refine s_ret ?_)
  | (with_reducible refine s_next ?_)
  | (with_reducible refine s_break ?_)
  | (with_reducible refine s_cont ?_)
  | (with_reducible refine q_if ?_)
  | (with_reducible refine s_if ?_)
  | ((with_reducible show EvE _ (tVar _) _ _ _); first | refine ee_var rfl ?_ | refine ee_val rfl ?_)
  | (with_reducible refine ee_int ?_)
  | (with_reducible refine ee_abcd ?_)
  | (with_reducible refine ee_ten ?_)
  | (with_reducible refine ee_ab ?_)
  | (with_reducible refine ee_empty ?_)
  | (with_reducible refine ee_str ?_)
  | (with_reducible refine rv_inS ?_)
  | (with_reducible refine rv_ninS ?_)
  | (with_reducible refine ee_bl ?_)
  | (with_reducible refine ee_non ?_)
  | (with_reducible refine ee_op ?_)
  | (with_reducible refine ee_un ?_)
  | (with_reducible refine ee_isi2 ?_)
  | (with_reducible refine ee_cb ?_)
  | (with_reducible refine ee_call ?_)
  | (with_reducible refine ea_cons ?_)
  | (with_reducible refine ea_nil ?_)
  | (with_reducible refine ee_if ?_)
  | (with_reducible refine ee_andV ?_)
  | (with_reducible refine ee_orV ?_)
  | (with_reducible refine ee_notV ?_)
  | (with_reducible refine ee_chain ?_)
  | (with_reducible refine ee_sl ?_)
  | (with_reducible refine eo_none ?_)
  | (with_reducible refine eo_some ?_)
  | (with_reducible refine et_test ?_)
  | (with_reducible refine et_B ?_)
  | (with_reducible refine et_and ?_)
  | (with_reducible refine et_or ?_)
  | (with_reducible refine et_not ?_)
  | (with_reducible refine et_yes ?_)
  | (with_reducible refine rv_add ?_)
  | (with_reducible refine rv_sub ?_)
  | (with_reducible refine rv_lt ?_)
  | (with_reducible refine rv_le ?_)
  | (with_reducible refine rv_gt ?_)
  | (with_reducible refine rv_ge ?_)
  | (with_reducible refine rv_eqI ?_)
  | (with_reducible refine rv_neI ?_)
  | (with_reducible refine rv_eqT ?_)
  | ((with_reducible refine rv_mul ?hc ?_); (case hc => first | exact .inl ⟨by omega, by omega⟩ | exact .inr ⟨by omega, by omega⟩))
  | ((with_reducible refine rv_mod ?hc ?_); (case hc => omega))
  | ((with_reducible refine rv_fdiv ?hc ?_); (case hc => exact ⟨by omega, by omega⟩))
  | (with_reducible refine rv_isN ?_)
  | (with_reducible refine rv_notN ?_)
  | (with_reducible refine rv_lenL ?_)
  | (with_reducible refine rv_lenT ?_)
  | ((with_reducible show RVs _ _ [.val _] _ _); first | refine rv_lenC put_same ?_ | refine rv_lenC (by assumption) ?_ | refine rv_rowLen put_same ?_)
  | ((with_reducible refine rv_lenS ?hl ?_); (case hl => walk_at "om"))
  | ((with_reducible refine rv_addS ?hl ?_); (case hl => walk_at "om"))
  | (with_reducible refine ei_strT ?_)
  | (with_reducible refine ei_list ?_)
  | (with_reducible refine ei_tup ?_)
  | (with_reducible refine ee_tup ?_)
  | (with_reducible refine ee_tupZ ?_)
  | ((with_reducible refine ⟨_, da0, ?_, ?_⟩); (show 0 ≤ 100000; decide))
  | ((with_reducible refine ⟨_, da1, ?_, ?_⟩); (show 1 ≤ 100000; decide))
  | ((with_reducible refine ⟨_, da2, ?_, ?_⟩); (show 2 ≤ 100000; decide))
  | ((with_reducible refine ⟨_, da3, ?_, ?_⟩); (show 3 ≤ 100000; decide))
  | ((with_reducible refine ⟨_, da4, ?_, ?_⟩); (show 4 ≤ 100000; decide))
  | ((with_reducible refine ⟨_, da8, ?_, ?_⟩); (show 8 ≤ 100000; decide))
  | ((with_reducible show RV2 _ (rIxL _) (.val _) (.dat (.int _)) _ _); first | refine rv_row put_same (.inl ⟨rfl, rfl⟩) ?_ | refine rv_row put_same (.inr (.inl ⟨rfl, rfl⟩)) ?_ | refine rv_row put_same (.inr (.inr (.inl ⟨rfl, rfl⟩))) ?_ | refine rv_row put_same (.inr (.inr (.inr ⟨rfl, rfl⟩))) ?_)
  | ((with_reducible refine rv_mulS ?h0 ?h1 ?hl ?_); (case h0 => omega); (case h1 => omega); (case hl => first | (show 1 ≤ 100; decide) | walk_at "om"))
  | (with_reducible refine rv_min2 ?_)
  | (with_reducible refine rv_max2 ?_)
  | (with_reducible refine q_par ?_)
  | (with_reducible refine q_par3 ?_)
  | (with_reducible refine s_par ?_)
  | (with_reducible refine rv_tupL ?_)
  | (with_reducible refine rv_tupT ?_)
  | (with_reducible refine rv_tupZ .d ?_)
  | (with_reducible refine ei_zt ?_)
  | (with_reducible refine ee_ty ?_)
  | (with_reducible refine rv_neg ?_)
  | (with_reducible refine rv_eqS ?_)
  | (with_reducible refine ee_tupRg1 ?_)
  | (with_reducible refine rv_sumL ?_)
  | ((with_reducible show RV2 _ (rIxT _) (.dat (.tuple _)) (.dat (.int _)) _ _); refine rv_ixT rfl ?_)
  | (with_reducible refine ei_rng1 ?_)
  | (with_reducible refine ei_rng2 ?_)
  | (with_reducible refine ee_join ?_)
  | (with_reducible refine rv_int1 ?_)
  | (with_reducible refine rv_int1b ?_)
  | (with_reducible refine ee_sindex ?_)
  | (with_reducible refine ee_index ?_)
  | (with_reducible refine ee_lenSet ?_)
  | (with_reducible refine ⟨rfl, ?_⟩)
  | (with_reducible refine ⟨_, rfl, ?_⟩)
  | (with_reducible refine ⟨_, _, rfl, ?_⟩))
local macro_rules | `(tactic| walk_at "dl") => `(tactic| (refine ee_lst ?_; walk_at "go"))
local macro_rules | `(tactic| walk_at "go") => `(tactic| repeat (walk_at "st"))

def ct_is_text : Ct := fun es L P X => ∃ l m, es = [.dat (.str (tx l)), .dat (.int m)] ∧ l.length ≤ 1000 ∧ Okc l ∧ P (.dat (.bool (isText l m))) L
section
variable {P : Program} {w : World} {K : PySem.W.Frag} {mg : Str → Option Value} {base : Heap}
theorem ok_is_text (T : Txt w K mg) : FnOk P w K mg base CX0 1 T.f_is_text T.d_is_text ["text", "most"] (spOf (ct_is_text)) := by
  refine T.F_is_text.ok sc_is_text (fun vs H Q E h => spOf_len (n := 2) (by rintro es L P X ⟨l, m, rfl, _⟩; rfl) h) (fun cdv A outer s H vs Q E hr h => ⟨_, (pss_one (ps_ret (pe_and (pe_cmpR op_le (pe_callB call_len_str (by rfl) T.n_len (by decide +kernel) (pa_cons (pv 0) pa_nil)) (pv 1) (nomark _)) (pe_one (pe_cmpR (op_eqDK (K := K) rfl hr.units) (pe_lc (own := [("sign", 2)]) rfl sc_is_text.nd (pi_str (pv 0)) (blkOk_by (by kernel_rfl)) (fun _ _ _ _ _ => (pg_name (i := 2) sc_is_text.nd rfl (by first | exact Or.inl rfl | exact Or.inr rfl))) (fun _ _ _ _ _ => (pts_one (pt_cmpR op_notIn_sign (pv 2) (pe_glob (v := .str "abcd") (by rfl) T.c_SIGNS ⟨_, rfl⟩) (by rfl)))) (fun _ _ _ _ _ => (pv 2))) (pe_lst pa_nil) (nomark _)))))), body h fun B0 es L P X hc hx => ?_⟩)
  obtain ⟨l, m, rfl, hl, hok, hp⟩ := hc
  show SE B0 _ [_, _, .unk] L _
  walk_at "go"
  refine iteD (fun h1 => ?_) (fun h1 => ?_)
  · walk_at "go"
    refine ee_lcNP (enc := fun c => .str (tx [c])) (fun c => !isSg c) (fun c => .str (tx [c])) ?_
    walk_at "go"
    refine ⟨by omega, fun fr c hc => ⟨?_, fun _ => ?_⟩, ?_⟩
    · walk_at "go"
      exact rfl
    · walk_at "go"
      exact rfl
    · walk_at "dl"
      refine rv_eqNil (n := 1) (sh_sgs fun c hc => hok c (List.mem_filter.mp hc).1) (by decide) ?_
      refine ⟨_, Weak.rfl, ?_⟩
      have e : isText l m = ((l.filter fun c => !isSg c).map fun c => PyData.str (tx [c])).isEmpty := by
        unfold isText
        rw [decide_eq_true h1, Bool.true_and, List.isEmpty_map]
        rw [Bool.eq_iff_iff, List.isEmpty_iff, List.filter_eq_nil_iff, List.all_eq_true]
        simp
      rw [← e]
      exact hp
  · refine ⟨_, Weak.rfl, ?_⟩
    have e : isText l m = false := by unfold isText; rw [decide_eq_false h1]; rfl
    rw [← e]
    exact hp
end

def ct_need_text : Ct := fun es L P X => ∃ l, es = [.dat (.str (tx l))] ∧ l.length ≤ 10 ∧ Sg l ∧ P (.dat .none) L
section
variable {P : Program} {w : World} {K : PySem.W.Frag} {mg : Str → Option Value} {base : Heap}
theorem ok_need_text (T : Txt w K mg) : FnOk P w K mg base CX0 3 T.f_need_text T.d_need_text ["text"] (spOf (ct_need_text)) := by
  refine T.F_need_text.ok sc_need_text (fun vs H Q E h => spOf_len (n := 1) (by rintro es L P X ⟨l, rfl, _⟩; rfl) h) (fun cdv A outer s H vs Q E hr h => ⟨_, (pss_one (ps_if (pt_not (pt_val (pe_call (ok_is_text T) (hr.mono (by decide)) (by rfl) T.g_is_text T.F_is_text.kp T.b_is_text .nil pass0 (pa_cons (pv 0) (pa_cons (pe_glob (v := .int 10) (by rfl) T.c_MOST_SIGNS ⟨_, rfl⟩) pa_nil))))) (pss_one ps_never) pss_nil)), body h fun B0 es L P X hc hx => ?_⟩)
  obtain ⟨l, rfl, hl, hs, hp⟩ := hc
  show SE B0 _ [_] L _
  walk_at "go"
  refine ⟨l, 10, rfl, by omega, hs.okc, ?_⟩
  walk_at "go"
  refine iteNB (fun h => ?_) (fun h => ?_)
  · walk_at "go"
    exact ⟨_, Weak.rfl, hp⟩
  · rw [isText_of hs (by omega)] at h
    cases h
end

def ct_need_words : Ct := fun es L P X => ∃ ws, es = [.dat (.list (txs ws))] ∧ Wds ws ∧ P (.dat .none) L
section
variable {P : Program} {w : World} {K : PySem.W.Frag} {mg : Str → Option Value} {base : Heap}
theorem ok_need_words (T : Txt w K mg) : FnOk P w K mg base CX0 3 T.f_need_words T.d_need_words ["words"] (spOf (ct_need_words)) := by
  refine T.F_need_words.ok sc_need_words (fun vs H Q E h => spOf_len (n := 1) (by rintro es L P X ⟨l, rfl, _⟩; rfl) h) (fun cdv A outer s H vs Q E hr h => ⟨_, (pss_cons (ps_if (pt_cmpR op_eq (pe_callB (len_seqK (K := K) rfl) (by rfl) T.n_len (by decide +kernel) (pa_cons (pv 0) pa_nil)) pe_int (nomark _)) (pss_one ps_never) pss_nil)
    (pss_one (ps_for PassesOwn.never rfl (pi_range1 (by rfl) T.n_range (pa_cons (pe_callB (len_seqK (K := K) rfl) (by rfl) T.n_len (by decide +kernel) (pa_cons (pv 0) pa_nil)) pa_nil)) (pg_name (i := 1) sc_need_words.nd rfl (by first | exact Or.inl rfl | exact Or.inr rfl)) (pss_one (ps_if (PW.pt (pw_or (pt_cmpR op_ge (pv 1) (pe_glob (v := .int 8) (by rfl) T.c_MOST_WORDS ⟨_, rfl⟩) (nomark _)) (pw_or (pt_not (pt_val (pe_call (ok_is_text T) (hr.mono (by decide)) (by rfl) T.g_is_text T.F_is_text.kp T.b_is_text .nil pass0 (pa_cons (pe_ix (ix_listK (K := K) rfl) (pv 0) (pv 1) (fun _ _ => rfl)) (pa_cons (pe_glob (v := .int 6) (by rfl) T.c_MOST_LETTERS ⟨_, rfl⟩) pa_nil))))) (pw_or1 (pt_cmpR (op_in_seqK (K := K) rfl) (pe_ix (ix_listK (K := K) rfl) (pv 0) (pv 1) (fun _ _ => rfl)) (pe_slice (sl_listK (K := K) rfl) (pv 0) po_none (po_some (pv 1))) (by rfl)))))) (pss_one ps_never) pss_nil))))), body h fun B0 es L P X hc hx => ?_⟩)
  obtain ⟨ws, rfl, hw, hp⟩ := hc
  have hlen := hw.len
  show SE B0 _ [_, .unk] L _
  walk_at "go"
  refine iteD (fun h => ?_) (fun h => ?_)
  · exfalso
    have : ws.length = 0 := by simpa using h
    exact hw.ne (List.length_eq_zero_iff.mp this)
  refine s_forR1 (fun i e l => (∃ x, e = [.dat (.list (txs ws)), x]) ∧ l = L) ?_
  walk_at "go"
  refine ⟨by simp <;> omega, by simp <;> omega, ⟨⟨_, rfl⟩, rfl⟩, ?_, ?_⟩
  · rintro i e l hi ⟨⟨x, rfl⟩, rfl⟩
    have hi' : i < ws.length := by simpa using hi
    have hg : ws[i]? = some ws[i] := List.getElem?_eq_getElem hi'
    show SE B0 _ [_, _] _ _
    walk_at "go"
    refine ite_f (decide_eq_false (by omega)) ?_
    walk_at "go"
    refine rv_ixL (txs_atI hg) ?_
    walk_at "go"
    have hm := List.mem_of_getElem? hg
    have h6 := hw.six _ hm
    refine ⟨_, _, rfl, by omega, (hw.sg _ hm).okc, ?_⟩
    walk_at "go"
    refine ite_f (by rw [isText_of (hw.sg _ hm) (by omega)]; rfl) ?_
    walk_at "go"
    refine rv_ixL (txs_atI hg) ?_
    walk_at "go"
    refine rs_list ?_
    rw [cutD_to, ← List.map_take]
    refine rv_inL rfl (flat_txs _) ?_
    rw [in_txs]
    walk_at "go"
    refine ite_f ?_ ?_
    · show decide _ = false
      refine decide_eq_false fun m => ?_
      obtain ⟨j, hj⟩ := List.mem_iff_getElem?.mp m
      rw [List.getElem?_take] at hj
      split at hj
      · rename_i lt
        obtain ⟨h1, h2⟩ := List.getElem?_eq_some_iff.mp hj
        exact absurd ((List.getElem_inj hw.nd).mp h2) (by omega)
      · cases hj
    · walk_at "go"
      exact ⟨⟨_, rfl⟩, rfl⟩
  · rintro e l ⟨_, rfl⟩
    exact ⟨_, Weak.rfl, hp⟩
end

def ct_case_of : Ct := fun es L P X => ∃ ws t, es = [.dat (.list (txs ws)), .dat (.str (tx t))] ∧ P (.dat (optD (caseN ws t))) L
section
variable {P : Program} {w : World} {K : PySem.W.Frag} {mg : Str → Option Value} {base : Heap}
theorem ok_case_of (T : Txt w K mg) : FnOk P w K mg base CX0 1 T.f_case_of T.d_case_of ["words", "text"] (spOf (ct_case_of)) := by
  refine T.F_case_of.ok sc_case_of (fun vs H Q E h => spOf_len (n := 2) (by rintro es L P X ⟨l, t, rfl, _⟩; rfl) h) (fun cdv A outer s H vs Q E hr h => ⟨_, (pss_one (ps_ret (pe_ifExp (pt_cmpR (op_in_seqK (K := K) rfl) (pv 1) (pv 0) (by rfl)) (pe_bmK (K := K) rfl PySem.F.plainAttrs_list PySem.F.slot_list_index PySem.F.type_list_index (mt_indexK (K := K) rfl) (pv 0) (pa_cons (pv 1) pa_nil)) pe_non))), body h fun B0 es L P X hc hx => ?_⟩)
  obtain ⟨ws, t, rfl, hp⟩ := hc
  show SE B0 _ [_, _] L _
  walk_at "go"
  refine rv_inL rfl (flat_txs _) ?_
  rw [in_txs]
  walk_at "go"
  refine iteD (fun h => ?_) (fun h => ?_)
  · walk_at "go"
    obtain ⟨j, h1, h2, h3, h4⟩ := idxOf_getN h
    refine ⟨_, j, .str (tx t), rfl, rfl, flat_txs _, by rw [List.getElem?_map, h2]; rfl, by rw [eqV_str]; exact beq_self_eq_true _, fun m z' hm hz => ?_, ?_⟩
    · obtain ⟨c, hc, rfl⟩ := txs_get hz
      rw [eqV_str]
      exact beq_eq_false_iff_ne.mpr fun q => h3 m hm (by rw [hc, tx_inj q])
    · refine ⟨_, Weak.rfl, ?_⟩
      have e : caseN ws t = some j := by unfold caseN; rw [if_pos h, h4]
      rw [e] at hp
      exact hp
  · walk_at "go"
    refine ⟨_, Weak.rfl, ?_⟩
    have e : caseN ws t = none := by unfold caseN; rw [if_neg h]
    rw [e] at hp
    exact hp
end

def ct_case : Ct := fun es L P X => ∃ ws t, es = [.dat (.list (txs ws)), .dat (.str (tx t))] ∧ Wds ws ∧ t.length ≤ 10 ∧ Sg t ∧ P (.dat (optD (caseN ws t))) L
section
variable {P : Program} {w : World} {K : PySem.W.Frag} {mg : Str → Option Value} {base : Heap}
theorem ok_case (T : Txt w K mg) : FnOk P w K mg base CX0 4 T.f_case T.d_case ["words", "text"] (spOf (ct_case)) := by
  refine T.F_case.ok sc_case (fun vs H Q E h => spOf_len (n := 2) (by rintro es L P X ⟨l, t, rfl, _⟩; rfl) h) (fun cdv A outer s H vs Q E hr h => ⟨_, (pss_cons (ps_expr (pe_call (ok_need_words T) hr (by rfl) T.g_need_words T.F_need_words.kp T.b_need_words .nil pass0 (pa_cons (pv 0) pa_nil)))
    (pss_cons (ps_expr (pe_call (ok_need_text T) hr (by rfl) T.g_need_text T.F_need_text.kp T.b_need_text .nil pass0 (pa_cons (pv 1) pa_nil)))
    (pss_one (ps_ret (pe_call (ok_case_of T) (hr.mono (by decide)) (by rfl) T.g_case_of T.F_case_of.kp T.b_case_of .nil pass0 (pa_cons (pv 0) (pa_cons (pv 1) pa_nil))))))), body h fun B0 es L P X hc hx => ?_⟩)
  obtain ⟨ws, t, rfl, hw, hl, hs, hp⟩ := hc
  show SE B0 _ [_, _] L _
  walk_at "go"
  refine ⟨ws, rfl, hw, ?_⟩
  walk_at "go"
  refine ⟨t, rfl, hl, hs, ?_⟩
  walk_at "go"
  exact ⟨ws, t, rfl, _, Weak.rfl, hp⟩
end

def ct_box_of : Ct := fun es L P X => ∃ l f s, es = [.dat (.str (tx l)), .dat (.int f), .dat (.int s)] ∧ Sg l ∧ 1 ≤ f ∧ f ≤ 30 ∧ 1 ≤ s ∧ s ≤ 16 ∧ P (.dat (.int (boxW l f % s))) L
section
variable {P : Program} {w : World} {K : PySem.W.Frag} {mg : Str → Option Value} {base : Heap}
theorem ok_box_of (T : Txt w K mg) : FnOk P w K mg base CX0 1 T.f_box_of T.d_box_of ["text", "factor", "size"] (spOf (ct_box_of)) := by
  refine T.F_box_of.ok sc_box_of (fun vs H Q E h => spOf_len (n := 3) (by rintro es L P X ⟨l, t, s, rfl, _⟩; rfl) h) (fun cdv A outer s H vs Q E hr h => ⟨_, (pss_cons (ps_set (i := 3) sc_box_of.nd rfl (by first | exact Or.inl rfl | exact Or.inr rfl) pe_int)
    (pss_cons (ps_for PassesOwn.never rfl (pi_str (pv 0)) (pg_name (i := 4) sc_box_of.nd rfl (by first | exact Or.inl rfl | exact Or.inr rfl)) (pss_one (ps_set (i := 3) sc_box_of.nd rfl (by first | exact Or.inl rfl | exact Or.inr rfl) (pe_op op_mod (pe_op op_add (pe_op op_add (pe_op op_mul (pv 3) (pv 1)) pe_int) (pe_bmK (K := K) rfl PySem.F.plainAttrs_str PySem.F.slot_str_index PySem.F.type_str_index mt_sindex (pe_glob (v := .str "abcd") (by rfl) T.c_SIGNS ⟨_, rfl⟩) (pa_cons (pv 4) pa_nil))) (pe_glob (v := .int 97) (by rfl) T.c_REST ⟨_, rfl⟩)))))
    (pss_one (ps_ret (pe_op op_mod (pv 3) (pv 2)))))), body h fun B0 es L P X hc hx => ?_⟩)
  obtain ⟨t, f, s, rfl, hs, f0, f1, s0, s1, hp⟩ := hc
  show SE B0 _ [_, _, _, .unk, .unk] L _
  walk_at "go"
  refine q_forN (fun i e l => (∃ x, e = [.dat (.str (tx t)), .dat (.int f), .dat (.int s), .dat (.int (boxW (t.take i) f)), x]) ∧ l = L) ?_
  walk_at "go"
  refine ⟨⟨⟨_, rfl⟩, rfl⟩, ?_, ?_⟩
  · rintro i d e l hi ⟨⟨x, rfl⟩, rfl⟩
    obtain ⟨c, hc, rfl⟩ := sgs_get hi
    have hb := boxW_lt (t.take i) f
    show SE B0 _ [_, _, _, _, _] _ _
    walk_at "go"
    refine ⟨_, _, _, rfl, occ_tx (hs c (List.mem_of_getElem? hc)), ?_⟩
    walk_at "go"
    rw [boxW_take hc]
    exact ⟨⟨_, rfl⟩, rfl⟩
  · rintro e l ⟨⟨x, rfl⟩, rfl⟩
    rw [List.length_map, List.take_length]
    walk_at "go"
    exact ⟨_, Weak.rfl, hp⟩
end

def ct_box : Ct := fun es L P X => ∃ l f s, es = [.dat (.str (tx l)), .dat (.int f), .dat (.int s)] ∧ l.length ≤ 10 ∧ Sg l ∧ 1 ≤ f ∧ f ≤ 30 ∧ 1 ≤ s ∧ s ≤ 16 ∧ P (.dat (.int (boxW l f % s))) L
section
variable {P : Program} {w : World} {K : PySem.W.Frag} {mg : Str → Option Value} {base : Heap}
theorem ok_box (T : Txt w K mg) : FnOk P w K mg base CX0 4 T.f_box T.d_box ["text", "factor", "size"] (spOf (ct_box)) := by
  refine T.F_box.ok sc_box (fun vs H Q E h => spOf_len (n := 3) (by rintro es L P X ⟨l, t, s, rfl, _⟩; rfl) h) (fun cdv A outer s H vs Q E hr h => ⟨_, (pss_cons (ps_expr (pe_call (ok_need_text T) hr (by rfl) T.g_need_text T.F_need_text.kp T.b_need_text .nil pass0 (pa_cons (pv 0) pa_nil)))
    (pss_cons (ps_if (PW.pt (pw_or (pt_not (pt_chain op_le op_le pe_int (pv 1) (pe_glob (v := .int 30) (by rfl) T.c_MOST_FACTOR ⟨_, rfl⟩))) (pw_or1 (pt_not (pt_chain op_le op_le pe_int (pv 2) (pe_glob (v := .int 16) (by rfl) T.c_MOST_SIZE ⟨_, rfl⟩)))))) (pss_one ps_never) pss_nil)
    (pss_one (ps_ret (pe_call (ok_box_of T) (hr.mono (by decide)) (by rfl) T.g_box_of T.F_box_of.kp T.b_box_of .nil pass0 (pa_cons (pv 0) (pa_cons (pv 1) (pa_cons (pv 2) pa_nil)))))))), body h fun B0 es L P X hc hx => ?_⟩)
  obtain ⟨t, f, s, rfl, hl, hs, f0, f1, s0, s1, hp⟩ := hc
  show SE B0 _ [_, _, _] L _
  walk_at "go"
  refine ⟨t, rfl, hl, hs, ?_⟩
  walk_at "go"
  refine ite_t (decide_eq_true f0) ?_
  walk_at "go"
  refine ite_f (by rw [decide_eq_true f1]; rfl) ?_
  walk_at "go"
  refine ite_t (decide_eq_true s0) ?_
  walk_at "go"
  refine ite_f (by rw [decide_eq_true s1]; rfl) ?_
  walk_at "go"
  exact ⟨t, f, s, rfl, hs, f0, f1, s0, s1, _, Weak.rfl, hp⟩
end

def ct_table_of (C : Addr) : Ct := fun es L P X => ∃ ws, es = [.dat (.list (txs ws))] ∧ Wds ws ∧ (∀ s f, IsTab ws s f → P (.dat (tabD ws s f)) L) ∧ (NoTab ws → X (.ref C) L)
section
variable {P : Program} {w : World} {K : PySem.W.Frag} {mg : Str → Option Value} {base : Heap}
theorem ok_table_of (T : Txt w K mg) : FnOk P w K mg base (L2N.CX P w) 3 T.f_table_of T.d_table_of ["words"] (spOf (ct_table_of T.a_NoTable)) := by
  refine L2N.okN T.F_table_of sc_table_of (fun vs H Q E h => spOf_len (n := 1) (by rintro es L P X ⟨l, rfl, _⟩; rfl) h) (fun cdv A outer s H vs Q E hr h => ⟨_, (pss_cons (ps_for (passes_of rfl) rfl (pi_range2 (by rfl) T.n_range (pa_cons (pe_callB (len_seqK (K := K) rfl) (by rfl) T.n_len (by decide +kernel) (pa_cons (pv 0) pa_nil)) (pa_cons (pe_op op_add (pe_glob (v := .int 16) (by rfl) T.c_MOST_SIZE ⟨_, rfl⟩) pe_int) pa_nil))) (pg_name (i := 1) sc_table_of.nd rfl (by first | exact Or.inl rfl | exact Or.inr rfl)) (pss_one (ps_for (passes_of rfl) rfl (pi_range2 (by rfl) T.n_range (pa_cons pe_int (pa_cons (pe_op op_add (pe_glob (v := .int 30) (by rfl) T.c_MOST_FACTOR ⟨_, rfl⟩) pe_int) pa_nil))) (pg_name (i := 2) sc_table_of.nd rfl (by first | exact Or.inl rfl | exact Or.inr rfl)) (pss_cons (ps_set (i := 3) sc_table_of.nd rfl (by first | exact Or.inl rfl | exact Or.inr rfl) (pe_lc (own := [("word", 4)]) rfl sc_table_of.nd (pi_listK (K := K) rfl (pv 0)) (blkOk_by (by kernel_rfl)) (fun _ _ _ _ _ => (pg_name (i := 4) sc_table_of.nd rfl (by first | exact Or.inl rfl | exact Or.inr rfl))) (fun _ _ _ _ _ => pts_nil) (fun _ _ _ _ _ => (pe_call (ok_box_of T) (hr.mono (by decide)) (by rfl) T.g_box_of T.F_box_of.kp T.b_box_of .nil pass0 (pa_cons (pv 4) (pa_cons (pv 2) (pa_cons (pv 1) pa_nil)))))))
    (pss_one (ps_if (pt_cmpR op_eq (lenSetK (K := K) rfl (by rfl) T.n_len (by rfl) T.n_set (pv 3)) (pe_callB (len_seqK (K := K) rfl) (by rfl) T.n_len (by decide +kernel) (pa_cons (pv 0) pa_nil)) (nomark _)) (pss_one (ps_ret (pe_tup (pa_cons (pv 1) (pa_cons (pv 2) (pa_cons (pe_lc (own := [("k", 5)]) rfl sc_table_of.nd (pi_range1 (by rfl) T.n_range (pa_cons (pv 1) pa_nil)) (blkOk_by (by kernel_rfl)) (fun _ _ _ _ _ => (pg_name (i := 5) sc_table_of.nd rfl (by first | exact Or.inl rfl | exact Or.inr rfl))) (fun _ _ _ _ _ => pts_nil) (fun _ _ _ _ _ => (pe_ifExp (pt_cmpR (op_in_seqK (K := K) rfl) (pv 5) (pv 3) (by rfl)) (pe_bmK (K := K) rfl PySem.F.plainAttrs_list PySem.F.slot_list_index PySem.F.type_list_index (mt_indexK (K := K) rfl) (pv 3) (pa_cons (pv 5) pa_nil)) pe_non))) pa_nil)))))) pss_nil))))))
    (pss_one (L2N.ps_raise rfl (L2N.takes_of rfl rfl rfl rfl) (L2N.pmk_own PySem.F.excBase_ValueError T.e_NoTable.x T.e_NoTable.g T.e_NoTable.k (raises_own T.e_NoTable.b T.e_NoTable.t) rfl)))), body h fun B0 es L P X hc hx => ?_⟩)
  obtain ⟨ws, rfl, hw, hp, hX⟩ := hc
  have hlen := hw.len
  show SE B0 _ [_, .unk, .unk, .unk, .unk, .unk] L _
  refine q_forR2 (fun i e l => (∃ x y z u v, e = [.dat (.list (txs ws)), x, y, z, u, v]) ∧ l = L ∧ ∀ s' f' : Int, (ws.length : Int) ≤ s' → s' < ws.length + i → 1 ≤ f' → f' ≤ 30 → ¬ (nums ws f' s').Nodup) ?_
  walk_at "go"
  have ln : ((txs ws).length : Int) = ws.length := by rw [List.length_map]
  rw [ln]
  refine ⟨by omega, by omega, by omega, by omega, ⟨⟨_, _, _, _, _, rfl⟩, rfl, fun s' f' h1 h2 => by omega⟩, ?_, ?_⟩
  · rintro i e l hi ⟨⟨x, y, z, u, v, rfl⟩, rfl, hno⟩
    show SE B0 _ [_, _, _, _, _, _] _ _
    refine s_forR2 (fun j e l' => (∃ y z u v, e = [.dat (.list (txs ws)), .dat (.int ((ws.length : Int) + i)), y, z, u, v]) ∧ l' = l ∧ ∀ f' : Int, 1 ≤ f' → f' < 1 + j → ¬ (nums ws f' ((ws.length : Int) + i)).Nodup) ?_
    walk_at "go"
    refine ⟨by omega, by omega, by omega, by omega, ⟨⟨_, _, _, _, rfl⟩, rfl, fun f' h1 h2 => by omega⟩, ?_, ?_⟩
    · rintro j e l' hj ⟨⟨y, z, u, v, rfl⟩, rfl, hnf⟩
      show SE B0 _ [_, _, _, _, _, _] _ _
      have hf0 : (1 : Int) ≤ 1 + j := by omega
      have hf1 : (1 : Int) + j ≤ 30 := by omega
      have hs1 : (ws.length : Int) + i ≤ 16 := by omega
      have hpos : 0 < ws.length := List.length_pos_iff.mpr hw.ne
      walk_at "go"
      refine ee_lcN (enc := fun w => .str (tx w)) (fun w => .int (boxW w (1 + j) % ((ws.length : Int) + i))) ?_
      walk_at "go"
      refine ⟨by omega, fun fr w hm => ?_, ?_⟩
      · walk_at "go"
        exact ⟨w, _, _, rfl, hw.sg w hm, hf0, hf1, by omega, hs1, rfl, rfl⟩
      · have e : (ws.map fun w => PyData.int (boxW w (1 + j) % ((ws.length : Int) + i))) = nms (nums ws (1 + j) ((ws.length : Int) + i)) := by simp [nums]
        rw [e]
        have nl : (nums ws (1 + j) ((ws.length : Int) + i)).length = ws.length := by simp [nums]
        walk_at "go"
        refine ⟨by omega, ?_⟩
        walk_at "go"
        refine iteD (fun h1 => ?_) (fun h1 => ?_)
        · have hnd : (nums ws (1 + j) ((ws.length : Int) + i)).Nodup := (dd_len _).mp (by rw [nl]; rw [List.length_map] at h1; omega)
          walk_at "go"
          refine ee_lcN (enc := fun k : Nat => .int ((0 : Int) + (k : Int))) (fun k : Nat => if ((k : Int) ∈ nums ws (1 + j) ((ws.length : Int) + i)) then .int ((nums ws (1 + j) ((ws.length : Int) + i)).idxOf (k : Int) : Nat) else .none) ?_
          walk_at "go"
          refine ⟨by omega, by omega, List.range ((ws.length : Int) + i).toNat, rfl, by simp; omega, fun fr k hk => ?_, ?_⟩
          · have zk : (0 : Int) + (k : Int) = k := Int.zero_add _
            rw [zk]
            walk_at "go"
            refine rv_inL rfl (flat_nms _) ?_
            rw [in_nms]
            walk_at "go"
            refine iteD (fun h => ?_) (fun h => ?_)
            · walk_at "go"
              obtain ⟨jj, g1, g2, g3, g4⟩ := idxOf_get h
              refine ⟨_, jj, .int (k : Int), rfl, rfl, flat_nms _, by rw [List.getElem?_map, g2]; rfl, by rw [eqV_int]; exact beq_self_eq_true _, fun m z' hm hz => ?_, ?_⟩
              · obtain ⟨c, hc, rfl⟩ := nms_get hz
                rw [eqV_int]
                exact beq_eq_false_iff_ne.mpr fun q => g3 m hm (by rw [hc, q])
              · rw [if_pos h, g4]
                exact ⟨rfl, rfl⟩
            · walk_at "go"
              rw [if_neg h]
              exact ⟨rfl, rfl⟩
          · walk_at "go"
            refine ⟨_, Weak.rfl, hp ((ws.length : Int) + i) (1 + j) ⟨by omega, hs1, hf0, hf1, hnd, fun s' f' h2 h3 h4 h5 => ?_⟩⟩
            rcases h5 with h5 | ⟨h5, h6⟩
            · exact hno s' f' h2 h5 h3 h4
            · subst h5
              exact hnf f' h3 h6
        · walk_at "go"
          refine ⟨⟨_, _, _, _, rfl⟩, rfl, fun f' h2 h3 => ?_⟩
          rcases Int.lt_or_eq_of_le (show f' ≤ 1 + j by omega) with h4 | h4
          · exact hnf f' h2 (by omega)
          · subst h4
            exact fun hnd => h1 (by rw [(dd_len _).mpr hnd, nl, List.length_map])
    · rintro e l' ⟨⟨y, z, u, v, rfl⟩, rfl, hnf⟩
      refine ⟨⟨_, _, _, _, _, rfl⟩, rfl, fun s' f' h1 h2 h3 h4 => ?_⟩
      rcases Int.lt_or_eq_of_le (show s' ≤ (ws.length : Int) + i by omega) with h5 | h5
      · exact hno s' f' h1 h5 h3 h4
      · subst h5
        exact hnf f' h3 (by simp; omega)
  · rintro e l ⟨⟨x, y, z, u, v, rfl⟩, rfl, hno⟩
    refine se_raising fun B' H' x1 x2 D σ => ?_
    exact hx _ l B' H' x1 x2 (hX fun s f h1 h2 h3 h4 => hno s f h1 (by simp; omega) h3 h4)
end

def ct_table (C : Addr) : Ct := fun es L P X => ∃ ws, es = [.dat (.list (txs ws))] ∧ Wds ws ∧ (∀ s f, IsTab ws s f → P (.dat (tabD ws s f)) L) ∧ (NoTab ws → X (.ref C) L)
section
variable {P : Program} {w : World} {K : PySem.W.Frag} {mg : Str → Option Value} {base : Heap}
theorem ok_table (T : Txt w K mg) : FnOk P w K mg base (L2N.CX P w) 4 T.f_table T.d_table ["words"] (spOf (ct_table T.a_NoTable)) := by
  refine L2N.okN T.F_table sc_table (fun vs H Q E h => spOf_len (n := 1) (by rintro es L P X ⟨l, rfl, _⟩; rfl) h) (fun cdv A outer s H vs Q E hr h => ⟨_, (pss_cons (ps_expr (pe_call (ok_need_words T) hr (by rfl) T.g_need_words T.F_need_words.kp T.b_need_words .nil pass0 (pa_cons (pv 0) pa_nil)))
    (pss_one (ps_ret (pe_call (E := E) (ok_table_of T) hr (by rfl) T.g_table_of T.F_table_of.kp T.b_table_of .nil (L2N.passes_call (L2N.takes_of rfl rfl rfl rfl) (fun _ _ _ _ h => h)) (pa_cons (pv 0) pa_nil))))), body h fun B0 es L P X hc hx => ?_⟩)
  obtain ⟨ws, rfl, hw, hp, hX⟩ := hc
  show SE B0 _ [_] L _
  walk_at "go"
  refine ⟨ws, rfl, hw, ?_⟩
  refine s_ret (ee_callX hx ?_)
  walk_at "go"
  exact ⟨ws, rfl, hw, fun s f h => ⟨_, Weak.rfl, hp s f h⟩, hX⟩
end

theorem atI_boxes {ns : List Int} {s k : Int} (h0 : 0 ≤ k) (h1 : k < s) : L2.atI (boxesD ns s) k = some (if k ∈ ns then .int (ns.idxOf k : Nat) else .none) := by
  obtain ⟨j, rfl⟩ := Int.eq_ofNat_of_zero_le h0
  refine atI_nat ?_
  unfold boxesD
  rw [List.getElem?_map, List.getElem?_range (by omega)]
  rfl
def ct_by_table : Ct := fun es L P X => ∃ ws t, es = [.dat (.list (txs ws)), .dat (.str (tx t))] ∧ Wds ws ∧ t.length ≤ 10 ∧ Sg t ∧ ¬ NoTab ws ∧ P (.dat (optD (caseN ws t))) L
section
variable {P : Program} {w : World} {K : PySem.W.Frag} {mg : Str → Option Value} {base : Heap}
theorem ok_by_table (T : Txt w K mg) : FnOk P w K mg base CX0 4 T.f_by_table T.d_by_table ["words", "text"] (spOf (ct_by_table)) := by
  refine T.F_by_table.ok sc_by_table (fun vs H Q E h => spOf_len (n := 2) (by rintro es L P X ⟨l, t, rfl, _⟩; rfl) h) (fun cdv A outer s H vs Q E hr h => ⟨_, (pss_cons (ps_expr (pe_call (ok_need_words T) hr (by rfl) T.g_need_words T.F_need_words.kp T.b_need_words .nil pass0 (pa_cons (pv 0) pa_nil)))
    (pss_cons (ps_expr (pe_call (ok_need_text T) hr (by rfl) T.g_need_text T.F_need_text.kp T.b_need_text .nil pass0 (pa_cons (pv 1) pa_nil)))
    (pss_cons (ps_asg (pe_call (ok_table_of T) hr (by rfl) T.g_table_of T.F_table_of.kp T.b_table_of .nil L2N.passL (pa_cons (pv 0) pa_nil)) (pg_tupK (K := K) (n := 3) rfl rfl (pgs_cons (pg_name (i := 2) sc_by_table.nd rfl (by first | exact Or.inl rfl | exact Or.inr rfl)) (pgs_cons (pg_name (i := 3) sc_by_table.nd rfl (by first | exact Or.inl rfl | exact Or.inr rfl)) (pgs_cons (pg_name (i := 4) sc_by_table.nd rfl (by first | exact Or.inl rfl | exact Or.inr rfl)) pgs_nil)))))
    (pss_cons (ps_set (i := 5) sc_by_table.nd rfl (by first | exact Or.inl rfl | exact Or.inr rfl) (pe_ix (ix_listK (K := K) rfl) (pv 4) (pe_call (ok_box_of T) (hr.mono (by decide)) (by rfl) T.g_box_of T.F_box_of.kp T.b_box_of .nil pass0 (pa_cons (pv 1) (pa_cons (pv 3) (pa_cons (pv 2) pa_nil)))) (fun _ _ => rfl)))
    (pss_one (ps_ret (pe_ifExp (PW.pt (pw_and (pt_cmpR op_notN (pv 5) pe_non (nomark _)) (pw_and1 (pt_cmpR op_eq (pe_ix (ix_listK (K := K) rfl) (pv 0) (pv 5) (fun _ _ => rfl)) (pv 1) (nomark _))))) (pv 5) pe_non))))))), body h fun B0 es L P X hc hx => ?_⟩)
  obtain ⟨ws, t, rfl, hw, hl, ht, hno, hp⟩ := hc
  have hpos : 0 < ws.length := List.length_pos_iff.mpr hw.ne
  show SE B0 _ [_, _, .unk, .unk, .unk, .unk] L _
  walk_at "go"
  refine ⟨ws, rfl, hw, ?_⟩
  walk_at "go"
  refine ⟨t, rfl, hl, ht, ?_⟩
  refine q_asgG ?_
  walk_at "go"
  refine ⟨ws, rfl, hw, fun s f h => ?_, fun h => hno h⟩
  have hs1 := h.s0
  have hs2 := h.s1
  have hf1 := h.f0
  have hf2 := h.f1
  refine ⟨_, ge_tup3, ?_⟩
  walk_at "go"
  refine ⟨t, f, s, rfl, ht, hf1, hf2, by omega, hs2, ?_⟩
  have hb : 0 ≤ boxW t f % s ∧ boxW t f % s < s := ⟨Int.emod_nonneg _ (by omega), Int.emod_lt_of_pos _ (by omega)⟩
  refine rv_ixL (atI_boxes hb.1 hb.2) ?_
  obtain ⟨t1, t2⟩ := tab_case (t := t) hw.nd h.nd
  by_cases hk : boxW t f % s ∈ nums ws f s
  · obtain ⟨j, g1, g2, g3, g4⟩ := idxOf_get hk
    rw [if_pos hk, g4]
    obtain ⟨w', hw', y, n⟩ := t2 j g2
    walk_at "go"
    refine rv_ixL (txs_atI hw') ?_
    walk_at "go"
    refine iteD (fun e => ?_) (fun e => ?_)
    · walk_at "go"
      rw [y e] at hp
      exact ⟨_, Weak.rfl, hp⟩
    · walk_at "go"
      rw [n e] at hp
      exact ⟨_, Weak.rfl, hp⟩
  · rw [if_neg hk]
    walk_at "go"
    rw [t1 hk] at hp
    exact ⟨_, Weak.rfl, hp⟩
end

def ct_law_taken (K : PySem.W.Frag) : Ct := fun es L P X => ∃ p a ns n, es = [.val (.ref p), .dat (.int n)] ∧ L p = some (rowC K a ns) ∧ 1 ≤ n ∧ n ≤ 100000 ∧ ∀ k, 0 ≤ k → k < n → P (.dat (.int k)) L
section
variable {P : Program} {w : World} {K : PySem.W.Frag} {mg : Str → Option Value} {base : Heap}
theorem ok_law_taken (T : Txt w K mg) : FnOk P w K mg base CX0 1 T.f_law_taken T.d_law_taken ["_law_row", "_law_many"] (spOf (ct_law_taken K)) := by
  refine T.F_law_taken.ok sc_law_taken (fun vs H Q E h => spOf_len (n := 2) (by rintro es L P X ⟨p, a, ns, n, rfl, _⟩; rfl) h) (fun cdv A outer s H vs Q E hr h => ⟨_, (pss_cons (ps_if (pt_cmpR op_gt (pe_ix (ix_listK (K := K) rfl) (pv 0) pe_int (fun _ _ => rfl)) pe_int (nomark _)) (pss_cons (ps_set (i := 2) sc_law_taken.nd rfl (by first | exact Or.inl rfl | exact Or.inr rfl) (pe_op op_mod (pe_callTy call_int1 (by rfl) T.n_int (by decide +kernel) (pa_cons (pe_ix (ix_listK (K := K) rfl) (pv 0) pe_int (fun _ _ => rfl)) pa_nil)) (pv 1)))
    (pss_cons (ps_asg (pe_op op_fdiv (pe_ix (ix_listK (K := K) rfl) (pv 0) pe_int (fun _ _ => rfl)) (pv 1)) (pg_sub (pv 0) pe_int set_list))
    (pss_one (ps_ret (pv 2))))) pss_nil)
    (pss_cons (ps_asg (pe_op op_add (pe_ix (ix_listK (K := K) rfl) (pv 0) pe_int (fun _ _ => rfl)) pe_int) (pg_sub (pv 0) pe_int set_list))
    (pss_cons (ps_if (pt_cmpR op_gt (pe_ix (ix_listK (K := K) rfl) (pv 0) pe_int (fun _ _ => rfl)) (pe_callB (len_seqK (K := K) rfl) (by rfl) T.n_len (by decide +kernel) (pa_cons (pe_ix (ix_listK (K := K) rfl) (pv 0) pe_int (fun _ _ => rfl)) pa_nil)) (nomark _)) (pss_cons (ps_asg (pe_op op_mod (pe_callTy call_int1 (by rfl) T.n_int (by decide +kernel) (pa_cons (pe_op op_add (pe_op op_mul (pe_ix (ix_listK (K := K) rfl) (pv 0) pe_int (fun _ _ => rfl)) pe_int) pe_int) pa_nil)) pe_int) (pg_sub (pv 0) pe_int set_list))
    (pss_one (ps_ret (pe_op op_mod (pe_callTy call_int1 (by rfl) T.n_int (by decide +kernel) (pa_cons (pe_op op_fdiv (pe_ix (ix_listK (K := K) rfl) (pv 0) pe_int (fun _ _ => rfl)) pe_int) pa_nil)) (pv 1))))) pss_nil)
    (pss_cons (ps_set (i := 3) sc_law_taken.nd rfl (by first | exact Or.inl rfl | exact Or.inr rfl) (pe_ix (ix_listK (K := K) rfl) (pe_ix (ix_listK (K := K) rfl) (pv 0) pe_int (fun _ _ => rfl)) (pe_op op_sub (pe_ix (ix_listK (K := K) rfl) (pv 0) pe_int (fun _ _ => rfl)) pe_int) (fun _ _ => rfl)))
    (pss_cons (ps_asg (pe_op op_mod (pe_callTy call_int1 (by rfl) T.n_int (by decide +kernel) (pa_cons (pe_op op_add (pe_op op_add (pe_op op_mul (pe_ix (ix_listK (K := K) rfl) (pv 0) pe_int (fun _ _ => rfl)) pe_int) (pv 3)) pe_int) pa_nil)) pe_int) (pg_sub (pv 0) pe_int set_list))
    (pss_cons (ps_if (pt_cmpR op_ge (pv 3) (pe_op op_pow pe_int pe_int) (nomark _)) (pss_one (ps_asg (pe_op op_fdiv (pv 3) (pv 1)) (pg_sub (pv 0) pe_int set_list))) pss_nil)
    (pss_one (ps_ret (pe_op op_mod (pe_callTy call_int1 (by rfl) T.n_int (by decide +kernel) (pa_cons (pv 3) pa_nil)) (pv 1)))))))))), body h fun B0 es L P X hc hx => ?_⟩)
  obtain ⟨p, a, ns, n, rfl, hr1, n1, n2, hp⟩ := hc
  show SE B0 _ [_, _, .unk, .unk] L _
  refine se_row hr1 fun i m b i0 m0 m1 b0 => ?_
  walk_at "go"
  refine iteD (fun h => ?_) (fun h => ?_)
  · walk_at "go"
    refine q_setRow (K := K) ?_
    walk_at "go"
    refine ⟨_, _, _, _, _, _, _, _, _, _, _, rfl, rfl, put_same, rfl, .inr (.inr ⟨rfl, rfl, rfl, rfl⟩), ?_⟩
    rw [put_put]
    walk_at "go"
    exact ⟨L, row_weak hr1 i0 m0 m1 (Int.ediv_nonneg b0 (by omega)), hp _ (Int.emod_nonneg _ (by omega)) (Int.emod_lt_of_pos _ (by omega))⟩
  · refine q_setRow (K := K) ?_
    walk_at "go"
    refine ⟨_, _, _, _, _, _, _, _, _, _, _, rfl, rfl, put_same, rfl, .inl ⟨rfl, rfl, rfl, rfl⟩, ?_⟩
    rw [put_put]
    walk_at "go"
    refine iteD (fun h1 => ?_) (fun h1 => ?_)
    · refine q_setRow (K := K) ?_
      walk_at "go"
      refine ⟨_, _, _, _, _, _, _, _, _, _, _, rfl, rfl, put_same, rfl, .inr (.inl ⟨rfl, rfl, rfl, rfl⟩), ?_⟩
      rw [put_put]
      walk_at "go"
      exact ⟨L, row_weak hr1 (by omega) (by omega) (by omega) b0, hp _ (Int.emod_nonneg _ (by omega)) (Int.emod_lt_of_pos _ (by omega))⟩
    · walk_at "go"
      refine rv_rowIx put_same (by omega) (by omega) fun c => ?_
      refine q_setRow (K := K) ?_
      walk_at "go"
      refine ⟨_, _, _, _, _, _, _, _, _, _, _, rfl, rfl, put_same, rfl, .inr (.inl ⟨rfl, rfl, rfl, rfl⟩), ?_⟩
      rw [put_put]
      walk_at "go"
      refine rv_pow (by refine ⟨by omega, by omega, by decide⟩) ?_
      walk_at "go"
      refine iteD (fun h2 => ?_) (fun h2 => ?_)
      · refine s_setRow (K := K) ?_
        walk_at "go"
        refine ⟨_, _, _, _, _, _, _, _, _, _, _, rfl, rfl, put_same, rfl, .inr (.inr ⟨rfl, rfl, rfl, rfl⟩), ?_⟩
        rw [put_put]
        walk_at "go"
        have c0 : 0 ≤ c := Int.le_trans (by decide) h2
        exact ⟨L, row_weak hr1 (by omega) (by omega) (by omega) (Int.ediv_nonneg c0 (by omega)), hp _ (Int.emod_nonneg _ (by omega)) (Int.emod_lt_of_pos _ (by omega))⟩
      · walk_at "go"
        exact ⟨L, row_weak hr1 (by omega) (by omega) (by omega) b0, hp _ (Int.emod_nonneg _ (by omega)) (Int.emod_lt_of_pos _ (by omega))⟩
end

def ct_law_text (K : PySem.W.Frag) : Ct := fun es L P X => ∃ p a ns m n, es = [.val (.ref p), .dat (.int m), .dat (.int n)] ∧ L p = some (rowC K a ns) ∧ 0 ≤ m ∧ m ≤ 100 ∧ 1 ≤ n ∧ n ≤ 4 ∧ ∀ t, Sg t → (t.length : Int) ≤ m → P (.dat (.str (tx t))) L
section
variable {P : Program} {w : World} {K : PySem.W.Frag} {mg : Str → Option Value} {base : Heap}
theorem ok_law_text (T : Txt w K mg) : FnOk P w K mg base CX0 2 T.f_law_text T.d_law_text ["_law_row", "_law_most", "_law_few"] (spOf (ct_law_text K)) := by
  refine T.F_law_text.ok sc_law_text (fun vs H Q E h => spOf_len (n := 3) (by rintro es L P X ⟨p, a, ns, m, n, rfl, _⟩; rfl) h) (fun cdv A outer s H vs Q E hr h => ⟨_, (pss_one (ps_ret (pe_joinK (K := K) rfl pe_str (pe_lc (own := [("_law_k", 3)]) rfl sc_law_text.nd (pi_range1 (by rfl) T.n_range (pa_cons (pe_call (ok_law_taken T) hr (by rfl) T.g_law_taken T.F_law_taken.kp T.b_law_taken .nil pass0 (pa_cons (pv 0) (pa_cons (pe_op op_add (pv 1) pe_int) pa_nil))) pa_nil)) (blkOk_by (by kernel_rfl)) (fun _ _ _ _ _ => (pg_name (i := 3) sc_law_text.nd rfl (by first | exact Or.inl rfl | exact Or.inr rfl))) (fun _ _ _ _ _ => pts_nil) (fun _ _ _ _ _ => (pe_ix ix_str pe_str (pe_call (ok_law_taken T) hr (by rfl) T.g_law_taken T.F_law_taken.kp T.b_law_taken .nil pass0 (pa_cons (pv 0) (pa_cons (pv 2) pa_nil))) (fun _ _ => rfl))))))), body h fun B0 es L P X hc hx => ?_⟩)
  obtain ⟨p, a, ns, m, n, rfl, hr1, m0, m1, n1, n2, hp⟩ := hc
  show SE B0 _ [_, _, _, .unk] L _
  walk_at "go"
  refine ee_lcR (α := Nat) (enc := fun i => .int ((0 : Int) + (i : Int))) (fun d => ∃ c, c ∈ [97, 98, 99, 100] ∧ d = .str (tx [c])) (fun l => l = L) ?_
  walk_at "go"
  refine ⟨p, a, ns, m + 1, rfl, hr1, by omega, by omega, fun k k0 k1 => ?_⟩
  walk_at "go"
  refine ⟨by omega, by omega, List.range k.toNat, rfl, by simp <;> omega, rfl, ?_, ?_⟩
  · rintro fr x l hx rfl
    walk_at "go"
    refine ⟨p, a, ns, n, rfl, hr1, n1, by omega, fun k k0 k1 => ?_⟩
    obtain ⟨c, hc, hat⟩ := abcd_at k0 (by omega)
    refine rv_ixSt (by decide) hat ?_
    exact ⟨_, rfl, ⟨c, hc, rfl⟩, rfl⟩
  · rintro out l hlen hW rfl
    obtain ⟨t, rfl, ht, hl⟩ := signs_of hW
    refine ⟨_, rfl, by rw [len_ones]; simp at hlen; omega, _, Weak.rfl, ?_⟩
    rw [flat_ones]
    refine hp t ht ?_
    simp at hlen
    omega
end

def ct_law_near (K : PySem.W.Frag) : Ct := fun es L P X => ∃ p a ns t, es = [.val (.ref p), .dat (.str (tx t))] ∧ L p = some (rowC K a ns) ∧ Sg t ∧ t.length ≤ 1000 ∧ ∀ t', Sg t' → t'.length ≤ t.length + 1 → P (.dat (.str (tx t'))) L
section
variable {P : Program} {w : World} {K : PySem.W.Frag} {mg : Str → Option Value} {base : Heap}
theorem ok_law_near (T : Txt w K mg) : FnOk P w K mg base CX0 2 T.f_law_near T.d_law_near ["_law_row", "_law_text_here"] (spOf (ct_law_near K)) := by
  refine T.F_law_near.ok sc_law_near (fun vs H Q E h => spOf_len (n := 2) (by rintro es L P X ⟨p, a, ns, m, rfl, _⟩; rfl) h) (fun cdv A outer s H vs Q E hr h => ⟨_, (pss_cons (ps_set (i := 2) sc_law_near.nd rfl (by first | exact Or.inl rfl | exact Or.inr rfl) (pe_call (ok_law_taken T) hr (by rfl) T.g_law_taken T.F_law_taken.kp T.b_law_taken .nil pass0 (pa_cons (pv 0) (pa_cons (pe_op op_add (pe_callB call_len_str (by rfl) T.n_len (by decide +kernel) (pa_cons (pv 1) pa_nil)) pe_int) pa_nil))))
    (pss_cons (ps_set (i := 3) sc_law_near.nd rfl (by first | exact Or.inl rfl | exact Or.inr rfl) (pe_ix ix_str pe_str (pe_call (ok_law_taken T) hr (by rfl) T.g_law_taken T.F_law_taken.kp T.b_law_taken .nil pass0 (pa_cons (pv 0) (pa_cons pe_int pa_nil))) (fun _ _ => rfl)))
    (pss_one (ps_ret (pe_ix (ix_listK (K := K) rfl) (pe_lst (pa_cons (pe_op op_add_str (pe_op op_add_str (pe_slice sl_str (pv 1) po_none (po_some (pv 2))) (pv 3)) (pe_slice sl_str (pv 1) (po_some (pv 2)) po_none)) (pa_cons (pe_op op_add_str (pe_op op_add_str (pe_slice sl_str (pv 1) po_none (po_some (pv 2))) (pv 3)) (pe_slice sl_str (pv 1) (po_some (pe_op op_add (pv 2) pe_int)) po_none)) (pa_cons (pe_op op_add_str (pe_slice sl_str (pv 1) po_none (po_some (pv 2))) (pe_slice sl_str (pv 1) (po_some (pe_op op_add (pv 2) pe_int)) po_none)) (pa_cons (pv 1) pa_nil))))) (pe_call (ok_law_taken T) hr (by rfl) T.g_law_taken T.F_law_taken.kp T.b_law_taken .nil pass0 (pa_cons (pv 0) (pa_cons pe_int pa_nil))) (fun _ _ => rfl)))))), body h fun B0 es L P X hc hx => ?_⟩)
  obtain ⟨p, a, ns, t, rfl, hr1, ht, hl, hp⟩ := hc
  show SE B0 _ [_, _, .unk, .unk] L _
  walk_at "go"
  refine ⟨p, a, ns, _, rfl, hr1, by omega, by omega, fun k k0 k1 => ?_⟩
  obtain ⟨k, rfl⟩ := Int.eq_ofNat_of_zero_le k0
  walk_at "go"
  refine ⟨p, a, ns, _, rfl, hr1, by omega, by omega, fun j j0 j1 => ?_⟩
  obtain ⟨c, hc, hat⟩ := abcd_at j0 j1
  refine rv_ixSt (by decide) hat ?_
  have hk : k ≤ t.length := by omega
  have l1 : (t.take k).length = k := by rw [List.length_take]; omega
  have l2 : (t.drop k).length = t.length - k := List.length_drop
  have l3 : (t.drop (k + 1)).length = t.length - (k + 1) := List.length_drop
  have e1 : cutS (tx t) (some ((k : Int) + 1)) none = tx (t.drop (k + 1)) := cut_from (k := k + 1)
  walk_at "go"
  walk_at "dl"
  refine rs_str (by omega) cut_to ?_
  walk_at "go"
  refine rs_str (by omega) cut_from ?_
  walk_at "go"
  refine rs_str (by omega) cut_to ?_
  walk_at "go"
  refine rs_str (by omega) e1 ?_
  walk_at "go"
  refine rs_str (by omega) cut_to ?_
  walk_at "go"
  refine rs_str (by omega) e1 ?_
  walk_at "go"
  refine ⟨p, a, ns, _, rfl, hr1, by omega, by omega, fun q q0 q1 => ?_⟩
  have s1 := ht.take k
  have s2 := ht.drop k
  have s3 := ht.drop (k + 1)
  obtain rfl | rfl | rfl | rfl : q = 0 ∨ q = 1 ∨ q = 2 ∨ q = 3 := by omega
  · exact rv_ixL rfl ⟨_, Weak.rfl, hp _ ((s1.app (.one hc)).app s2) (by simp; omega)⟩
  · exact rv_ixL rfl ⟨_, Weak.rfl, hp _ ((s1.app (.one hc)).app s3) (by simp; omega)⟩
  · exact rv_ixL rfl ⟨_, Weak.rfl, hp _ (s1.app s3) (by simp; omega)⟩
  · exact rv_ixL rfl ⟨_, Weak.rfl, hp _ ht (by omega)⟩
end

def ct_law_words (K : PySem.W.Frag) : Ct := fun es L P X => ∃ p a ns m, es = [.val (.ref p), .dat (.int m)] ∧ L p = some (rowC K a ns) ∧ 1 ≤ m ∧ m ≤ 8 ∧ ∀ ws, Wds ws → (ws.length : Int) ≤ m → P (.dat (.list (txs ws))) L
section
variable {P : Program} {w : World} {K : PySem.W.Frag} {mg : Str → Option Value} {base : Heap}
theorem ok_law_words (T : Txt w K mg) : FnOk P w K mg base CX0 3 T.f_law_words T.d_law_words ["_law_row", "_law_most"] (spOf (ct_law_words K)) := by
  refine T.F_law_words.ok sc_law_words (fun vs H Q E h => spOf_len (n := 2) (by rintro es L P X ⟨p, a, ns, m, rfl, _⟩; rfl) h) (fun cdv A outer s H vs Q E hr h => ⟨_, (pss_cons (ps_set (i := 2) sc_law_words.nd rfl (by first | exact Or.inl rfl | exact Or.inr rfl) (pe_op op_add pe_int (pe_call (ok_law_taken T) (hr.mono (by decide)) (by rfl) T.g_law_taken T.F_law_taken.kp T.b_law_taken .nil pass0 (pa_cons (pv 0) (pa_cons pe_int pa_nil)))))
    (pss_cons (ps_set (i := 3) sc_law_words.nd rfl (by first | exact Or.inl rfl | exact Or.inr rfl) (pe_op op_add pe_int (pe_call (ok_law_taken T) (hr.mono (by decide)) (by rfl) T.g_law_taken T.F_law_taken.kp T.b_law_taken .nil pass0 (pa_cons (pv 0) (pa_cons pe_int pa_nil)))))
    (pss_cons (ps_set (i := 4) sc_law_words.nd rfl (by first | exact Or.inl rfl | exact Or.inr rfl) (pe_call (ok_law_taken T) (hr.mono (by decide)) (by rfl) T.g_law_taken T.F_law_taken.kp T.b_law_taken .nil pass0 (pa_cons (pv 0) (pa_cons pe_int pa_nil))))
    (pss_cons (ps_set (i := 5) sc_law_words.nd rfl (by first | exact Or.inl rfl | exact Or.inr rfl) (pe_lst (pa_cons (pe_call (ok_law_text T) hr (by rfl) T.g_law_text T.F_law_text.kp T.b_law_text .nil pass0 (pa_cons (pv 0) (pa_cons pe_int (pa_cons (pv 2) pa_nil)))) pa_nil)))
    (pss_cons (ps_set (i := 6) sc_law_words.nd rfl (by first | exact Or.inl rfl | exact Or.inr rfl) (pe_op op_add pe_int (pe_call (ok_law_taken T) (hr.mono (by decide)) (by rfl) T.g_law_taken T.F_law_taken.kp T.b_law_taken .nil pass0 (pa_cons (pv 0) (pa_cons (pv 1) pa_nil)))))
    (pss_cons (ps_for PassesOwn.never rfl (pi_range1 (by rfl) T.n_range (pa_cons (pe_op op_mul pe_int (pv 6)) pa_nil)) (pg_name (i := 7) sc_law_words.nd rfl (by first | exact Or.inl rfl | exact Or.inr rfl)) (pss_cons (ps_set (i := 8) sc_law_words.nd rfl (by first | exact Or.inl rfl | exact Or.inr rfl) (pe_call (ok_law_text T) hr (by rfl) T.g_law_text T.F_law_text.kp T.b_law_text .nil pass0 (pa_cons (pv 0) (pa_cons pe_int (pa_cons (pv 2) pa_nil)))))
    (pss_cons (ps_if (pt_cmpR op_eq (pv 4) pe_int (nomark _)) (pss_one (ps_set (i := 8) sc_law_words.nd rfl (by first | exact Or.inl rfl | exact Or.inr rfl) (pe_call (ok_law_near T) hr (by rfl) T.g_law_near T.F_law_near.kp T.b_law_near .nil pass0 (pa_cons (pv 0) (pa_cons (pe_ix (ix_listK (K := K) rfl) (pv 5) (pe_call (ok_law_taken T) (hr.mono (by decide)) (by rfl) T.g_law_taken T.F_law_taken.kp T.b_law_taken .nil pass0 (pa_cons (pv 0) (pa_cons (pe_callB (len_seqK (K := K) rfl) (by rfl) T.n_len (by decide +kernel) (pa_cons (pv 5) pa_nil)) pa_nil))) (fun _ _ => rfl)) pa_nil))))) pss_nil)
    (pss_cons (ps_if (pt_cmpR op_eq (pv 4) pe_int (nomark _)) (pss_one (ps_set (i := 8) sc_law_words.nd rfl (by first | exact Or.inl rfl | exact Or.inr rfl) (pe_slice sl_str (pe_slice sl_str (pe_op op_add_str (pe_op op_mulS (pe_ix ix_str pe_str (pe_call (ok_law_taken T) (hr.mono (by decide)) (by rfl) T.g_law_taken T.F_law_taken.kp T.b_law_taken .nil pass0 (pa_cons (pv 0) (pa_cons (pv 2) pa_nil))) (fun _ _ => rfl)) pe_int) (pv 8)) (po_some (pe_op op_add (pe_op op_sub pe_int (pv 3)) (pe_callB call_len_str (by rfl) T.n_len (by decide +kernel) (pa_cons (pv 8) pa_nil)))) po_none) po_none (po_some (pv 3))))) pss_nil)
    (pss_cons (ps_if (pt_cmpR op_eq (pv 4) pe_int (nomark _)) (pss_one (ps_set (i := 8) sc_law_words.nd rfl (by first | exact Or.inl rfl | exact Or.inr rfl) (pe_op op_add_str (pe_slice sl_str (pe_ix (ix_listK (K := K) rfl) (pv 5) pe_int (fun _ _ => rfl)) po_none (po_some (pe_call (ok_law_taken T) (hr.mono (by decide)) (by rfl) T.g_law_taken T.F_law_taken.kp T.b_law_taken .nil pass0 (pa_cons (pv 0) (pa_cons pe_int pa_nil))))) (pv 8)))) pss_nil)
    (pss_one (ps_if (PW.pt (pw_and (pt_cmpR op_lt (pe_callB call_len_str (by rfl) T.n_len (by decide +kernel) (pa_cons (pv 8) pa_nil)) pe_int (nomark _)) (pw_and (pt_cmpR (op_notIn_seqK (K := K) rfl) (pv 8) (pv 5) (by rfl)) (pw_and1 (pt_cmpR op_lt (pe_callB (len_seqK (K := K) rfl) (by rfl) T.n_len (by decide +kernel) (pa_cons (pv 5) pa_nil)) (pv 6) (nomark _)))))) (pss_one (ps_expr (pe_bmK (K := K) rfl PySem.F.plainAttrs_list PySem.F.slot_list_append PySem.F.type_list_append mt_append (pv 5) (pa_cons (pv 8) pa_nil)))) pss_nil)))))))
    (pss_one (ps_ret (pv 5))))))))), body h fun B0 es L P X hc hx => ?_⟩)
  obtain ⟨p, a, ns, m, rfl, hr1, m0, m1, hp⟩ := hc
  show SE B0 _ [_, _, .unk, .unk, .unk, .unk, .unk, .unk, .unk] L _
  walk_at "go"
  refine ⟨p, a, ns, _, rfl, hr1, by omega, by omega, fun few few0 few1 => ?_⟩
  walk_at "go"
  refine ⟨p, a, ns, _, rfl, hr1, by omega, by omega, fun long long0 long1 => ?_⟩
  walk_at "go"
  refine ⟨p, a, ns, _, rfl, hr1, by omega, by omega, fun way way0 way1 => ?_⟩
  walk_at "go"
  refine ee_lstC ?_
  walk_at "go"
  refine ⟨p, a, ns, _, _, rfl, hr1, by omega, by omega, by omega, by omega, fun t0 ht0 hl0 => ?_⟩
  walk_at "go"
  intro q hq
  have hpq : p ≠ q := fun z => by rw [z, hq] at hr1; cases hr1
  have hr : ∀ c, (L.put q c) p = some (rowC K a ns) := fun c => by rw [put_ne hpq]; exact hr1
  walk_at "go"
  refine ⟨p, a, ns, _, rfl, hr _, by omega, by omega, fun many many0 many1 => ?_⟩
  walk_at "go"
  refine q_forR1 (fun i e l => ∃ (x y : En) (ws : List (List Nat)), e = [.val (.ref p), .dat (.int m), .dat (.int (1 + few)), .dat (.int (1 + long)), .dat (.int way), .val (.ref q), .dat (.int (1 + many)), x, y] ∧ l = L.put q (lstC (txs ws)) ∧ Wds ws ∧ (ws.length : Int) ≤ 1 + many) ?_
  walk_at "go"
  refine ⟨by omega, by omega, ⟨.unk, .unk, [t0], rfl, rfl, .one ht0 (by omega), by walk_at "om"⟩, ?_, ?_⟩
  · rintro i e l hi ⟨x, y, ws, rfl, rfl, hw, hwm⟩
    show SE B0 _ [_, _, _, _, _, _, _, _, _] _ _
    have hwl := hw.len
    have hne : 0 < ws.length := List.length_pos_iff.mpr hw.ne
    walk_at "go"
    refine ⟨p, a, ns, _, _, rfl, hr _, by omega, by omega, by omega, by omega, fun t ht hl => ?_⟩
    -- if way == 0
    refine q_cut (fun e l => ∃ s, Sg s ∧ s.length ≤ 20 ∧ e = [.val (.ref p), .dat (.int m), .dat (.int (1 + few)), .dat (.int (1 + long)), .dat (.int way), .val (.ref q), .dat (.int (1 + many)), .dat (.int i), .dat (.str (tx s))] ∧ l = L.put q (lstC (txs ws))) ?_ ?_
    · walk_at "go"
      refine iteD (fun _ => ?_) (fun _ => ?_)
      · walk_at "go"
        refine ⟨p, a, ns, _, rfl, hr _, by walk_at "om", by walk_at "om", fun k k0 k1 => ?_⟩
        obtain ⟨k, rfl⟩ := Int.eq_ofNat_of_zero_le k0
        have hk : k < ws.length := by simpa using k1
        have hg : ws[k]? = some ws[k] := List.getElem?_eq_getElem hk
        have hm := List.mem_of_getElem? hg
        have h6 := hw.six _ hm
        refine rv_ixC put_same (txs_atI hg) ?_
        walk_at "go"
        exact ⟨p, a, ns, _, rfl, hr _, hw.sg _ hm, by omega, fun t' s' l' => ⟨t', s', by omega, rfl, rfl⟩⟩
      · walk_at "go"
        exact ⟨t, ht, by omega, rfl, rfl⟩
    -- if way == 1
    rintro e l ⟨s, hs, hsl, rfl, rfl⟩
    refine q_cut (fun e l => ∃ s, Sg s ∧ s.length ≤ 20 ∧ e = [.val (.ref p), .dat (.int m), .dat (.int (1 + few)), .dat (.int (1 + long)), .dat (.int way), .val (.ref q), .dat (.int (1 + many)), .dat (.int i), .dat (.str (tx s))] ∧ l = L.put q (lstC (txs ws))) ?_ ?_
    · walk_at "go"
      refine iteD (fun _ => ?_) (fun _ => ?_)
      · walk_at "go"
        refine ⟨p, a, ns, _, rfl, hr _, by omega, by omega, fun k k0 k1 => ?_⟩
        obtain ⟨c, hc, hat⟩ := abcd_at k0 (by omega)
        refine rv_ixSt (by decide) hat ?_
        refine ee_int ?_
        refine rv_mulS (s := [c]) (by decide) (by decide) (by show 1 ≤ 100; decide) ?_
        have z : ((6 : Int).toNat) = 6 := rfl
        rw [z]
        walk_at "go"
        obtain ⟨n, hn⟩ := Int.eq_ofNat_of_zero_le (show 0 ≤ 6 - (1 + long) + (s.length : Int) by omega)
        obtain ⟨lg, hlg⟩ := Int.eq_ofNat_of_zero_le (show 0 ≤ 1 + long by omega)
        rw [hn]
        refine rs_str (by walk_at "om") cut_from ?_
        walk_at "go"
        rw [hlg]
        refine rs_str (by walk_at "om") cut_to ?_
        refine ⟨_, (((Sg.one hc).rep 6).app hs |>.drop n).take lg, ?_, rfl, rfl⟩
        walk_at "om"
      · walk_at "go"
        exact ⟨s, hs, by omega, rfl, rfl⟩
    -- if way == 2
    rintro e l ⟨s, hs, hsl, rfl, rfl⟩
    refine q_cut (fun e l => ∃ s, Sg s ∧ s.length ≤ 30 ∧ e = [.val (.ref p), .dat (.int m), .dat (.int (1 + few)), .dat (.int (1 + long)), .dat (.int way), .val (.ref q), .dat (.int (1 + many)), .dat (.int i), .dat (.str (tx s))] ∧ l = L.put q (lstC (txs ws))) ?_ ?_
    · walk_at "go"
      refine iteD (fun _ => ?_) (fun _ => ?_)
      · walk_at "go"
        have hg : ws[0]? = some ws[0] := List.getElem?_eq_getElem hne
        have hm := List.mem_of_getElem? hg
        have h6 := hw.six _ hm
        refine rv_ixC put_same (txs_atI (i := 0) hg) ?_
        walk_at "go"
        refine ⟨p, a, ns, _, rfl, hr _, by omega, by omega, fun k k0 k1 => ?_⟩
        obtain ⟨k, rfl⟩ := Int.eq_ofNat_of_zero_le k0
        walk_at "go"
        refine rs_str (by omega) cut_to ?_
        walk_at "go"
        exact ⟨_, ((hw.sg _ hm).take k).app hs, by walk_at "om", rfl, rfl⟩
      · walk_at "go"
        exact ⟨s, hs, by omega, rfl, rfl⟩
    rintro e l ⟨s, hs, hsl, rfl, rfl⟩
    walk_at "go"
    refine iteD (fun h1 => ?_) (fun _ => ?_)
    · walk_at "go"
      refine rv_inC put_same rfl (flat_txs _) ?_
      rw [in_txs]
      walk_at "go"
      refine iteN (fun _ => ?_) (fun h2 => ?_)
      · walk_at "go"
        exact ⟨_, _, ws, rfl, rfl, hw, hwm⟩
      · walk_at "go"
        refine iteD (fun h3 => ?_) (fun _ => ?_)
        · have h3 : (ws.length : Int) < 1 + many := by simpa using h3
          walk_at "go"
          refine ee_append ?_
          walk_at "go"
          refine ⟨⟨_, put_same⟩, ?_⟩
          walk_at "go"
          refine ⟨_, _, rfl, put_same, by walk_at "om", ?_⟩
          rw [put_put]
          exact ⟨_, _, ws ++ [s], rfl, by rw [txs_snoc], hw.snoc hs (by omega) h2 (by omega), by walk_at "om"⟩
        · walk_at "go"
          exact ⟨_, _, ws, rfl, rfl, hw, hwm⟩
    · walk_at "go"
      exact ⟨_, _, ws, rfl, rfl, hw, hwm⟩
  · rintro e l ⟨x, y, ws, rfl, rfl, hw, hwm⟩
    refine se_freeze (i := 5) (p := q) put_same rfl ?_
    rw [drop_put hq]
    walk_at "go"
    exact ⟨_, Weak.rfl, hp ws hw (by omega)⟩
end

def ct_law_texts (K : PySem.W.Frag) : Ct := fun es L P X => ∃ p a ns ws, es = [.val (.ref p), .dat (.list (txs ws))] ∧ L p = some (rowC K a ns) ∧ Wds ws ∧ ∀ ts, ts.length = 6 → (∀ t ∈ ts, Sg t ∧ t.length ≤ 10) → P (.dat (.list (txs ts))) L
section
variable {P : Program} {w : World} {K : PySem.W.Frag} {mg : Str → Option Value} {base : Heap}
theorem ok_law_texts (T : Txt w K mg) : FnOk P w K mg base CX0 3 T.f_law_texts T.d_law_texts ["_law_row", "_law_words_here"] (spOf (ct_law_texts K)) := by
  refine T.F_law_texts.ok sc_law_texts (fun vs H Q E h => spOf_len (n := 2) (by rintro es L P X ⟨p, a, ns, m, rfl, _⟩; rfl) h) (fun cdv A outer s H vs Q E hr h => ⟨_, (pss_cons (ps_set (i := 2) sc_law_texts.nd rfl (by first | exact Or.inl rfl | exact Or.inr rfl) (pe_lst pa_nil))
    (pss_cons (ps_for PassesOwn.never rfl (pi_range1 (by rfl) T.n_range (pa_cons pe_int pa_nil)) (pg_name (i := 3) sc_law_texts.nd rfl (by first | exact Or.inl rfl | exact Or.inr rfl)) (pss_cons (ps_set (i := 4) sc_law_texts.nd rfl (by first | exact Or.inl rfl | exact Or.inr rfl) (pe_ix (ix_listK (K := K) rfl) (pv 1) (pe_call (ok_law_taken T) (hr.mono (by decide)) (by rfl) T.g_law_taken T.F_law_taken.kp T.b_law_taken .nil pass0 (pa_cons (pv 0) (pa_cons (pe_callB (len_seqK (K := K) rfl) (by rfl) T.n_len (by decide +kernel) (pa_cons (pv 1) pa_nil)) pa_nil))) (fun _ _ => rfl)))
    (pss_cons (ps_if (pt_cmpR op_gt (pe_call (ok_law_taken T) (hr.mono (by decide)) (by rfl) T.g_law_taken T.F_law_taken.kp T.b_law_taken .nil pass0 (pa_cons (pv 0) (pa_cons pe_int pa_nil))) pe_int (nomark _)) (pss_one (ps_set (i := 4) sc_law_texts.nd rfl (by first | exact Or.inl rfl | exact Or.inr rfl) (pe_call (ok_law_near T) hr (by rfl) T.g_law_near T.F_law_near.kp T.b_law_near .nil pass0 (pa_cons (pv 0) (pa_cons (pv 4) pa_nil))))) pss_nil)
    (pss_cons (ps_if (pt_cmpR op_eq (pe_call (ok_law_taken T) (hr.mono (by decide)) (by rfl) T.g_law_taken T.F_law_taken.kp T.b_law_taken .nil pass0 (pa_cons (pv 0) (pa_cons pe_int pa_nil))) pe_int (nomark _)) (pss_one (ps_set (i := 4) sc_law_texts.nd rfl (by first | exact Or.inl rfl | exact Or.inr rfl) (pe_call (ok_law_text T) hr (by rfl) T.g_law_text T.F_law_text.kp T.b_law_text .nil pass0 (pa_cons (pv 0) (pa_cons pe_int (pa_cons pe_int pa_nil)))))) pss_nil)
    (pss_one (ps_expr (pe_bmK (K := K) rfl PySem.F.plainAttrs_list PySem.F.slot_list_append PySem.F.type_list_append mt_append (pv 2) (pa_cons (pe_slice sl_str (pv 4) po_none (po_some pe_int)) pa_nil))))))))
    (pss_one (ps_ret (pv 2))))), body h fun B0 es L P X hc hx => ?_⟩)
  obtain ⟨p, a, ns, ws, rfl, hr1, hw, hp⟩ := hc
  have hwl := hw.len
  have hne : 0 < ws.length := List.length_pos_iff.mpr hw.ne
  show SE B0 _ [_, _, .unk, .unk, .unk] L _
  walk_at "go"
  refine ee_lstC ?_
  walk_at "go"
  intro q hq
  have hpq : p ≠ q := fun z => by rw [z, hq] at hr1; cases hr1
  have hr : ∀ c, (L.put q c) p = some (rowC K a ns) := fun c => by rw [put_ne hpq]; exact hr1
  refine q_forR1 (fun i e l => ∃ (x y : En) (ts : List (List Nat)), e = [.val (.ref p), .dat (.list (txs ws)), .val (.ref q), x, y] ∧ l = L.put q (lstC (txs ts)) ∧ ts.length = i ∧ ∀ t ∈ ts, Sg t ∧ t.length ≤ 10) ?_
  walk_at "go"
  refine ⟨by omega, by omega, ⟨.unk, .unk, [], rfl, rfl, rfl, fun t ht => (nomatch ht)⟩, ?_, ?_⟩
  · rintro i e l hi ⟨x, y, ts, rfl, rfl, hlen, hts⟩
    show SE B0 _ [_, _, _, _, _] _ _
    walk_at "go"
    refine ⟨p, a, ns, _, rfl, hr _, by walk_at "om", by walk_at "om", fun k k0 k1 => ?_⟩
    obtain ⟨k, rfl⟩ := Int.eq_ofNat_of_zero_le k0
    have hk : k < ws.length := by simpa using k1
    have hg : ws[k]? = some ws[k] := List.getElem?_eq_getElem hk
    have hm := List.mem_of_getElem? hg
    have h6 := hw.six _ hm
    refine rv_ixL (txs_atI hg) ?_
    refine q_cut (fun e l => ∃ s, Sg s ∧ s.length ≤ 20 ∧ e = [.val (.ref p), .dat (.list (txs ws)), .val (.ref q), .dat (.int i), .dat (.str (tx s))] ∧ l = L.put q (lstC (txs ts))) ?_ ?_
    · walk_at "go"
      refine ⟨p, a, ns, _, rfl, hr _, by omega, by omega, fun k k0 k1 => ?_⟩
      walk_at "go"
      refine iteD (fun _ => ?_) (fun _ => ?_)
      · walk_at "go"
        exact ⟨p, a, ns, _, rfl, hr _, hw.sg _ hm, by omega, fun t' s' l' => ⟨t', s', by omega, rfl, rfl⟩⟩
      · walk_at "go"
        exact ⟨_, hw.sg _ hm, by omega, rfl, rfl⟩
    rintro e l ⟨s, hs, hsl, rfl, rfl⟩
    refine q_cut (fun e l => ∃ s, Sg s ∧ s.length ≤ 20 ∧ e = [.val (.ref p), .dat (.list (txs ws)), .val (.ref q), .dat (.int i), .dat (.str (tx s))] ∧ l = L.put q (lstC (txs ts))) ?_ ?_
    · walk_at "go"
      refine ⟨p, a, ns, _, rfl, hr _, by omega, by omega, fun k k0 k1 => ?_⟩
      walk_at "go"
      refine iteD (fun _ => ?_) (fun _ => ?_)
      · walk_at "go"
        exact ⟨p, a, ns, _, _, rfl, hr _, by omega, by omega, by omega, by omega, fun t' s' l' => ⟨t', s', by omega, rfl, rfl⟩⟩
      · walk_at "go"
        exact ⟨s, hs, by omega, rfl, rfl⟩
    rintro e l ⟨s, hs, hsl, rfl, rfl⟩
    walk_at "go"
    refine ee_append ?_
    walk_at "go"
    refine ⟨⟨_, put_same⟩, ?_⟩
    walk_at "go"
    refine rs_str (by omega) (cut_to (k := 10)) ?_
    refine ⟨_, _, rfl, put_same, by walk_at "om", ?_⟩
    rw [put_put]
    refine ⟨_, _, ts ++ [s.take 10], rfl, by rw [txs_snoc], by walk_at "om", fun t ht => ?_⟩
    rcases List.mem_append.mp ht with m | m
    · exact hts t m
    · rw [List.mem_singleton.mp m]
      exact ⟨hs.take 10, by walk_at "om"⟩
  · rintro e l ⟨x, y, ts, rfl, rfl, hlen, hts⟩
    refine se_freeze (i := 2) (p := q) put_same rfl ?_
    rw [drop_put hq]
    walk_at "go"
    exact ⟨_, Weak.rfl, hp ts hlen hts⟩
end

def ct_law_whole : Ct := fun es L P X => ∃ l f, es = [.dat (.str (tx l)), .dat (.int f)] ∧ Sg l ∧ 1 ≤ f ∧ f ≤ 30 ∧ P (.dat (.int (boxW l f))) L
section
variable {P : Program} {w : World} {K : PySem.W.Frag} {mg : Str → Option Value} {base : Heap}
theorem ok_law_whole (T : Txt w K mg) : FnOk P w K mg base CX0 1 T.f_law_whole T.d_law_whole ["_law_text_here", "_law_factor"] (spOf (ct_law_whole)) := by
  refine T.F_law_whole.ok sc_law_whole (fun vs H Q E h => spOf_len (n := 2) (by rintro es L P X ⟨l, t, rfl, _⟩; rfl) h) (fun cdv A outer s H vs Q E hr h => ⟨_, (pss_cons (ps_set (i := 2) sc_law_whole.nd rfl (by first | exact Or.inl rfl | exact Or.inr rfl) pe_int)
    (pss_cons (ps_for PassesOwn.never rfl (pi_str (pv 0)) (pg_name (i := 3) sc_law_whole.nd rfl (by first | exact Or.inl rfl | exact Or.inr rfl)) (pss_one (ps_set (i := 2) sc_law_whole.nd rfl (by first | exact Or.inl rfl | exact Or.inr rfl) (pe_op op_mod (pe_callTy call_int1 (by rfl) T.n_int (by decide +kernel) (pa_cons (pe_op op_add (pe_op op_add (pe_op op_mul (pv 2) (pv 1)) pe_int) (pe_bmK (K := K) rfl PySem.F.plainAttrs_str PySem.F.slot_str_index PySem.F.type_str_index mt_sindex pe_str (pa_cons (pv 3) pa_nil))) pa_nil)) pe_int))))
    (pss_one (ps_ret (pv 2))))), body h fun B0 es L P X hc hx => ?_⟩)
  obtain ⟨t, f, rfl, hs, f0, f1, hp⟩ := hc
  show SE B0 _ [_, _, .unk, .unk] L _
  walk_at "go"
  refine q_forN (fun i e l => (∃ x, e = [.dat (.str (tx t)), .dat (.int f), .dat (.int (boxW (t.take i) f)), x]) ∧ l = L) ?_
  walk_at "go"
  refine ⟨⟨⟨_, rfl⟩, rfl⟩, ?_, ?_⟩
  · rintro i d e l hi ⟨⟨x, rfl⟩, rfl⟩
    obtain ⟨c, hc, rfl⟩ := sgs_get hi
    have hb := boxW_lt (t.take i) f
    show SE B0 _ [_, _, _, _] _ _
    walk_at "go"
    refine ⟨_, _, _, rfl, occ_tx (hs c (List.mem_of_getElem? hc)), ?_⟩
    walk_at "go"
    rw [boxW_take hc]
    exact ⟨⟨_, rfl⟩, rfl⟩
  · rintro e l ⟨⟨x, rfl⟩, rfl⟩
    rw [List.length_map, List.take_length]
    walk_at "go"
    exact ⟨_, Weak.rfl, hp⟩
end


section
variable {P : Program} {w : World} {K : PySem.W.Frag} {mg : Str → Option Value} {base : Heap}
theorem ok_law (T : Txt w K mg) : FnOk P w K mg base CX0 5 T.f_law T.d_law ["_law_script"] (spLaw K) := by
  refine T.F_law.ok sc_law (fun vs H Q E h => by obtain ⟨a, ns, rfl, _⟩ := h; rfl) (fun cdv A outer s H vs Q E hr h => ⟨_, (pss_cons (ps_set (i := 1) sc_law.nd rfl (by first | exact Or.inl rfl | exact Or.inr rfl) (pe_lst (pa_cons (pv 0) (pa_cons pe_int (pa_cons pe_int (pa_cons pe_int pa_nil))))))
    (pss_cons (ps_for PassesOwn.never rfl (pi_range1 (by rfl) T.n_range (pa_cons pe_int pa_nil)) (pg_name (i := 2) sc_law.nd rfl (by first | exact Or.inl rfl | exact Or.inr rfl)) (pss_cons (ps_asg (pe_tup (pa_cons (pe_call (ok_law_text T) (hr.mono (by decide)) (by rfl) T.g_law_text T.F_law_text.kp T.b_law_text .nil pass0 (pa_cons (pv 1) (pa_cons pe_int (pa_cons pe_int pa_nil)))) (pa_cons (pe_op op_add pe_int (pe_call (ok_law_taken T) (hr.mono (by decide)) (by rfl) T.g_law_taken T.F_law_taken.kp T.b_law_taken .nil pass0 (pa_cons (pv 1) (pa_cons pe_int pa_nil)))) pa_nil))) (pg_tupK (K := K) (n := 2) rfl rfl (pgs_cons (pg_name (i := 3) sc_law.nd rfl (by first | exact Or.inl rfl | exact Or.inr rfl)) (pgs_cons (pg_name (i := 4) sc_law.nd rfl (by first | exact Or.inl rfl | exact Or.inr rfl)) pgs_nil))))
    (pss_cons (ps_set (i := 5) sc_law.nd rfl (by first | exact Or.inl rfl | exact Or.inr rfl) (pe_call (ok_law_whole T) (hr.mono (by decide)) (by rfl) T.g_law_whole T.F_law_whole.kp T.b_law_whole .nil pass0 (pa_cons (pv 3) (pa_cons (pv 4) pa_nil))))
    (pss_cons (ps_if (pt_cmpR (op_neDK (K := K) rfl hr.units) (pe_lc (own := [("_law_size", 9)]) rfl sc_law.nd (pi_range2 (by rfl) T.n_range (pa_cons pe_int (pa_cons pe_int pa_nil))) (blkOk_by (by kernel_rfl)) (fun _ _ _ _ _ => (pg_name (i := 9) sc_law.nd rfl (by first | exact Or.inl rfl | exact Or.inr rfl))) (fun _ _ _ _ _ => pts_nil) (fun _ _ _ _ _ => (pe_call (ok_box T) hr (by rfl) T.g_box T.F_box.kp T.b_box .nil pass0 (pa_cons (pv 3) (pa_cons (pv 4) (pa_cons (pv 9) pa_nil)))))) (pe_lc (own := [("_law_size", 9)]) rfl sc_law.nd (pi_range2 (by rfl) T.n_range (pa_cons pe_int (pa_cons pe_int pa_nil))) (blkOk_by (by kernel_rfl)) (fun _ _ _ _ _ => (pg_name (i := 9) sc_law.nd rfl (by first | exact Or.inl rfl | exact Or.inr rfl))) (fun _ _ _ _ _ => pts_nil) (fun _ _ _ _ _ => (pe_op op_mod (pe_callTy call_int1 (by rfl) T.n_int (by decide +kernel) (pa_cons (pv 5) pa_nil)) (pv 9)))) (nomark _)) (pss_one (ps_ret pe_bl)) pss_nil)
    (pss_cons (ps_for PassesOwn.never rfl (pi_str pe_str) (pg_name (i := 6) sc_law.nd rfl (by first | exact Or.inl rfl | exact Or.inr rfl)) (pss_cons (ps_set (i := 7) sc_law.nd rfl (by first | exact Or.inl rfl | exact Or.inr rfl) (pe_op op_mod (pe_callTy call_int1 (by rfl) T.n_int (by decide +kernel) (pa_cons (pe_op op_add (pe_op op_add (pe_op op_mul (pv 5) (pv 4)) pe_int) (pe_bmK (K := K) rfl PySem.F.plainAttrs_str PySem.F.slot_str_index PySem.F.type_str_index mt_sindex pe_str (pa_cons (pv 6) pa_nil))) pa_nil)) pe_int))
    (pss_cons (ps_if (pt_cmpR op_ne (pe_call (ok_box T) hr (by rfl) T.g_box T.F_box.kp T.b_box .nil pass0 (pa_cons (pe_op op_add_str (pv 3) (pv 6)) (pa_cons (pv 4) (pa_cons pe_int pa_nil)))) (pe_op op_mod (pe_callTy call_int1 (by rfl) T.n_int (by decide +kernel) (pa_cons (pv 7) pa_nil)) pe_int) (nomark _)) (pss_one (ps_ret pe_bl)) pss_nil)
    (pss_one (ps_if (pt_cmpR op_ne (pe_call (ok_box T) hr (by rfl) T.g_box T.F_box.kp T.b_box .nil pass0 (pa_cons (pv 6) (pa_cons (pv 4) (pa_cons pe_int pa_nil)))) (pe_op op_add pe_int (pe_bmK (K := K) rfl PySem.F.plainAttrs_str PySem.F.slot_str_index PySem.F.type_str_index mt_sindex pe_str (pa_cons (pv 6) pa_nil))) (nomark _)) (pss_one (ps_ret pe_bl)) pss_nil)))))
    (pss_cons (ps_if (pt_cmpR op_ne (pe_call (ok_box T) hr (by rfl) T.g_box T.F_box.kp T.b_box .nil pass0 (pa_cons (pv 3) (pa_cons (pv 4) (pa_cons pe_int pa_nil)))) (pe_op op_mod (pe_callTy call_int1 (by rfl) T.n_int (by decide +kernel) (pa_cons (pe_call (ok_box T) hr (by rfl) T.g_box T.F_box.kp T.b_box .nil pass0 (pa_cons (pv 3) (pa_cons (pv 4) (pa_cons pe_int pa_nil)))) pa_nil)) pe_int) (nomark _)) (pss_one (ps_ret pe_bl)) pss_nil)
    (pss_one (ps_if (PW.pt (pw_or (pt_cmpR op_ne (pe_call (ok_box T) hr (by rfl) T.g_box T.F_box.kp T.b_box .nil pass0 (pa_cons pe_str (pa_cons (pv 4) (pa_cons pe_int pa_nil)))) pe_int (nomark _)) (pw_or1 (pt_cmpR op_ne (pe_call (ok_box T) hr (by rfl) T.g_box T.F_box.kp T.b_box .nil pass0 (pa_cons (pv 3) (pa_cons (pv 4) (pa_cons pe_int pa_nil)))) pe_int (nomark _))))) (pss_one (ps_ret pe_bl)) pss_nil))))))))
    (pss_cons (ps_set (i := 8) sc_law.nd rfl (by first | exact Or.inl rfl | exact Or.inr rfl) (pe_call (ok_law_words T) (hr.mono (by decide)) (by rfl) T.g_law_words T.F_law_words.kp T.b_law_words .nil pass0 (pa_cons (pv 1) (pa_cons pe_int pa_nil))))
    (pss_cons (L2N.ps_try_many rfl rfl L2N.takes0 (fun W pn xe tk po => (pss_one (ps_asg (pe_callS (ok_table T) hr (by rfl) T.g_table T.F_table.kp T.b_table (fun σ => L2N.passAt tk σ) (pa_cons (pv 8) pa_nil)) (pg_tupK (K := K) (n := 3) rfl rfl (pgs_cons (pg_name (i := 9) sc_law.nd rfl (by first | exact Or.inl rfl | exact Or.inr rfl)) (pgs_cons (pg_name (i := 4) sc_law.nd rfl (by first | exact Or.inl rfl | exact Or.inr rfl)) (pgs_cons (pg_name (i := 10) sc_law.nd rfl (by first | exact Or.inl rfl | exact Or.inr rfl)) pgs_nil))))))) (.cons (c := .ref T.a_NoTable) ⟨rfl, by decide, .inl T.e_NoTable.g⟩ (fun a oe cls d pn hz hf => (pss_one (ps_asg (pe_tup (pa_cons pe_int (pa_cons pe_int (pa_cons (pe_lst pa_nil) pa_nil)))) (L2N.pg_tupH (K := K) (n := 3) rfl (L2N.hotS hz hf) (pgs_cons (pg_name (i := 9) sc_law.nd rfl (by first | exact Or.inl rfl | exact Or.inr rfl)) (pgs_cons (pg_name (i := 4) sc_law.nd rfl (by first | exact Or.inl rfl | exact Or.inr rfl)) (pgs_cons (pg_name (i := 10) sc_law.nd rfl (by first | exact Or.inl rfl | exact Or.inr rfl)) pgs_nil))))))) .nil))
    (pss_cons (ps_if (pt_cmpR (op_neDK (K := K) rfl hr.units) (pv 10) (pe_lst pa_nil) (nomark _)) (pss_cons (ps_set (i := 11) sc_law.nd rfl (by first | exact Or.inl rfl | exact Or.inr rfl) (pe_op op_rep (pe_lst (pa_cons pe_non pa_nil)) (pv 9)))
    (pss_cons (ps_for PassesOwn.never rfl (pi_range1 (by rfl) T.n_range (pa_cons (pe_callB (len_seqK (K := K) rfl) (by rfl) T.n_len (by decide +kernel) (pa_cons (pv 8) pa_nil)) pa_nil)) (pg_name (i := 12) sc_law.nd rfl (by first | exact Or.inl rfl | exact Or.inr rfl)) (pss_one (ps_asg (pv 12) (pg_sub (pv 11) (pe_call (ok_box T) hr (by rfl) T.g_box T.F_box.kp T.b_box .nil pass0 (pa_cons (pe_ix (ix_listK (K := K) rfl) (pv 8) (pv 12) (fun _ _ => rfl)) (pa_cons (pv 4) (pa_cons (pv 9) pa_nil)))) set_list))))
    (pss_cons (ps_if (PW.pt (pw_or (pt_cmpR (op_neDK (K := K) rfl hr.units) (pv 10) (pv 11) (nomark _)) (pw_or1 (pt_cmpR op_ne (pe_callB (len_seqK (K := K) rfl) (by rfl) T.n_len (by decide +kernel) (pa_cons (pe_lc (own := [("_law_k", 12)]) rfl sc_law.nd (pi_listK (K := K) rfl (pv 10)) (blkOk_by (by kernel_rfl)) (fun _ _ _ _ _ => (pg_name (i := 12) sc_law.nd rfl (by first | exact Or.inl rfl | exact Or.inr rfl))) (fun _ _ _ _ _ => (pts_one (pt_cmpR op_notN (pv 12) pe_non (nomark _)))) (fun _ _ _ _ _ => (pv 12))) pa_nil)) (pe_callB (len_seqK (K := K) rfl) (by rfl) T.n_len (by decide +kernel) (pa_cons (pv 8) pa_nil)) (nomark _))))) (pss_one (ps_ret pe_bl)) pss_nil)
    (pss_one (ps_for PassesOwn.never rfl (pi_listK (K := K) rfl (pe_call (ok_law_texts T) (hr.mono (by decide)) (by rfl) T.g_law_texts T.F_law_texts.kp T.b_law_texts .nil pass0 (pa_cons (pv 1) (pa_cons (pv 8) pa_nil)))) (pg_name (i := 3) sc_law.nd rfl (by first | exact Or.inl rfl | exact Or.inr rfl)) (pss_one (ps_if (pt_cmpR op_ne (pe_call (ok_by_table T) hr (by rfl) T.g_by_table T.F_by_table.kp T.b_by_table .nil pass0 (pa_cons (pv 8) (pa_cons (pv 3) pa_nil))) (pe_call (ok_case T) hr (by rfl) T.g_case T.F_case.kp T.b_case .nil pass0 (pa_cons (pv 8) (pa_cons (pv 3) pa_nil))) (nomark _)) (pss_one (ps_ret pe_bl)) pss_nil))))))) pss_nil)
    (pss_cons (ps_for PassesOwn.never rfl (pi_range2 (by rfl) T.n_range (pa_cons (pe_callB (len_seqK (K := K) rfl) (by rfl) T.n_len (by decide +kernel) (pa_cons (pv 8) pa_nil)) (pa_cons (pe_op op_add (pe_callB (call_min2 rfl) (by rfl) T.n_min (by decide +kernel) (pa_cons (pv 9) (pa_cons pe_int pa_nil))) pe_int) pa_nil))) (pg_name (i := 13) sc_law.nd rfl (by first | exact Or.inl rfl | exact Or.inr rfl)) (pss_one (ps_for PassesOwn.never rfl (pi_range2 (by rfl) T.n_range (pa_cons pe_int (pa_cons (pe_ifExp (pt_cmpR op_eq (pv 13) (pv 9) (nomark _)) (pv 4) pe_int) pa_nil))) (pg_name (i := 14) sc_law.nd rfl (by first | exact Or.inl rfl | exact Or.inr rfl)) (pss_cons (ps_setLc (i := 15) (own := [("_law_word", 16)]) rfl sc_law.nd rfl rfl (sw_true rfl rfl rfl (by decide +kernel)) (pi_listK (K := K) rfl (pv 8)) (blkOk_by (by kernel_rfl)) (fun _ _ _ _ _ => (pg_name (i := 16) sc_law.nd rfl (by first | exact Or.inl rfl | exact Or.inr rfl))) (fun _ _ _ _ _ => pts_nil) (fun _ _ _ _ _ => (pe_call (ok_box T) hr (by rfl) T.g_box T.F_box.kp T.b_box .nil pass0 (pa_cons (pv 16) (pa_cons (pv 14) (pa_cons (pv 13) pa_nil))))))
    (pss_one (ps_if (pt_cmpR op_eq (lenSetK (K := K) rfl (by rfl) T.n_len (by rfl) T.n_set (pv 15)) (pe_callB (len_seqK (K := K) rfl) (by rfl) T.n_len (by decide +kernel) (pa_cons (pv 8) pa_nil)) (nomark _)) (pss_one (ps_ret pe_bl)) pss_nil))))))
    (pss_one (ps_ret pe_bl)))))))), body_law h fun B0 a ns hS => ?_⟩)
  show SE B0 _ [_, .unk, .unk, .unk, .unk, .unk, .unk, .unk, .unk, .unk, .unk, .unk, .unk, .unk, .unk, .unk, .unk] _ _
  refine q_asg ?_
  refine ee_row hS ?_
  walk_at "go"
  intro p hp
  have hr1 : (Cells.put (fun _ => none) p (rowC K a ns)) p = some (rowC K a ns) := put_same
  generalize (Cells.put (fun _ => none) p (rowC K a ns)) = L at hr1
  refine q_forR1 (fun i e l => ∃ x2 x3 x4 x5 x6 x7 : En, e = [.val (.ref a), .val (.ref p), x2, x3, x4, x5, x6, x7, .unk, .unk, .unk, .unk, .unk, .unk, .unk, .unk, .unk] ∧ l = L) ?_
  walk_at "go"
  refine ⟨by omega, by omega, ⟨_, _, _, _, _, _, rfl, rfl⟩, ?_, ?_⟩
  · rintro i e l hi ⟨x2, x3, x4, x5, x6, x7, rfl, rfl⟩
    show SE B0 _ [_, _, _, _, _, _, _, _, _, _, _, _, _, _, _, _, _] _ _
    refine q_asgG ?_
    walk_at "go"
    refine ⟨p, a, ns, _, _, rfl, hr1, by omega, by omega, by omega, by omega, fun t ht hl => ?_⟩
    walk_at "go"
    refine ⟨p, a, ns, _, rfl, hr1, by omega, by omega, fun f0 f00 f01 => ?_⟩
    walk_at "go"
    refine ⟨_, ge_tup2, ?_⟩
    walk_at "go"
    refine ⟨t, _, rfl, ht, by omega, by omega, ?_⟩
    walk_at "go"
    refine ee_lcN (enc := fun k : Nat => .int ((1 : Int) + (k : Int))) (fun k : Nat => .int (boxW t (1 + f0) % (1 + (k : Int)))) ?_
    walk_at "go"
    refine ⟨by omega, by omega, by omega, by omega, List.range 16, rfl, by decide, fun fr k hk => ?_, ?_⟩
    · have hk2 : k < 16 := List.mem_range.mp hk
      walk_at "go"
      exact ⟨t, _, _, rfl, by omega, ht, by omega, by omega, by omega, by omega, rfl, rfl⟩
    refine ee_lcN (enc := fun k : Nat => .int ((1 : Int) + (k : Int))) (fun k : Nat => .int (boxW t (1 + f0) % (1 + (k : Int)))) ?_
    walk_at "go"
    refine ⟨by omega, by omega, by omega, by omega, List.range 16, rfl, by decide, fun fr k hk => ?_, ?_⟩
    · have hk2 : k < 16 := List.mem_range.mp hk
      walk_at "go"
      rfl
    refine rv_neSame (n := 1) (sh_list fun d hd => ?_) (by decide) ?_
    · obtain ⟨k, _, rfl⟩ := List.mem_map.mp hd
      exact sh_int
    walk_at "go"
    refine q_cut (fun e l' => ∃ x6 x7 : En, e = [.val (.ref a), .val (.ref p), .dat (.int i), .dat (.str (tx t)), .dat (.int (1 + f0)), .dat (.int (boxW t (1 + f0))), x6, x7, .unk, .unk, .unk, .unk, .unk, .unk, .unk, .unk, .unk] ∧ l' = l) ?_ ?_
    · refine s_forN (fun i' e l' => ∃ x6 x7 : En, e = [.val (.ref a), .val (.ref p), .dat (.int i), .dat (.str (tx t)), .dat (.int (1 + f0)), .dat (.int (boxW t (1 + f0))), x6, x7, .unk, .unk, .unk, .unk, .unk, .unk, .unk, .unk, .unk] ∧ l' = l) ?_
      walk_at "go"
      refine ⟨⟨_, _, rfl, rfl⟩, ?_, ?_⟩
      · rintro j d e l' hj ⟨y6, y7, rfl, rfl⟩
        obtain ⟨c, hc, rfl⟩ := sgs_get hj
        have hcm : c ∈ [97, 98, 99, 100] := List.mem_of_getElem? hc
        have hc4 : 97 ≤ c ∧ c < 101 := by
          simp only [List.mem_cons, List.not_mem_nil, or_false] at hcm
          omega
        have hb := boxW_lt t (1 + f0)
        have hS1 : Sg (t ++ [c]) := ht.app (.one hcm)
        have e5 : boxW [c] (1 + f0) = 1 + ((c - 97 : Nat) : Int) := by
          have := boxW_snoc [] c (1 + f0)
          have z : boxW [] (1 + f0) = 0 := rfl
          rw [List.nil_append, z, Int.zero_mul] at this
          rw [this]
          omega
        show SE B0 _ [_, _, _, _, _, _, _, _, _, _, _, _, _, _, _, _, _] _ _
        walk_at "go"
        refine ⟨_, _, _, rfl, occ_tx hcm, ?_⟩
        walk_at "go"
        refine ⟨t ++ [c], _, _, rfl, by walk_at "om", hS1, by omega, by omega, by omega, by omega, ?_⟩
        rw [boxW_snoc]
        walk_at "go"
        refine iteN (fun h1 => ?_) (fun h1 => absurd rfl h1)
        walk_at "go"
        refine ⟨[c], _, _, rfl, by show 1 ≤ 10; decide, .one hcm, by omega, by omega, by omega, by omega, ?_⟩
        rw [e5]
        walk_at "go"
        refine ⟨_, _, _, rfl, occ_tx hcm, ?_⟩
        walk_at "go"
        refine iteN (fun h1 => ?_) (fun h1 => absurd (by omega) h1)
        walk_at "go"
        rfl
      · rintro e l' ⟨y6, y7, rfl, rfl⟩
        exact ⟨_, _, rfl, rfl⟩
    rintro e l' ⟨y6, y7, rfl, rfl⟩
    have hb := boxW_lt t (1 + f0)
    walk_at "go"
    refine ⟨t, _, _, rfl, by omega, ht, by omega, by omega, by omega, by omega, ?_⟩
    walk_at "go"
    refine ⟨t, _, _, rfl, by omega, ht, by omega, by omega, by omega, by omega, ?_⟩
    walk_at "go"
    refine iteN (fun h1 => ?_) (fun h1 => absurd (by omega) h1)
    walk_at "go"
    refine ⟨[], _, _, rfl, by decide, fun c hc => (nomatch hc), by omega, by omega, by omega, by omega, ?_⟩
    walk_at "go"
    have z : boxW [] (1 + f0) = 0 := rfl
    rw [z]
    refine iteN (fun h1 => ?_) (fun h1 => absurd rfl h1)
    walk_at "go"
    refine ⟨t, _, _, rfl, by omega, ht, by omega, by omega, by omega, by omega, ?_⟩
    walk_at "go"
    refine iteN (fun h1 => ?_) (fun h1 => absurd (by omega) h1)
    walk_at "go"
    exact ⟨_, _, _, _, _, _, rfl, rfl⟩
  · rintro e l ⟨x2, x3, x4, x5, x6, x7, rfl, rfl⟩
    show SE B0 _ [_, _, _, _, _, _, _, _, _, _, _, _, _, _, _, _, _] _ _
    walk_at "go"
    refine ⟨p, a, ns, _, rfl, hr1, by omega, by omega, fun ws hw hwl => ?_⟩
    refine q_cut (fun e l' => ∃ (s f : Int) (bx : List PyData), e = [.val (.ref a), .val (.ref p), x2, x3, .dat (.int f), x5, x6, x7, .dat (.list (txs ws)), .dat (.int s), .dat (.list bx), .unk, .unk, .unk, .unk, .unk, .unk] ∧ l' = l ∧ (IsTab ws s f ∧ bx = boxesD (nums ws f s) s ∨ NoTab ws ∧ s = 17 ∧ f = 1 ∧ bx = [])) ?_ ?_
    · show SE B0 _ [_, _, _, _, _, _, _, _, _, _, _, _, _, _, _, _, _] _ _
      refine se_try (K := K) (tb := fun W => tAsg (tCallS (spOf (ct_table T.a_NoTable)) (WE W) (tCons (tVar 8) tNil)) (gTup K 3 (gCons (gName 9) (gCons (gName 4) (gCons (gName 10) gNil))))) (fun cls e l' => cls = .ref T.a_NoTable ∧ e = [.val (.ref a), .val (.ref p), x2, x3, x4, x5, x6, x7, .dat (.list (txs ws)), .unk, .unk, .unk, .unk, .unk, .unk, .unk, .unk] ∧ l' = l ∧ NoTab ws) (fun B1 W x1 hW => ?_) ?_
      · refine se_asgG ?_
        refine ee_callS (fun cls e l' => cls = .ref T.a_NoTable ∧ e = [.val (.ref a), .val (.ref p), x2, x3, x4, x5, x6, x7, .dat (.list (txs ws)), .unk, .unk, .unk, .unk, .unk, .unk, .unk, .unk] ∧ l' = l ∧ NoTab ws) hW ?_
        walk_at "go"
        refine ⟨ws, rfl, hw, fun s f h => ?_, fun h => ⟨rfl, rfl, rfl, h⟩⟩
        exact ⟨_, ge_tup3, _, _, _, rfl, rfl, .inl ⟨h, rfl⟩⟩
      · rintro cls e l' ⟨rfl, rfl, rfl, hno⟩
        refine ⟨T.e_NoTable.self, fun a => ?_⟩
        refine se_asgG ?_
        walk_at "go"
        walk_at "dl"
        exact ⟨_, ge_tup3, 17, 1, [], rfl, rfl, .inr ⟨hno, rfl, rfl, rfl⟩⟩
    rintro e l' ⟨s, f, bx, rfl, rfl, hcase⟩
    have hpos : 0 < ws.length := List.length_pos_iff.mpr hw.ne
    have ln : ((txs ws).length : Int) = ws.length := by rw [List.length_map]
    refine q_cut (fun e l => ∃ y3 y11 y12 : En, e = [.val (.ref a), .val (.ref p), x2, y3, .dat (.int f), x5, x6, x7, .dat (.list (txs ws)), .dat (.int s), .dat (.list bx), y11, y12, .unk, .unk, .unk, .unk]) ?_ ?_
    · walk_at "go"
      walk_at "dl"
      refine rv_neNil (n := 1) (sh_list fun d hd => ?_) (by decide) ?_
      · rcases hcase with ⟨_, rfl⟩ | ⟨_, _, _, rfl⟩
        · exact flat_boxes _ _ d hd
        · cases hd
      walk_at "go"
      rcases hcase with ⟨hT, rfl⟩ | ⟨hN, rfl, rfl, rfl⟩
      · have hs0 := hT.s0
        have hs1 := hT.s1
        have hf0 := hT.f0
        have hf1 := hT.f1
        have hne : (boxesD (nums ws f s) s).isEmpty = false := by
          unfold boxesD
          obtain ⟨k, hk⟩ : ∃ k, s.toNat = k + 1 := ⟨s.toNat - 1, by omega⟩
          rw [hk, List.range_succ]
          simp
        rw [hne]
        show if true = true then _ else _
        walk_at "go"
        walk_at "dl"
        refine rv_repC (by omega) (by omega) (by decide) fun q hq => ?_
        walk_at "go"
        have e0 : (List.replicate s.toNat [PyData.none]).flatten = dueD (nums ws f s) s 0 := by simp [dueD]
        rw [e0]
        have hr2 : ∀ c, (l'.put q c) p = some (rowC K a ns) := fun c => by
          rw [put_ne (fun z => by rw [z, hq] at hr1; cases hr1)]
          exact hr1
        refine q_forR1 (fun i e l => ∃ y12 : En, e = [.val (.ref a), .val (.ref p), x2, x3, .dat (.int f), x5, x6, x7, .dat (.list (txs ws)), .dat (.int s), .dat (.list (boxesD (nums ws f s) s)), .val (.ref q), y12, .unk, .unk, .unk, .unk] ∧ l = l'.put q (lstC (dueD (nums ws f s) s i))) ?_
        walk_at "go"
        rw [ln]
        refine ⟨by omega, by omega, ⟨_, rfl, rfl⟩, ?_, ?_⟩
        · rintro i e l hi ⟨y12, rfl, rfl⟩
          have hiw : i < ws.length := by omega
          have hg : ws[i]? = some ws[i] := List.getElem?_eq_getElem hiw
          have hm := List.mem_of_getElem? hg
          have h6 := hw.six _ hm
          have hb0 : 0 ≤ boxW ws[i] f % s := Int.emod_nonneg _ (by omega)
          have hb1 : boxW ws[i] f % s < s := Int.emod_lt_of_pos _ (by omega)
          show SE B0 _ [_, _, _, _, _, _, _, _, _, _, _, _, _, _, _, _, _] _ _
          refine s_setC ?_
          walk_at "go"
          refine rv_ixL (txs_atI hg) ?_
          walk_at "go"
          refine ⟨ws[i], _, _, rfl, by omega, hw.sg _ hm, by omega, by omega, by omega, by omega, ?_⟩
          refine ⟨q, _, _, (boxW ws[i] f % s).toNat, _, rfl, rfl, put_same, rfl, ?_, ?_⟩
          · unfold ixN
            rw [if_pos hb0, if_pos (by rw [dueD_len]; omega)]
          · rw [put_put]
            refine ⟨_, rfl, ?_⟩
            show _ = l'.put q (lstC ((dueD (nums ws f s) s i).set ((nums ws f s).getD i 0).toNat (.int (i : Nat))))
            rw [getD_of (nums_get hg)]
        rintro e l ⟨y12, rfl, rfl⟩
        have enl : dueD (nums ws f s) s (ws.length : Int).toNat = boxesD (nums ws f s) s := by
          rw [← due_eq hT.nd (nums_b (by omega)), nums_len]
          rfl
        rw [enl]
        refine se_freeze (i := 11) (p := q) put_same rfl ?_
        rw [drop_put hq]
        walk_at "go"
        refine rv_neSame (n := 1) (sh_list (flat_boxes _ _)) (by decide) ?_
        walk_at "go"
        refine ee_lcNP (enc := fun d => d) isSome' (fun d => d) ?_
        walk_at "go"
        refine ⟨boxesD (nums ws f s) s, (List.map_id' _).symm, by unfold boxesD; simp; omega, fun fr d hd => ⟨?_, fun _ => ?_⟩, ?_⟩
        · walk_at "go"
          cases d <;> rfl
        · walk_at "go"
          rfl
        rw [List.map_id']
        walk_at "go"
        rw [boxes_some hT.nd (nums_b (by omega)), nums_len]
        refine iteN (fun h1 => ?_) (fun h1 => absurd ln.symm h1)
        walk_at "go"
        refine s_forN (fun i e l => ∃ y3 : En, e = [.val (.ref a), .val (.ref p), x2, y3, .dat (.int f), x5, x6, x7, .dat (.list (txs ws)), .dat (.int s), .dat (.list (boxesD (nums ws f s) s)), .dat (.list (boxesD (nums ws f s) s)), y12, .unk, .unk, .unk, .unk]) ?_
        walk_at "go"
        refine ⟨p, a, ns, ws, rfl, hr1, hw, fun ts _ hts => ?_⟩
        refine ⟨_, rfl, ⟨_, rfl⟩, ?_, ?_⟩
        · rintro i d e l hi ⟨y3, rfl⟩
          obtain ⟨t, hc, rfl⟩ := txs_get hi
          obtain ⟨hts1, hts2⟩ := hts t (List.mem_of_getElem? hc)
          show SE B0 _ [_, _, _, _, _, _, _, _, _, _, _, _, _, _, _, _, _] _ _
          walk_at "go"
          refine ⟨ws, t, rfl, hw, hts2, hts1, fun h => h s f hs0 hs1 hf0 hf1 hT.nd, ?_⟩
          walk_at "go"
          refine ⟨ws, t, rfl, hw, hts2, hts1, ?_⟩
          have hfl : flatD (optD (caseN ws t)) = true := by cases caseN ws t <;> rfl
          refine rv_neO (p := True) hfl hfl (by cases caseN ws t <;> rfl) (iff_of_true rfl trivial) ?_
          walk_at "go"
          refine iteN (fun _ => ?_) (fun h => absurd trivial h)
          walk_at "go"
          exact ⟨_, rfl⟩
        · rintro e l ⟨y3, rfl⟩
          exact ⟨_, _, _, rfl⟩
      · show if false = true then _ else _
        walk_at "go"
        exact ⟨_, _, _, rfl⟩
    rintro e l' ⟨y3, y11, y12, rfl⟩
    refine q_forR2 (fun i e l => ∃ y13 y14 y15 y16 : En, e = [.val (.ref a), .val (.ref p), x2, y3, .dat (.int f), x5, x6, x7, .dat (.list (txs ws)), .dat (.int s), .dat (.list bx), y11, y12, y13, y14, y15, y16]) ?_
    have hs17 : s ≤ 17 ∧ 1 ≤ s ∧ f ≤ 30 ∧ 1 ≤ f := by
      rcases hcase with ⟨hT, _⟩ | ⟨_, rfl, rfl, _⟩
      · have hs0 := hT.s0
        have hs1 := hT.s1
        have hf0 := hT.f0
        have hf1 := hT.f1
        omega
      · decide
    walk_at "go"
    have hmin : (if 16 < s then 16 else s) ≤ 16 ∧ (if 16 < s then 16 else s) ≤ s ∧ 0 ≤ (if 16 < s then 16 else s) := by
      by_cases h : (16 : Int) < s
      · rw [if_pos h]; omega
      · rw [if_neg h]; omega
    rw [ln]
    refine ⟨by omega, by omega, by omega, by omega, ⟨_, _, _, _, rfl⟩, ?_, ?_⟩
    · rintro i e l hi ⟨y13, y14, y15, y16, rfl⟩
      show SE B0 _ [_, _, _, _, _, _, _, _, _, _, _, _, _, _, _, _, _] _ _
      have hno : ∀ o : Int, 1 ≤ o → o ≤ 30 → ((ws.length : Int) + i = s → o < f) → ¬ (nums ws o ((ws.length : Int) + i)).Nodup := fun o o0 o1 o2 => by
        rcases hcase with ⟨hT, _⟩ | ⟨hN, rfl, rfl, _⟩
        · exact hT.lt _ o (by omega) o0 o1 (by
            rcases Int.lt_or_eq_of_le (show (ws.length : Int) + i ≤ s by omega) with h | h
            · exact .inl h
            · exact .inr ⟨h, o2 h⟩)
        · exact hN _ o (by omega) (by omega) o0 o1
      have hlow0 : 1 ≤ (ws.length : Int) + i := by omega
      have hlow1 : (ws.length : Int) + i ≤ 16 := by omega
      generalize hlow : (ws.length : Int) + i = low at hno hlow0 hlow1
      refine s_forR2 (fun i e l => ∃ y14 y15 y16 : En, e = [.val (.ref a), .val (.ref p), x2, y3, .dat (.int f), x5, x6, x7, .dat (.list (txs ws)), .dat (.int s), .dat (.list bx), y11, y12, .dat (.int low), y14, y15, y16]) ?_
      refine ea_cons (ee_int (ea_cons (EvE.imp (P := fun e l' => ∃ k : Int, e = .dat (.int k) ∧ l' = l ∧ 0 ≤ k ∧ k ≤ 31 ∧ ∀ o : Int, 1 ≤ o → o < k → ¬ (nums ws o low).Nodup) ?_ ?_)))
      · walk_at "go"
        refine iteD (fun h1 => ?_) (fun h1 => ?_)
        · walk_at "go"
          exact ⟨by omega, by omega, fun o o0 o1 => hno o o0 (by omega) fun _ => o1⟩
        · walk_at "go"
          exact ⟨by omega, by omega, fun o o0 o1 => hno o o0 (by omega) fun h => absurd h h1⟩
      · rintro e l' ⟨k, rfl, rfl, k0, k1, hk⟩
        walk_at "go"
        refine ⟨by omega, by omega, by omega, by omega, ⟨_, _, _, rfl⟩, ?_, ?_⟩
        · rintro j e l hj ⟨y14, y15, y16, rfl⟩
          show SE B0 _ [_, _, _, _, _, _, _, _, _, _, _, _, _, _, _, _, _] _ _
          have hnd := hk (1 + j) (by omega) hj
          walk_at "go"
          refine ee_lcN (enc := fun w => .str (tx w)) (fun w => .int (boxW w (1 + j) % low)) ?_
          walk_at "go"
          have hwl' := hw.len
          refine ⟨by omega, fun fr w hm => ?_, ?_⟩
          · have h6 := hw.six w hm
            walk_at "go"
            exact ⟨w, _, _, rfl, by omega, hw.sg w hm, by omega, by omega, by omega, by omega, rfl, rfl⟩
          · have e : (ws.map fun w => PyData.int (boxW w (1 + j) % low)) = nms (nums ws (1 + j) low) := by simp [nums]
            rw [e]
            have nl : (nums ws (1 + j) low).length = ws.length := nums_len _ _ _
            walk_at "go"
            refine ⟨by omega, ?_⟩
            walk_at "go"
            refine iteD (fun h1 => ?_) (fun h1 => ?_)
            · exact absurd ((dd_len _).mp (by rw [nl]; rw [List.length_map] at h1; omega)) hnd
            · walk_at "go"
              exact ⟨_, _, _, rfl⟩
        · rintro e l ⟨y14, y15, y16, rfl⟩
          exact ⟨_, _, _, _, rfl⟩
    · rintro e l ⟨y13, y14, y15, y16, rfl⟩
      walk_at "go"
      rfl
end

end Lw
namespace Lw
open PySem L2 WS
theorem all_mk {P : Program} {w : World} {K : PySem.W.Frag} {h : Heap} {mg : Str → Option Value} {fa : Addr} (X : K.In h) (G : h.Ns mainGlobals mg) (hfa : mg "law" = some (.ref fa))
    {f0 : Addr} {oc0 kV0 dc0 pm0 cd0 ct0 : Value} {od0 an0 : Option Addr} {sl0 : Array (Option Value)}
    (a0 : PySem.W.nsIn K mainGlobals "is_text" = some (some (.ref f0)))
    (l0 : K.lookup f0 = some ⟨oc0, od0, .func (PySem.W.fnOf "is_text" "is_text" (defArgs s_is_text) (defBody s_is_text) (defScope s_is_text) .none kV0 dc0 pm0 an0 cd0 ct0), sl0⟩)
    (c0 : PySem.W.codeIn K cd0 "is_text" = true)
    (k0 : PySem.W.keepIn K (.ref f0) = true)
    {f1 : Addr} {oc1 kV1 dc1 pm1 cd1 ct1 : Value} {od1 an1 : Option Addr} {sl1 : Array (Option Value)}
    (a1 : PySem.W.nsIn K mainGlobals "need_text" = some (some (.ref f1)))
    (l1 : K.lookup f1 = some ⟨oc1, od1, .func (PySem.W.fnOf "need_text" "need_text" (defArgs s_need_text) (defBody s_need_text) (defScope s_need_text) .none kV1 dc1 pm1 an1 cd1 ct1), sl1⟩)
    (c1 : PySem.W.codeIn K cd1 "need_text" = true)
    (k1 : PySem.W.keepIn K (.ref f1) = true)
    {f2 : Addr} {oc2 kV2 dc2 pm2 cd2 ct2 : Value} {od2 an2 : Option Addr} {sl2 : Array (Option Value)}
    (a2 : PySem.W.nsIn K mainGlobals "need_words" = some (some (.ref f2)))
    (l2 : K.lookup f2 = some ⟨oc2, od2, .func (PySem.W.fnOf "need_words" "need_words" (defArgs s_need_words) (defBody s_need_words) (defScope s_need_words) .none kV2 dc2 pm2 an2 cd2 ct2), sl2⟩)
    (c2 : PySem.W.codeIn K cd2 "need_words" = true)
    (k2 : PySem.W.keepIn K (.ref f2) = true)
    {f3 : Addr} {oc3 kV3 dc3 pm3 cd3 ct3 : Value} {od3 an3 : Option Addr} {sl3 : Array (Option Value)}
    (a3 : PySem.W.nsIn K mainGlobals "case_of" = some (some (.ref f3)))
    (l3 : K.lookup f3 = some ⟨oc3, od3, .func (PySem.W.fnOf "case_of" "case_of" (defArgs s_case_of) (defBody s_case_of) (defScope s_case_of) .none kV3 dc3 pm3 an3 cd3 ct3), sl3⟩)
    (c3 : PySem.W.codeIn K cd3 "case_of" = true)
    (k3 : PySem.W.keepIn K (.ref f3) = true)
    {f4 : Addr} {oc4 kV4 dc4 pm4 cd4 ct4 : Value} {od4 an4 : Option Addr} {sl4 : Array (Option Value)}
    (a4 : PySem.W.nsIn K mainGlobals "case" = some (some (.ref f4)))
    (l4 : K.lookup f4 = some ⟨oc4, od4, .func (PySem.W.fnOf "case" "case" (defArgs s_case) (defBody s_case) (defScope s_case) .none kV4 dc4 pm4 an4 cd4 ct4), sl4⟩)
    (c4 : PySem.W.codeIn K cd4 "case" = true)
    (k4 : PySem.W.keepIn K (.ref f4) = true)
    {f5 : Addr} {oc5 kV5 dc5 pm5 cd5 ct5 : Value} {od5 an5 : Option Addr} {sl5 : Array (Option Value)}
    (a5 : PySem.W.nsIn K mainGlobals "box_of" = some (some (.ref f5)))
    (l5 : K.lookup f5 = some ⟨oc5, od5, .func (PySem.W.fnOf "box_of" "box_of" (defArgs s_box_of) (defBody s_box_of) (defScope s_box_of) .none kV5 dc5 pm5 an5 cd5 ct5), sl5⟩)
    (c5 : PySem.W.codeIn K cd5 "box_of" = true)
    (k5 : PySem.W.keepIn K (.ref f5) = true)
    {f6 : Addr} {oc6 kV6 dc6 pm6 cd6 ct6 : Value} {od6 an6 : Option Addr} {sl6 : Array (Option Value)}
    (a6 : PySem.W.nsIn K mainGlobals "box" = some (some (.ref f6)))
    (l6 : K.lookup f6 = some ⟨oc6, od6, .func (PySem.W.fnOf "box" "box" (defArgs s_box) (defBody s_box) (defScope s_box) .none kV6 dc6 pm6 an6 cd6 ct6), sl6⟩)
    (c6 : PySem.W.codeIn K cd6 "box" = true)
    (k6 : PySem.W.keepIn K (.ref f6) = true)
    {f7 : Addr} {oc7 kV7 dc7 pm7 cd7 ct7 : Value} {od7 an7 : Option Addr} {sl7 : Array (Option Value)}
    (a7 : PySem.W.nsIn K mainGlobals "table_of" = some (some (.ref f7)))
    (l7 : K.lookup f7 = some ⟨oc7, od7, .func (PySem.W.fnOf "table_of" "table_of" (defArgs s_table_of) (defBody s_table_of) (defScope s_table_of) .none kV7 dc7 pm7 an7 cd7 ct7), sl7⟩)
    (c7 : PySem.W.codeIn K cd7 "table_of" = true)
    (k7 : PySem.W.keepIn K (.ref f7) = true)
    {f8 : Addr} {oc8 kV8 dc8 pm8 cd8 ct8 : Value} {od8 an8 : Option Addr} {sl8 : Array (Option Value)}
    (a8 : PySem.W.nsIn K mainGlobals "table" = some (some (.ref f8)))
    (l8 : K.lookup f8 = some ⟨oc8, od8, .func (PySem.W.fnOf "table" "table" (defArgs s_table) (defBody s_table) (defScope s_table) .none kV8 dc8 pm8 an8 cd8 ct8), sl8⟩)
    (c8 : PySem.W.codeIn K cd8 "table" = true)
    (k8 : PySem.W.keepIn K (.ref f8) = true)
    {f9 : Addr} {oc9 kV9 dc9 pm9 cd9 ct9 : Value} {od9 an9 : Option Addr} {sl9 : Array (Option Value)}
    (a9 : PySem.W.nsIn K mainGlobals "by_table" = some (some (.ref f9)))
    (l9 : K.lookup f9 = some ⟨oc9, od9, .func (PySem.W.fnOf "by_table" "by_table" (defArgs s_by_table) (defBody s_by_table) (defScope s_by_table) .none kV9 dc9 pm9 an9 cd9 ct9), sl9⟩)
    (c9 : PySem.W.codeIn K cd9 "by_table" = true)
    (k9 : PySem.W.keepIn K (.ref f9) = true)
    {f10 : Addr} {oc10 kV10 dc10 pm10 cd10 ct10 : Value} {od10 an10 : Option Addr} {sl10 : Array (Option Value)}
    (a10 : PySem.W.nsIn K mainGlobals "_law_taken" = some (some (.ref f10)))
    (l10 : K.lookup f10 = some ⟨oc10, od10, .func (PySem.W.fnOf "_law_taken" "_law_taken" (defArgs s_law_taken) (defBody s_law_taken) (defScope s_law_taken) .none kV10 dc10 pm10 an10 cd10 ct10), sl10⟩)
    (c10 : PySem.W.codeIn K cd10 "_law_taken" = true)
    (k10 : PySem.W.keepIn K (.ref f10) = true)
    {f11 : Addr} {oc11 kV11 dc11 pm11 cd11 ct11 : Value} {od11 an11 : Option Addr} {sl11 : Array (Option Value)}
    (a11 : PySem.W.nsIn K mainGlobals "_law_text" = some (some (.ref f11)))
    (l11 : K.lookup f11 = some ⟨oc11, od11, .func (PySem.W.fnOf "_law_text" "_law_text" (defArgs s_law_text) (defBody s_law_text) (defScope s_law_text) .none kV11 dc11 pm11 an11 cd11 ct11), sl11⟩)
    (c11 : PySem.W.codeIn K cd11 "_law_text" = true)
    (k11 : PySem.W.keepIn K (.ref f11) = true)
    {f12 : Addr} {oc12 kV12 dc12 pm12 cd12 ct12 : Value} {od12 an12 : Option Addr} {sl12 : Array (Option Value)}
    (a12 : PySem.W.nsIn K mainGlobals "_law_near" = some (some (.ref f12)))
    (l12 : K.lookup f12 = some ⟨oc12, od12, .func (PySem.W.fnOf "_law_near" "_law_near" (defArgs s_law_near) (defBody s_law_near) (defScope s_law_near) .none kV12 dc12 pm12 an12 cd12 ct12), sl12⟩)
    (c12 : PySem.W.codeIn K cd12 "_law_near" = true)
    (k12 : PySem.W.keepIn K (.ref f12) = true)
    {f13 : Addr} {oc13 kV13 dc13 pm13 cd13 ct13 : Value} {od13 an13 : Option Addr} {sl13 : Array (Option Value)}
    (a13 : PySem.W.nsIn K mainGlobals "_law_words" = some (some (.ref f13)))
    (l13 : K.lookup f13 = some ⟨oc13, od13, .func (PySem.W.fnOf "_law_words" "_law_words" (defArgs s_law_words) (defBody s_law_words) (defScope s_law_words) .none kV13 dc13 pm13 an13 cd13 ct13), sl13⟩)
    (c13 : PySem.W.codeIn K cd13 "_law_words" = true)
    (k13 : PySem.W.keepIn K (.ref f13) = true)
    {f14 : Addr} {oc14 kV14 dc14 pm14 cd14 ct14 : Value} {od14 an14 : Option Addr} {sl14 : Array (Option Value)}
    (a14 : PySem.W.nsIn K mainGlobals "_law_texts" = some (some (.ref f14)))
    (l14 : K.lookup f14 = some ⟨oc14, od14, .func (PySem.W.fnOf "_law_texts" "_law_texts" (defArgs s_law_texts) (defBody s_law_texts) (defScope s_law_texts) .none kV14 dc14 pm14 an14 cd14 ct14), sl14⟩)
    (c14 : PySem.W.codeIn K cd14 "_law_texts" = true)
    (k14 : PySem.W.keepIn K (.ref f14) = true)
    {f15 : Addr} {oc15 kV15 dc15 pm15 cd15 ct15 : Value} {od15 an15 : Option Addr} {sl15 : Array (Option Value)}
    (a15 : PySem.W.nsIn K mainGlobals "_law_whole" = some (some (.ref f15)))
    (l15 : K.lookup f15 = some ⟨oc15, od15, .func (PySem.W.fnOf "_law_whole" "_law_whole" (defArgs s_law_whole) (defBody s_law_whole) (defScope s_law_whole) .none kV15 dc15 pm15 an15 cd15 ct15), sl15⟩)
    (c15 : PySem.W.codeIn K cd15 "_law_whole" = true)
    (k15 : PySem.W.keepIn K (.ref f15) = true)
    {f16 : Addr} {oc16 kV16 dc16 pm16 cd16 ct16 : Value} {od16 an16 : Option Addr} {sl16 : Array (Option Value)}
    (a16 : PySem.W.nsIn K mainGlobals "law" = some (some (.ref f16)))
    (l16 : K.lookup f16 = some ⟨oc16, od16, .func (PySem.W.fnOf "law" "law" (defArgs s_law) (defBody s_law) (defScope s_law) .none kV16 dc16 pm16 an16 cd16 ct16), sl16⟩)
    (c16 : PySem.W.codeIn K cd16 "law" = true)
    (k16 : PySem.W.keepIn K (.ref f16) = true)
    {t_SIGNS : Tok}
    (v_SIGNS : PySem.W.nsIn K mainGlobals "SIGNS" = some (some (.str "abcd" t_SIGNS)))
    {t_MOST_SIGNS : Tok}
    (v_MOST_SIGNS : PySem.W.nsIn K mainGlobals "MOST_SIGNS" = some (some (.int 10 t_MOST_SIGNS)))
    {t_MOST_LETTERS : Tok}
    (v_MOST_LETTERS : PySem.W.nsIn K mainGlobals "MOST_LETTERS" = some (some (.int 6 t_MOST_LETTERS)))
    {t_MOST_WORDS : Tok}
    (v_MOST_WORDS : PySem.W.nsIn K mainGlobals "MOST_WORDS" = some (some (.int 8 t_MOST_WORDS)))
    {t_MOST_FACTOR : Tok}
    (v_MOST_FACTOR : PySem.W.nsIn K mainGlobals "MOST_FACTOR" = some (some (.int 30 t_MOST_FACTOR)))
    {t_MOST_SIZE : Tok}
    (v_MOST_SIZE : PySem.W.nsIn K mainGlobals "MOST_SIZE" = some (some (.int 16 t_MOST_SIZE)))
    {t_REST : Tok}
    (v_REST : PySem.W.nsIn K mainGlobals "REST" = some (some (.int 97 t_REST)))
    (n_len : PySem.W.nsIn K mainGlobals "len" = some none)
    (n_range : PySem.W.nsIn K mainGlobals "range" = some none)
    (n_set : PySem.W.nsIn K mainGlobals "set" = some none)
    (n_int : PySem.W.nsIn K mainGlobals "int" = some none)
    (n_min : PySem.W.nsIn K mainGlobals "min" = some none)
    {a_NoTable : Addr}
    (eg_NoTable : PySem.W.nsIn K mainGlobals "NoTable" = some (some (.ref a_NoTable)))
    (ex_NoTable : PySem.W.excIn K a_NoTable [.type "ValueError", .type "Exception", .type "BaseException", .type "object"] "ValueError.__new__" = true)
    (ek_NoTable : PySem.W.keepIn K (.ref a_NoTable) = true)
    (eb_NoTable : PySem.W.subIn K (.ref a_NoTable) (.type "BaseException") = some true)
    (et_NoTable : PySem.W.typeIn K (.ref a_NoTable) = some (.type "type"))
    (ei_NoTable : PySem.W.isClsIn K a_NoTable = true)
    (es_NoTable : PySem.W.subIn K (.ref a_NoTable) (.ref a_NoTable) = some true) :
    ∃ fd : FuncData, (∀ (s : Shared) (v : Value), BindsTo s fd ⟨[v], []⟩ [("_law_script", v)]) ∧ ∀ base : Heap, K.In base → base.Ns mainGlobals mg → FnOk P w K mg base CX0 5 fa fd ["_law_script"] (spLaw K) := by
  have e := hfa.symm.trans (PySem.W.mg_of X G a16)
  cases e
  have F0 := fun_mk (st := s_is_text) l0 c0 k0
  have F1 := fun_mk (st := s_need_text) l1 c1 k1
  have F2 := fun_mk (st := s_need_words) l2 c2 k2
  have F3 := fun_mk (st := s_case_of) l3 c3 k3
  have F4 := fun_mk (st := s_case) l4 c4 k4
  have F5 := fun_mk (st := s_box_of) l5 c5 k5
  have F6 := fun_mk (st := s_box) l6 c6 k6
  have F7 := fun_mk (st := s_table_of) l7 c7 k7
  have F8 := fun_mk (st := s_table) l8 c8 k8
  have F9 := fun_mk (st := s_by_table) l9 c9 k9
  have F10 := fun_mk (st := s_law_taken) l10 c10 k10
  have F11 := fun_mk (st := s_law_text) l11 c11 k11
  have F12 := fun_mk (st := s_law_near) l12 c12 k12
  have F13 := fun_mk (st := s_law_words) l13 c13 k13
  have F14 := fun_mk (st := s_law_texts) l14 c14 k14
  have F15 := fun_mk (st := s_law_whole) l15 c15 k15
  have F16 := fun_mk (st := s_law) l16 c16 k16
  have T : Σ' T : Txt w K mg, T.f_law = fa ∧ T.d_law = PySem.W.fnOf "law" "law" (defArgs s_law) (defBody s_law) (defScope s_law) .none kV16 dc16 pm16 an16 cd16 ct16 := ⟨{
    f_is_text := f0,
    d_is_text := _,
    F_is_text := F0,
    g_is_text := PySem.W.mg_of X G a0,
    b_is_text := F0.binds (ps := ["text", "most"]) fun _ _ _ _ _ _ us hl => match us, hl with | [_, _], _ => rfl,
    f_need_text := f1,
    d_need_text := _,
    F_need_text := F1,
    g_need_text := PySem.W.mg_of X G a1,
    b_need_text := F1.binds (ps := ["text"]) fun _ _ _ _ _ _ us hl => match us, hl with | [_], _ => rfl,
    f_need_words := f2,
    d_need_words := _,
    F_need_words := F2,
    g_need_words := PySem.W.mg_of X G a2,
    b_need_words := F2.binds (ps := ["words"]) fun _ _ _ _ _ _ us hl => match us, hl with | [_], _ => rfl,
    f_case_of := f3,
    d_case_of := _,
    F_case_of := F3,
    g_case_of := PySem.W.mg_of X G a3,
    b_case_of := F3.binds (ps := ["words", "text"]) fun _ _ _ _ _ _ us hl => match us, hl with | [_, _], _ => rfl,
    f_case := f4,
    d_case := _,
    F_case := F4,
    g_case := PySem.W.mg_of X G a4,
    b_case := F4.binds (ps := ["words", "text"]) fun _ _ _ _ _ _ us hl => match us, hl with | [_, _], _ => rfl,
    f_box_of := f5,
    d_box_of := _,
    F_box_of := F5,
    g_box_of := PySem.W.mg_of X G a5,
    b_box_of := F5.binds (ps := ["text", "factor", "size"]) fun _ _ _ _ _ _ us hl => match us, hl with | [_, _, _], _ => rfl,
    f_box := f6,
    d_box := _,
    F_box := F6,
    g_box := PySem.W.mg_of X G a6,
    b_box := F6.binds (ps := ["text", "factor", "size"]) fun _ _ _ _ _ _ us hl => match us, hl with | [_, _, _], _ => rfl,
    f_table_of := f7,
    d_table_of := _,
    F_table_of := F7,
    g_table_of := PySem.W.mg_of X G a7,
    b_table_of := F7.binds (ps := ["words"]) fun _ _ _ _ _ _ us hl => match us, hl with | [_], _ => rfl,
    f_table := f8,
    d_table := _,
    F_table := F8,
    g_table := PySem.W.mg_of X G a8,
    b_table := F8.binds (ps := ["words"]) fun _ _ _ _ _ _ us hl => match us, hl with | [_], _ => rfl,
    f_by_table := f9,
    d_by_table := _,
    F_by_table := F9,
    g_by_table := PySem.W.mg_of X G a9,
    b_by_table := F9.binds (ps := ["words", "text"]) fun _ _ _ _ _ _ us hl => match us, hl with | [_, _], _ => rfl,
    f_law_taken := f10,
    d_law_taken := _,
    F_law_taken := F10,
    g_law_taken := PySem.W.mg_of X G a10,
    b_law_taken := F10.binds (ps := ["_law_row", "_law_many"]) fun _ _ _ _ _ _ us hl => match us, hl with | [_, _], _ => rfl,
    f_law_text := f11,
    d_law_text := _,
    F_law_text := F11,
    g_law_text := PySem.W.mg_of X G a11,
    b_law_text := F11.binds (ps := ["_law_row", "_law_most", "_law_few"]) fun _ _ _ _ _ _ us hl => match us, hl with | [_, _, _], _ => rfl,
    f_law_near := f12,
    d_law_near := _,
    F_law_near := F12,
    g_law_near := PySem.W.mg_of X G a12,
    b_law_near := F12.binds (ps := ["_law_row", "_law_text_here"]) fun _ _ _ _ _ _ us hl => match us, hl with | [_, _], _ => rfl,
    f_law_words := f13,
    d_law_words := _,
    F_law_words := F13,
    g_law_words := PySem.W.mg_of X G a13,
    b_law_words := F13.binds (ps := ["_law_row", "_law_most"]) fun _ _ _ _ _ _ us hl => match us, hl with | [_, _], _ => rfl,
    f_law_texts := f14,
    d_law_texts := _,
    F_law_texts := F14,
    g_law_texts := PySem.W.mg_of X G a14,
    b_law_texts := F14.binds (ps := ["_law_row", "_law_words_here"]) fun _ _ _ _ _ _ us hl => match us, hl with | [_, _], _ => rfl,
    f_law_whole := f15,
    d_law_whole := _,
    F_law_whole := F15,
    g_law_whole := PySem.W.mg_of X G a15,
    b_law_whole := F15.binds (ps := ["_law_text_here", "_law_factor"]) fun _ _ _ _ _ _ us hl => match us, hl with | [_, _], _ => rfl,
    f_law := fa,
    d_law := _,
    F_law := F16,
    g_law := PySem.W.mg_of X G a16,
    b_law := F16.binds (ps := ["_law_script"]) fun _ _ _ _ _ _ us hl => match us, hl with | [_], _ => rfl,
    t_SIGNS := t_SIGNS,
    c_SIGNS := PySem.W.mg_of X G v_SIGNS,
    t_MOST_SIGNS := t_MOST_SIGNS,
    c_MOST_SIGNS := PySem.W.mg_of X G v_MOST_SIGNS,
    t_MOST_LETTERS := t_MOST_LETTERS,
    c_MOST_LETTERS := PySem.W.mg_of X G v_MOST_LETTERS,
    t_MOST_WORDS := t_MOST_WORDS,
    c_MOST_WORDS := PySem.W.mg_of X G v_MOST_WORDS,
    t_MOST_FACTOR := t_MOST_FACTOR,
    c_MOST_FACTOR := PySem.W.mg_of X G v_MOST_FACTOR,
    t_MOST_SIZE := t_MOST_SIZE,
    c_MOST_SIZE := PySem.W.mg_of X G v_MOST_SIZE,
    t_REST := t_REST,
    c_REST := PySem.W.mg_of X G v_REST,
    n_len := PySem.W.mg_none_of X G n_len,
    n_range := PySem.W.mg_none_of X G n_range,
    n_set := PySem.W.mg_none_of X G n_set,
    n_int := PySem.W.mg_none_of X G n_int,
    n_min := PySem.W.mg_none_of X G n_min,
    a_NoTable := a_NoTable,
    e_NoTable := ⟨PySem.W.mg_of X G eg_NoTable, ex_NoTable, ek_NoTable, eb_NoTable, et_NoTable, ei_NoTable, es_NoTable⟩ }, rfl, rfl⟩
  refine ⟨PySem.W.fnOf "law" "law" (defArgs s_law) (defBody s_law) (defScope s_law) .none kV16 dc16 pm16 an16 cd16 ct16, fun s v => .of_eq rfl, fun base _ _ => ?_⟩
  have q := ok_law (P := P) (w := w) (base := base) T.1
  rw [T.2.1, T.2.2] at q
  exact q
theorem walk {l : PySem.W.OpenLaw} {q : Program} {loose : List Str} {XP : (Str → Option Value) → Heap → Prop} {YP : World → Heap → Prop} {d : DefRec} {K : Params → PySem.W.Frag} (hn : l.most = some 63) (hdf : d.params.defaults = [])
    (hY : ∀ (w : World) (h : Heap), YP w h → (K w.params).In h)
    (F : ∀ (w : World) (mg : Str → Option Value) (fa : Addr) (h : Heap), (K w.params).In h → h.Ns mainGlobals mg → mg d.name = some (.ref fa) →
      ∃ fd : FuncData, (∀ (s : Shared) (u : Value), BindsTo s fd ⟨[u], []⟩ [("_law_script", u)]) ∧ ∀ base : Heap, (K w.params).In base → base.Ns mainGlobals mg → FnOk l.prog w (K w.params) mg base CX0 5 fa fd ["_law_script"] (spLaw (K w.params))) :
    PySem.W.WalkO q loose XP YP l.row.toRowW d [] (fun f vs => PySem.call f vs) :=
  L2.walk_of (n := 63) (k := 5) (x := "_law_script") (CX := fun _ => CX0) (sp := fun w => spLaw (K w.params)) hn (by decide) hdf ⟨rfl, by decide, by decide⟩ hY F (fun _ _ a ns hl _ hS => ⟨a, ns, rfl, hS, fun _ => rfl⟩) fun _ _ _ _ _ z => z
end Lw
open PySem PySem.W PyProof.Rows
set_option maxRecDepth 100000 in
set_option maxHeartbeats 0 in
theorem PySem.Challenge.cw_wordswitch_k19_whole_boxes_sign_by_sign_holds : PySem.Challenge.rw_wordswitch_k19_whole_boxes_sign_by_sign.Holds := by
  w_on; o_law; k_head; (case hw => w_witness2)
  k_fill
  refine Lw.walk (l := PySem.Challenge.rw_wordswitch_k19_whole_boxes_sign_by_sign) rfl rfl (fun w h Y => PySem.W.kIn_of Y) ?F
  case F =>
    intro w mg fa h KX G hmg
    refine' Lw.all_mk KX G hmg ?a0 ?l0 ?c0 ?k0 ?a1 ?l1 ?c1 ?k1 ?a2 ?l2 ?c2 ?k2 ?a3 ?l3 ?c3 ?k3 ?a4 ?l4 ?c4 ?k4 ?a5 ?l5 ?c5 ?k5 ?a6 ?l6 ?c6 ?k6 ?a7 ?l7 ?c7 ?k7 ?a8 ?l8 ?c8 ?k8 ?a9 ?l9 ?c9 ?k9 ?a10 ?l10 ?c10 ?k10 ?a11 ?l11 ?c11 ?k11 ?a12 ?l12 ?c12 ?k12 ?a13 ?l13 ?c13 ?k13 ?a14 ?l14 ?c14 ?k14 ?a15 ?l15 ?c15 ?k15 ?a16 ?l16 ?c16 ?k16 ?v_SIGNS ?v_MOST_SIGNS ?v_MOST_LETTERS ?v_MOST_WORDS ?v_MOST_FACTOR ?v_MOST_SIZE ?v_REST ?n_len ?n_range ?n_set ?n_int ?n_min ?eg_NoTable ?ex_NoTable ?ek_NoTable ?eb_NoTable ?et_NoTable ?ei_NoTable ?es_NoTable
    (case eg_NoTable => k_is)
    (case a0 => k_is)
    (case l0 => k_is)
    (case c0 => k_is)
    (case k0 => k_is)
    (case a1 => k_is)
    (case l1 => k_is)
    (case c1 => k_is)
    (case k1 => k_is)
    (case a2 => k_is)
    (case l2 => k_is)
    (case c2 => k_is)
    (case k2 => k_is)
    (case a3 => k_is)
    (case l3 => k_is)
    (case c3 => k_is)
    (case k3 => k_is)
    (case a4 => k_is)
    (case l4 => k_is)
    (case c4 => k_is)
    (case k4 => k_is)
    (case a5 => k_is)
    (case l5 => k_is)
    (case c5 => k_is)
    (case k5 => k_is)
    (case a6 => k_is)
    (case l6 => k_is)
    (case c6 => k_is)
    (case k6 => k_is)
    (case a7 => k_is)
    (case l7 => k_is)
    (case c7 => k_is)
    (case k7 => k_is)
    (case a8 => k_is)
    (case l8 => k_is)
    (case c8 => k_is)
    (case k8 => k_is)
    (case a9 => k_is)
    (case l9 => k_is)
    (case c9 => k_is)
    (case k9 => k_is)
    (case a10 => k_is)
    (case l10 => k_is)
    (case c10 => k_is)
    (case k10 => k_is)
    (case a11 => k_is)
    (case l11 => k_is)
    (case c11 => k_is)
    (case k11 => k_is)
    (case a12 => k_is)
    (case l12 => k_is)
    (case c12 => k_is)
    (case k12 => k_is)
    (case a13 => k_is)
    (case l13 => k_is)
    (case c13 => k_is)
    (case k13 => k_is)
    (case a14 => k_is)
    (case l14 => k_is)
    (case c14 => k_is)
    (case k14 => k_is)
    (case a15 => k_is)
    (case l15 => k_is)
    (case c15 => k_is)
    (case k15 => k_is)
    (case a16 => k_is)
    (case l16 => k_is)
    (case c16 => k_is)
    (case k16 => k_is)
    (case v_SIGNS => k_is)
    (case v_MOST_SIGNS => k_is)
    (case v_MOST_LETTERS => k_is)
    (case v_MOST_WORDS => k_is)
    (case v_MOST_FACTOR => k_is)
    (case v_MOST_SIZE => k_is)
    (case v_REST => k_is)
    (case n_len => k_is)
    (case n_range => k_is)
    (case n_set => k_is)
    (case n_int => k_is)
    (case n_min => k_is)
    (case ex_NoTable => k_exc)
    (case ek_NoTable => k_is)
    (case eb_NoTable => k_is)
    (case et_NoTable => k_is)
    (case ei_NoTable => k_is)
    (case es_NoTable => first | rfl | k_is)
