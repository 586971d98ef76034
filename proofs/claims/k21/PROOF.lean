import PyProof.Rows.All
import Wide.All
import OpenK.AllK
import Wide.FinOn
import HandS.ForMost
import HandS.ForExc
import HandS.Wide
import HandS.TupAny
import HandS.TupMul
import HandS.IsInst
import HandS.Style
import HandS.Zip
import HandS.Codes
import HandS.More
import HandS.ExcCtx
import HandS.WordsExc
import KE.GoesEnum
import HandS.Deep
import HandS.TupSets
import PyProof.P3In
import HandS.HotCalls
import HandS.ExcIs
import HandS.Text
import PyProof.P3Eq
import PySem.Challenge.RW_bowlnest_k21_whole_stacks
set_option Elab.async false
set_option linter.all false
set_option maxRecDepth 100000
set_option maxHeartbeats 4000000
/-! D layer, part 1: plain data over the abstract heap, readings lifted to data -/
namespace BN
open PySem PySem.Spec PyProof.Rows L2
abbrev St := L2.St

/-- a value as data: plain data (lists that nobody changes any more among them), an address, a type, the script -/
inductive D where
  | d (x : PyData)
  | ref (a : Addr)
  | ty (n : String)
  | scr (ns : List Int)
/-- what may change: a list, an instance -/
inductive MO where
  | lst (ds : List PyData)
  | ins (C dx : Addr) (fs : List (Str × V))
abbrev DM := Addr → Option MO
abbrev DSt := List (Option D)
def put (M : DM) (a : Addr) (o : MO) : DM := fun b => if b = a then some o else M b
theorem put_same {M : DM} {a : Addr} {o : MO} : put M a o a = some o := if_pos rfl
theorem put_ne {M : DM} {a b : Addr} {o : MO} (h : b ≠ a) : put M a o b = M b := if_neg h
theorem put_put {M : DM} {a : Addr} {o u : MO} : put (put M a o) a u = put M a u := by
  funext b
  unfold put
  split <;> rfl
def NotMut (M : DM) (a : Addr) : Prop := ∀ ds, M a ≠ some (.lst ds)
def Sub (M' M : DM) : Prop := ∀ a o, M' a = some o → M a = some o
theorem Sub.rfl' {M : DM} : Sub M M := fun _ _ h => h
theorem Sub.trans {M1 M2 M3 : DM} (a : Sub M1 M2) (b : Sub M2 M3) : Sub M1 M3 := fun x o h => b x o (a x o h)
theorem Sub.put {M M1 : DM} {p : Addr} {o : MO} (s : Sub M M1) (h : M1 p = none) : Sub M (BN.put M1 p o) := fun a u e => by
  have e1 := s a u e
  have ne : a ≠ p := fun z => by subst z; rw [h] at e1; cases e1
  rw [put_ne ne]
  exact e1
theorem NotMut.sub {M M' : DM} {a : Addr} (n : NotMut M a) (s : Sub M' M) : NotMut M' a := fun ds e => n ds (s a _ e)

/-- what may change, and the addresses of the lists that nobody changes any more -/
structure Wd where
  M : DM
  F : Addr → Prop
abbrev Wd.put (W : Wd) (p : Addr) (o : MO) : Wd := ⟨BN.put W.M p o, W.F⟩
abbrev Wd.fix (W : Wd) (p : Addr) : Wd := ⟨W.M, fun a => a = p ∨ W.F a⟩
/-- the way from one heap to a later one -/
structure TX (W : Wd) (H : Hp) (W' : Wd) (H' : Hp) : Prop where
  tup : ∀ a xs, H a = some (.tup xs) → H' a = some (.tup xs)
  frz : ∀ a o u, H a = some (.frz o u) → H' a = some (.frz o u)
  lst : ∀ a xs, H a = some (.lst xs) → NotMut W.M a → H' a = some (.lst xs) ∧ NotMut W'.M a ∧ (W'.F a → W.F a)
  val : ∀ a xs, W.F a → H a = some (.lst xs) → H' a = some (.lst xs)
  sub : ∀ a, W.F a → W'.F a
theorem TX.rfl' {W : Wd} {H : Hp} : TX W H W H := ⟨fun _ _ h => h, fun _ _ _ h => h, fun _ _ h n => ⟨h, n, id⟩, fun _ _ _ h => h, fun _ h => h⟩
theorem TX.trans {W W1 W2 : Wd} {H H1 H2 : Hp} (a : TX W H W1 H1) (b : TX W1 H1 W2 H2) : TX W H W2 H2 :=
  ⟨fun x xs h => b.tup x xs (a.tup x xs h), fun x o u h => b.frz x o u (a.frz x o u h), fun x xs h n => let ⟨h1, n1, f1⟩ := a.lst x xs h n; let ⟨h2, n2, f2⟩ := b.lst x xs h1 n1; ⟨h2, n2, fun z => f1 (f2 z)⟩,
    fun x xs f h => b.val x xs (a.sub x f) (a.val x xs f h), fun x h => b.sub x (a.sub x h)⟩
/-- a new object that may change -/
theorem TX.newM {W : Wd} {H : Hp} {p : Addr} {o : HO} {mo : MO} (hp : H p = none) : TX W H (W.put p mo) (upd H p o) :=
  ⟨fun a xs h => by rw [upd_ne (ne_of_none h hp)]; exact h, fun a u w h => by rw [upd_ne (ne_of_none h hp)]; exact h,
    fun a xs h n => ⟨by rw [upd_ne (ne_of_none h hp)]; exact h, fun ds e => n ds ((put_ne (ne_of_none h hp)).symm.trans e), id⟩,
    fun a xs _ h => by rw [upd_ne (ne_of_none h hp)]; exact h, fun _ h => h⟩
/-- a new object that is not told of -/
theorem TX.newT {W : Wd} {H : Hp} {p : Addr} {o : HO} (hp : H p = none) : TX W H W (upd H p o) :=
  ⟨fun a xs h => by rw [upd_ne (ne_of_none h hp)]; exact h, fun a u w h => by rw [upd_ne (ne_of_none h hp)]; exact h, fun a xs h n => ⟨by rw [upd_ne (ne_of_none h hp)]; exact h, n, id⟩,
    fun a xs _ h => by rw [upd_ne (ne_of_none h hp)]; exact h, fun _ h => h⟩
/-- a new object at p, p among the lists that stay -/
theorem TX.new {W : Wd} {H : Hp} {p : Addr} {o : HO} (hp : H p = none) : TX W H (W.fix p) (upd H p o) :=
  ⟨fun a xs h => by rw [upd_ne (ne_of_none h hp)]; exact h, fun a u w h => by rw [upd_ne (ne_of_none h hp)]; exact h, fun a xs h n => ⟨by rw [upd_ne (ne_of_none h hp)]; exact h, n, fun z => z.resolve_left (ne_of_none h hp)⟩,
    fun a xs _ h => by rw [upd_ne (ne_of_none h hp)]; exact h, fun _ h => .inr h⟩
/-- a list that may change is changed -/
theorem TX.write {W : Wd} {H : Hp} {p : Addr} {vs ws : List V} {ds es : List PyData} (hp : H p = some (.lst vs)) (hm : W.M p = some (.lst ds)) (hf : ¬ W.F p) : TX W H (W.put p (.lst es)) (upd H p (.lst ws)) :=
  ⟨fun a xs h => by rw [upd_ne (ne_of h hp (fun z => by cases z))]; exact h, fun a u w h => by rw [upd_ne (ne_of h hp (fun z => by cases z))]; exact h,
    fun a xs h n => by
      have ne : a ≠ p := fun z => by subst z; exact n _ hm
      exact ⟨by rw [upd_ne ne]; exact h, fun ds e => n ds ((put_ne ne).symm.trans e), id⟩,
    fun a xs f h => by rw [upd_ne (fun z => hf (by rw [← z]; exact f))]; exact h, fun _ h => h⟩
/-- less is told -/
theorem TX.less {W : Wd} {M2 : DM} {F2 : Addr → Prop} {H : Hp} (s : Sub M2 W.M) (f : ∀ a, W.F a → F2 a) (g : ∀ a, F2 a → NotMut W.M a → W.F a) : TX W H ⟨M2, F2⟩ H :=
  ⟨fun _ _ h => h, fun _ _ _ h => h, fun x xs h n => ⟨h, n.sub s, fun z => g x z n⟩, fun _ _ _ h => h, f⟩

/-- a list that nobody changes any more -/
def LsV (W : Wd) (H : Hp) (a : Addr) (xs : List V) : Prop := H a = some (.lst xs) ∧ W.F a
def Hp0 : Hp := fun _ => none
mutual
inductive Rp (K : PySem.W.Frag) (M : Wd) (H : Hp) : V → PyData → Prop
  | non : Rp K M H .non .none
  | bl (b : Bool) : Rp K M H (.bl b) (.bool b)
  | int (i : Int) : Rp K M H (.int i) (.int i)
  | str (x : Str) : Rp K M H (.str x) (.str x)
  | lst {a : Addr} {xs : List V} {ds : List PyData} : LsV M H a xs → RpL K M H xs ds → Rp K M H (.ref a) (.list ds)
  | tup {a : Addr} {xs : List V} {ds : List PyData} : SqT K H a xs → RpL K M H xs ds → Rp K M H (.ref a) (.tuple ds)
inductive RpL (K : PySem.W.Frag) (M : Wd) (H : Hp) : List V → List PyData → Prop
  | nil : RpL K M H [] []
  | cons {v : V} {vs : List V} {x : PyData} {xs : List PyData} : Rp K M H v x → RpL K M H vs xs → RpL K M H (v :: vs) (x :: xs)
end
theorem SqT.tx {K : PySem.W.Frag} {M M' : Wd} {H H' : Hp} {a : Addr} {xs : List V} (h : SqT K H a xs) (t : TX M H M' H') : SqT K H' a xs := by
  rcases h with (h | ⟨o, h⟩) | h
  · exact .inl (.inl (t.tup _ _ h))
  · exact .inl (.inr ⟨o, t.frz _ _ _ h⟩)
  · exact .inr h
theorem LsV.tx {M M' : Wd} {H H' : Hp} {a : Addr} {xs : List V} (h : LsV M H a xs) (t : TX M H M' H') : LsV M' H' a xs := ⟨t.val _ _ h.2 h.1, t.sub _ h.2⟩
section
variable {K : PySem.W.Frag} {M M' : Wd} {H H' : Hp}
mutual
theorem Rp.tx (t : TX M H M' H') : ∀ {v : V} {x : PyData}, Rp K M H v x → Rp K M' H' v x
  | _, _, .non => .non
  | _, _, .bl b => .bl b
  | _, _, .int i => .int i
  | _, _, .str x => .str x
  | _, _, .lst h r => .lst (h.tx t) (RpL.tx t r)
  | _, _, .tup h r => .tup (SqT.tx h t) (RpL.tx t r)
theorem RpL.tx (t : TX M H M' H') : ∀ {vs : List V} {xs : List PyData}, RpL K M H vs xs → RpL K M' H' vs xs
  | _, _, .nil => .nil
  | _, _, .cons h r => .cons (Rp.tx t h) (RpL.tx t r)
end
mutual
theorem Rp.dp : ∀ {v : V} {x : PyData}, Rp K M H v x → Dp K H v x
  | _, _, .non => .non
  | _, _, .bl b => .bl b
  | _, _, .int i => .int i
  | _, _, .str x => .str x
  | _, _, .lst h r => .lst (SqL.of h.1) (RpL.dp r)
  | _, _, .tup h r => .tup h (RpL.dp r)
theorem RpL.dp : ∀ {vs : List V} {xs : List PyData}, RpL K M H vs xs → DpAll K H vs xs
  | _, _, .nil => .nil
  | _, _, .cons h r => .cons (Rp.dp h) (RpL.dp r)
end
end
section
variable {K : PySem.W.Frag} {M M' : Wd} {H H' : Hp}
theorem RpL.length : ∀ {vs : List V} {xs : List PyData}, RpL K M H vs xs → vs.length = xs.length
  | _, _, .nil => rfl
  | _, _, .cons _ r => congrArg Nat.succ (RpL.length r)
theorem RpL.get : ∀ {vs : List V} {xs : List PyData} {i : Nat} {v : V}, RpL K M H vs xs → vs[i]? = some v → ∃ x, xs[i]? = some x ∧ Rp K M H v x
  | _, _, _, _, .nil, e => by simp at e
  | _, _, 0, _, .cons h r, e => by simp at e; subst e; exact ⟨_, rfl, h⟩
  | _, _, i + 1, v, .cons h r, e => by
    obtain ⟨x, h1, h2⟩ := RpL.get (i := i) (v := v) r (by simpa using e)
    exact ⟨x, by simpa using h1, h2⟩
theorem RpL.get' : ∀ {vs : List V} {xs : List PyData} {i : Nat} {x : PyData}, RpL K M H vs xs → xs[i]? = some x → ∃ v, vs[i]? = some v ∧ Rp K M H v x
  | _, _, _, _, .nil, e => by simp at e
  | _, _, 0, _, .cons h r, e => by simp at e; subst e; exact ⟨_, rfl, h⟩
  | _, _, i + 1, v, .cons h r, e => by
    obtain ⟨x, h1, h2⟩ := RpL.get' (i := i) (x := v) r (by simpa using e)
    exact ⟨x, by simpa using h1, h2⟩
theorem RpL.append : ∀ {vs ws : List V} {xs ys : List PyData}, RpL K M H vs xs → RpL K M H ws ys → RpL K M H (vs ++ ws) (xs ++ ys)
  | _, _, _, _, .nil, s => s
  | _, _, _, _, .cons h r, s => .cons h (RpL.append r s)
theorem RpL.take : ∀ {vs : List V} {xs : List PyData} (n : Nat), RpL K M H vs xs → RpL K M H (vs.take n) (xs.take n)
  | _, _, 0, _ => .nil
  | _, _, _ + 1, .nil => .nil
  | _, _, n + 1, .cons h r => .cons h (RpL.take n r)
theorem RpL.drop : ∀ {vs : List V} {xs : List PyData} (n : Nat), RpL K M H vs xs → RpL K M H (vs.drop n) (xs.drop n)
  | _, _, 0, r => r
  | _, _, _ + 1, .nil => .nil
  | _, _, n + 1, .cons _ r => RpL.drop n r
theorem RpL.set {v : V} {x : PyData} (h : Rp K M H v x) : ∀ {vs : List V} {xs : List PyData} (i : Nat), RpL K M H vs xs → RpL K M H (vs.set i v) (xs.set i x)
  | _, _, _, .nil => .nil
  | _, _, 0, .cons _ r => .cons h r
  | _, _, i + 1, .cons g r => .cons g (RpL.set h i r)
theorem RpL.eraseIdx : ∀ {vs : List V} {xs : List PyData} (i : Nat), RpL K M H vs xs → RpL K M H (vs.eraseIdx i) (xs.eraseIdx i)
  | _, _, _, .nil => .nil
  | _, _, 0, .cons _ r => r
  | _, _, i + 1, .cons g r => .cons g (RpL.eraseIdx i r)
theorem RpL.dropLast {vs : List V} {xs : List PyData} (h : RpL K M H vs xs) : RpL K M H vs.dropLast xs.dropLast := by
  rw [List.dropLast_eq_take, List.dropLast_eq_take, h.length]
  exact h.take _
theorem RpL.reverse {vs : List V} {xs : List PyData} (h : RpL K M H vs xs) : RpL K M H vs.reverse xs.reverse := by
  induction h using RpL.rec (motive_1 := fun _ _ _ => True) with
  | non => trivial
  | bl => trivial
  | int => trivial
  | str => trivial
  | lst => trivial
  | tup => trivial
  | nil => exact .nil
  | cons h r _ ih =>
    rw [List.reverse_cons, List.reverse_cons]
    exact ih.append (.cons h .nil)
theorem RpL.rep {vs : List V} {xs : List PyData} (h : RpL K M H vs xs) : ∀ k : Nat, RpL K M H (List.replicate k vs).flatten (List.replicate k xs).flatten
  | 0 => .nil
  | k + 1 => by
    rw [List.replicate_succ, List.replicate_succ, List.flatten_cons, List.flatten_cons]
    exact RpL.append h (RpL.rep h k)
theorem RpL.ints : ∀ {vs : List V} {ns : List Int}, RpL K M H vs (ns.map PyData.int) → vs = ns.map V.int
  | _, [], h => by cases h; rfl
  | _, n :: ns, h => by
    cases h with
    | cons a r => cases a; rw [RpL.ints r]; rfl
theorem RpL.of_ints : ∀ (ns : List Int), RpL K M H (ns.map V.int) (ns.map PyData.int)
  | [] => .nil
  | n :: ns => .cons (.int n) (RpL.of_ints ns)
theorem RpL.of_strs : ∀ (ns : List Str), RpL K M H (ns.map V.str) (ns.map PyData.str)
  | [] => .nil
  | n :: ns => .cons (.str n) (RpL.of_strs ns)
theorem RpL.bls : ∀ {vs : List V} {ns : List Bool}, RpL K M H vs (ns.map PyData.bool) → vs = ns.map V.bl
  | _, [], h => by cases h; rfl
  | _, n :: ns, h => by
    cases h with
    | cons a r => cases a; rw [RpL.bls r]; rfl
end

/-- what may change stands in the heap -/
def MOk (K : PySem.W.Frag) (W : Wd) (H : Hp) (a : Addr) : MO → Prop
  | .lst ds => ∃ vs, H a = some (.lst vs) ∧ RpL K W H vs ds
  | .ins C dx fs => H a = some (.ins C dx fs)
structure MR (K : PySem.W.Frag) (W : Wd) (H : Hp) : Prop where
  ok : ∀ a o, W.M a = some o → MOk K W H a o
  dj : ∀ a, W.F a → NotMut W.M a
  dom : ∀ a, W.F a → ∃ xs, H a = some (.lst xs)
def DV (K : PySem.W.Frag) (W : Wd) (H : Hp) (v : V) : D → Prop
  | .d x => Rp K W H v x
  | .ref a => v = .ref a
  | .ty n => v = .ty n
  | .scr ns => ∃ a, v = .ref a ∧ ((∃ o, H a = some (.frz o (.lst (ns.map V.int)))) ∨ SqL K Hp0 a (ns.map V.int))
inductive DVL (K : PySem.W.Frag) (W : Wd) (H : Hp) : List V → List D → Prop
  | nil : DVL K W H [] []
  | cons {v : V} {vs : List V} {x : D} {xs : List D} : DV K W H v x → DVL K W H vs xs → DVL K W H (v :: vs) (x :: xs)
section
variable {K : PySem.W.Frag} {W W' : Wd} {H H' : Hp}
theorem DV.tx {v : V} {x : D} (h : DV K W H v x) (t : TX W H W' H') : DV K W' H' v x := by
  cases x with
  | d x => exact Rp.tx t h
  | ref a => exact h
  | ty n => exact h
  | scr ns =>
    obtain ⟨a, e, (⟨o, h⟩ | h)⟩ := h
    · exact ⟨a, e, .inl ⟨o, t.frz _ _ _ h⟩⟩
    · exact ⟨a, e, .inr h⟩
theorem DVL.tx (t : TX W H W' H') : ∀ {vs : List V} {xs : List D}, DVL K W H vs xs → DVL K W' H' vs xs
  | _, _, .nil => .nil
  | _, _, .cons h r => .cons (h.tx t) (DVL.tx t r)
theorem DVL.length : ∀ {vs : List V} {xs : List D}, DVL K W H vs xs → vs.length = xs.length
  | _, _, .nil => rfl
  | _, _, .cons _ r => congrArg Nat.succ (DVL.length r)
theorem SqL.hp0 {a : Addr} {xs : List V} (h : SqL K Hp0 a xs) : SqL K H a xs := by
  rcases h with (h | ⟨o, h⟩) | h
  · cases h
  · cases h
  · exact .inr h
theorem DV.scrL {v : V} {ns : List Int} (h : DV K W H v (.scr ns)) : ∃ a, v = .ref a ∧ SqL K H a (ns.map V.int) := by
  obtain ⟨a, e, (⟨o, h⟩ | h)⟩ := h
  · exact ⟨a, e, .inl (.inr ⟨o, h⟩)⟩
  · exact ⟨a, e, SqL.hp0 h⟩
theorem MR.free {p : Addr} (m : MR K W H) (h : H p = none) : W.M p = none := by
  cases e : W.M p with
  | none => rfl
  | some o =>
    have q := m.ok p o e
    cases o with
    | lst ds =>
      obtain ⟨vs, q, _⟩ := q
      rw [h] at q; cases q
    | ins C dx fs =>
      have q : H p = some (.ins C dx fs) := q
      rw [h] at q; cases q
theorem MR.noF {p : Addr} (m : MR K W H) (h : H p = none) : ¬ W.F p := fun f => by
  obtain ⟨xs, e⟩ := m.dom p f
  rw [h] at e; cases e
theorem MR.noFm {p : Addr} {ds : List PyData} (m : MR K W H) (h : W.M p = some (.lst ds)) : ¬ W.F p := fun f => m.dj p f _ h
theorem MR.notMut {p : Addr} (m : MR K W H) (h : H p = none) : NotMut W.M p := fun ds e => by
  rw [m.free h] at e; cases e
theorem MR.lst {p : Addr} {ds : List PyData} (m : MR K W H) (h : W.M p = some (.lst ds)) : ∃ vs, H p = some (.lst vs) ∧ RpL K W H vs ds := m.ok p _ h
theorem MOk.keep {a : Addr} {u : MO} (h : MOk K W H a u) (t : TX W H W' H') (e : H' a = H a) : MOk K W' H' a u := by
  cases u with
  | lst ds =>
    obtain ⟨vs, q, r⟩ := h
    exact ⟨vs, e.trans q, r.tx t⟩
  | ins C dx fs => exact e.trans h
theorem MOk.some {a : Addr} {u : MO} (h : MOk K W H a u) : ∃ o, H a = Option.some o := by
  cases u with
  | lst ds => obtain ⟨vs, q, _⟩ := h; exact ⟨_, q⟩
  | ins C dx fs => exact ⟨_, h⟩
/-- a new object that is not told of -/
theorem MR.newT {p : Addr} {o : HO} (m : MR K W H) (hp : H p = none) : MR K W (upd H p o) := by
  refine ⟨fun a u e => ?_, m.dj, fun a f => ?_⟩
  · obtain ⟨z, hz⟩ := (m.ok a u e).some
    exact (m.ok a u e).keep (TX.newT hp) (upd_ne (ne_of_none hz hp))
  · obtain ⟨xs, h⟩ := m.dom a f
    exact ⟨xs, by rw [upd_ne (ne_of_none h hp)]; exact h⟩
/-- a new list that stays -/
theorem MR.new {p : Addr} {xs : List V} (m : MR K W H) (hp : H p = none) : MR K (W.fix p) (upd H p (.lst xs)) := by
  refine ⟨fun a u e => ?_, fun a f => ?_, fun a f => ?_⟩
  · obtain ⟨z, hz⟩ := (m.ok a u e).some
    exact (m.ok a u e).keep (TX.new hp) (upd_ne (ne_of_none hz hp))
  · rcases f with rfl | f
    · exact m.notMut hp
    · exact m.dj a f
  · rcases f with rfl | f
    · exact ⟨xs, upd_same⟩
    · obtain ⟨ys, h⟩ := m.dom a f
      exact ⟨ys, by rw [upd_ne (ne_of_none h hp)]; exact h⟩
theorem MR.newM {p : Addr} {vs : List V} {ds : List PyData} (m : MR K W H) (hp : H p = none) (r : RpL K W H vs ds) : MR K (W.put p (.lst ds)) (upd H p (.lst vs)) := by
  refine ⟨fun a u e => ?_, fun a f => ?_, fun a f => ?_⟩
  · by_cases h : a = p
    · subst h
      cases put_same.symm.trans e
      exact ⟨vs, upd_same, r.tx (TX.newM hp)⟩
    · have e' : W.M a = some u := (put_ne h).symm.trans e
      exact (m.ok a u e').keep (TX.newM hp) (upd_ne h)
  · have ne : a ≠ p := fun z => m.noF hp (by rw [← z]; exact f)
    exact fun ds e => m.dj a f ds ((put_ne ne).symm.trans e)
  · obtain ⟨ys, h⟩ := m.dom a f
    exact ⟨ys, by rw [upd_ne (ne_of_none h hp)]; exact h⟩
theorem MR.write {p : Addr} {vs ws : List V} {ds es : List PyData} (m : MR K W H) (hp : H p = some (.lst vs)) (hm : W.M p = some (.lst ds)) (r : RpL K W H ws es) : MR K (W.put p (.lst es)) (upd H p (.lst ws)) := by
  have t := TX.write (ws := ws) (es := es) hp hm (m.noFm hm)
  refine ⟨fun a u e => ?_, fun a f => ?_, fun a f => ?_⟩
  · by_cases h : a = p
    · subst h
      cases put_same.symm.trans e
      exact ⟨ws, upd_same, r.tx t⟩
    · have e' : W.M a = some u := (put_ne h).symm.trans e
      exact (m.ok a u e').keep t (upd_ne h)
  · have ne : a ≠ p := fun z => m.noFm hm (by rw [← z]; exact f)
    exact fun ds e => m.dj a f ds ((put_ne ne).symm.trans e)
  · have ne : a ≠ p := fun z => m.noFm hm (by rw [← z]; exact f)
    obtain ⟨ys, h⟩ := m.dom a f
    exact ⟨ys, by rw [upd_ne ne]; exact h⟩
/-- a list that may change is told to stay from now on, others are told of no more -/
theorem MR.less {M2 : DM} {F2 : Addr → Prop} (m : MR K W H) (s : Sub M2 W.M) (f1 : ∀ a, W.F a → F2 a) (f2 : ∀ a, F2 a → W.F a ∨ (NotMut M2 a ∧ ¬ NotMut W.M a ∧ ∃ xs, H a = some (.lst xs))) : MR K ⟨M2, F2⟩ H := by
  refine ⟨fun a u e => (m.ok a u (s a u e)).keep (TX.less s f1 fun a f n => (f2 a f).elim id fun z => absurd n z.2.1) rfl, fun a f => ?_, fun a f => ?_⟩
  · rcases f2 a f with h | h
    · exact (m.dj a h).sub s
    · exact h.1
  · rcases f2 a f with h | h
    · exact m.dom a h
    · exact h.2.2
end

/-- a fact of the memory that every way bears -/
structure Ph where
  p : Wd → Hp → Prop
  tx : ∀ W H W' H', p W H → TX W H W' H' → p W' H'
def Ph.any : Ph := ⟨fun _ _ => True, fun _ _ _ _ _ _ => trivial⟩
/-- all that is a way on from here -/
def Ph.from_ (W : Wd) (H : Hp) : Ph := ⟨fun W' H' => TX W H W' H', fun _ _ _ _ a b => a.trans b⟩
/-- the state: the frame's slots and what may change -/
structure SR (K : PySem.W.Frag) (Φ : Ph) (ρ : DSt) (W : Wd) (σ : St) (H : Hp) : Prop where
  len : σ.length = ρ.length
  slot : ∀ (i : Nat) (x : D), ρ[i]? = some (some x) → ∃ v, σ[i]? = some (some v) ∧ DV K W H v x
  mem : MR K W H
  fr : Φ.p W H
theorem SR.step {K : PySem.W.Frag} {Φ : Ph} {ρ : DSt} {W W' : Wd} {σ : St} {H H' : Hp} (s : SR K Φ ρ W σ H) (t : TX W H W' H') (m : MR K W' H') : SR K Φ ρ W' σ H' :=
  ⟨s.len, fun i x e => let ⟨v, e1, h⟩ := s.slot i x e; ⟨v, e1, h.tx t⟩, m, Φ.tx _ _ _ _ s.fr t⟩
theorem SR.set {K : PySem.W.Frag} {Φ : Ph} {ρ : DSt} {W : Wd} {σ : St} {H : Hp} (s : SR K Φ ρ W σ H) (i : Nat) {v : V} {x : D} (h : DV K W H v x) : SR K Φ (ρ.set i (some x)) W (σ.set i (some v)) H := by
  refine ⟨by simp [s.len], fun j y e => ?_, s.mem, s.fr⟩
  by_cases hj : i = j
  · subst hj
    by_cases hl : i < ρ.length
    · rw [List.getElem?_set_self hl] at e
      cases e
      exact ⟨v, List.getElem?_set_self (by rw [s.len]; exact hl), h⟩
    · rw [List.getElem?_eq_none (by simpa using hl)] at e; cases e
  · rw [List.getElem?_set_ne hj] at e ⊢
    exact s.slot j y e
theorem SR.unset {K : PySem.W.Frag} {Φ : Ph} {ρ : DSt} {W : Wd} {σ : St} {H : Hp} (s : SR K Φ ρ W σ H) (i : Nat) : SR K Φ (ρ.set i none) W (σ.set i none) H := by
  refine ⟨by simp [s.len], fun j y e => ?_, s.mem, s.fr⟩
  by_cases hj : i = j
  · subst hj
    by_cases hl : i < ρ.length
    · rw [List.getElem?_set_self hl] at e; cases e
    · rw [List.getElem?_eq_none (by simpa using hl)] at e; cases e
  · rw [List.getElem?_set_ne hj] at e ⊢
    exact s.slot j y e

/-! ### lifted readings -/
abbrev DQ := D → DM → Prop
abbrev DTE := DSt → DM → DQ → Prop
abbrev DTT := DSt → DM → (Bool → DM → Prop) → Prop
abbrev DTA := DSt → DM → (List D → DM → Prop) → Prop
def KE (K : PySem.W.Frag) (W : Wd) (H : Hp) (Q' : DQ) (Q : VK) : Prop := ∀ x W' v H', Q' x W'.M → DV K W' H' v x → MR K W' H' → TX W H W' H' → Q v H'
def KT (K : PySem.W.Frag) (W : Wd) (H : Hp) (Q' : Bool → DM → Prop) (Q : Bool → Hp → Prop) : Prop := ∀ b W' H', Q' b W'.M → MR K W' H' → TX W H W' H' → Q b H'
theorem KE.tx {K : PySem.W.Frag} {W W1 : Wd} {H H1 : Hp} {Q' : DQ} {Q : VK} (k : KE K W H Q' Q) (t : TX W H W1 H1) : KE K W1 H1 Q' Q := fun x W' v H' q d m t' => k x W' v H' q d m (t.trans t')
theorem KT.tx {K : PySem.W.Frag} {W W1 : Wd} {H H1 : Hp} {Q' : Bool → DM → Prop} {Q : Bool → Hp → Prop} (k : KT K W H Q' Q) (t : TX W H W1 H1) : KT K W1 H1 Q' Q := fun x W' H' q m t' => k x W' H' q m (t.trans t')
def LE (K : PySem.W.Frag) (Φ : Ph) (t : DTE) : TE := fun σ H Q => ∃ ρ W Q', SR K Φ ρ W σ H ∧ t ρ W.M Q' ∧ KE K W H Q' Q
def LT (K : PySem.W.Frag) (Φ : Ph) (t : DTT) : TT := fun σ H Q => ∃ ρ W Q', SR K Φ ρ W σ H ∧ t ρ W.M Q' ∧ KT K W H Q' Q
abbrev DE (Φ : Ph) (X : Cx) (e : Expr) (t : DTE) : Prop := PE X e (LE X.K Φ t)
abbrev DT (Φ : Ph) (X : Cx) (e : Expr) (t : DTT) : Prop := PT X e (LT X.K Φ t)
abbrev DW (Φ : Ph) (X : Cx) (e : Expr) (t : DTT) : Prop := PW X e (LT X.K Φ t)
section
variable {X : Cx} {e : Expr} {es : List Expr} {st : Stmt} {sts : List Stmt}
theorem pe_mono {t t' : TE} (h : PE X e t) (w : ∀ σ H Q, t' σ H Q → t σ H Q) : PE X e t' := ⟨fun pins s σ H Q I q => h.run pins s σ H Q I (w _ _ _ q)⟩
theorem pt_mono {t t' : TT} (h : PT X e t) (w : ∀ σ H Q, t' σ H Q → t σ H Q) : PT X e t' := ⟨fun pins s σ H Q I q => h.run pins s σ H Q I (w _ _ _ q)⟩
theorem pw_mono {t t' : TT} (h : PW X e t) (w : ∀ σ H Q, t' σ H Q → t σ H Q) : PW X e t' := ⟨fun wh pins s σ H Q I q => h.run wh pins s σ H Q I (w _ _ _ q)⟩
theorem pa_mono {t t' : TA} (h : PA X es t) (w : ∀ σ H Q, t' σ H Q → t σ H Q) : PA X es t' := ⟨fun pos pins s σ H Q I q => h.run pos pins s σ H Q I (w _ _ _ q)⟩
theorem ps_mono {t t' : TS} (h : PS X st t) (w : ∀ D σ H, t' D σ H → t D σ H) : PS X st t' := ⟨fun pins s σ H D I q => h.run pins s σ H D I (w _ _ _ q)⟩
theorem pss_mono {t t' : TS} (h : PSs X sts t) (w : ∀ D σ H, t' D σ H → t D σ H) : PSs X sts t' := ⟨fun pins s σ H D I q => h.run pins s σ H D I (w _ _ _ q)⟩
theorem pg_mono {t t' : TG} (h : PG X e t) (w : ∀ v σ H Q, t' v σ H Q → t v σ H Q) : PG X e t' := ⟨fun pins s σ H v u Q I r q => h.run pins s σ H v u Q I r (w _ _ _ _ q)⟩
theorem pi_mono {tg : Expr} {t t' : TI} (h : PI X tg e t) (w : ∀ σ H R, t' σ H R → t σ H R) : PI X tg e t' := ⟨fun pins s σ H R I q => h.run pins s σ H R I (w _ _ _ q)⟩
end
end BN

/-! D layer, part 2: expressions -/
namespace BN
open PySem PySem.Spec PyProof.Rows L2
def slot : DSt → Nat → Option D
  | [], _ => none
  | x :: _, 0 => x
  | _ :: r, i + 1 => slot r i
theorem slot_get : ∀ {ρ : DSt} {i : Nat} {x : D}, slot ρ i = some x → ρ[i]? = some (some x)
  | [], _, _, h => by cases h
  | y :: _, 0, x, h => by
    have h : y = some x := h
    subst h
    rfl
  | _ :: r, i + 1, x, h => by
    have h : slot r i = some x := h
    simpa using slot_get h
/-- what a value is when it is read -/
def Vw (M : DM) (x : D) (a : PyData) : Prop :=
  match x with
  | .d z => a = z
  | .ref l => ∃ ds, M l = some (.lst ds) ∧ a = .list ds
  | .scr ns => a = .list (ns.map PyData.int)
  | .ty _ => False
section
variable {K : PySem.W.Frag} {M : Wd} {H : Hp}
theorem Vw.dp {v : V} {x : D} {a : PyData} (m : MR K M H) (h : DV K M H v x) (w : Vw M.M x a) : Dp K H v a := by
  cases x with
  | d z => cases (show a = z from w); exact Rp.dp h
  | ref l =>
    obtain ⟨ds, e, rfl⟩ := w
    cases (show v = .ref l from h)
    obtain ⟨vs, q, r⟩ := m.lst e
    exact .lst (SqL.of q) r.dp
  | scr ns =>
    cases (show a = .list (ns.map PyData.int) from w)
    obtain ⟨p, rfl, q⟩ := DV.scrL h
    exact .lst q (RpL.dp (M := M) (H := H) (RpL.of_ints ns))
  | ty n => exact False.elim w
theorem Vw.list {v : V} {x : D} {ds : List PyData} (m : MR K M H) (h : DV K M H v x) (w : Vw M.M x (.list ds)) : ∃ p vs, v = .ref p ∧ SqL K H p vs ∧ RpL K M H vs ds := by
  cases x with
  | d z =>
    cases (show PyData.list ds = z from w)
    cases (show Rp K M H v (.list ds) from h) with
    | lst q r => exact ⟨_, _, rfl, SqL.of q.1, r⟩
  | ref l =>
    obtain ⟨es, e, e2⟩ := w
    cases e2
    cases (show v = .ref l from h)
    obtain ⟨vs, q, r⟩ := m.lst e
    exact ⟨_, _, rfl, SqL.of q, r⟩
  | scr ns =>
    cases (show PyData.list ds = .list (ns.map PyData.int) from w)
    obtain ⟨p, rfl, q⟩ := DV.scrL h
    exact ⟨_, _, rfl, q, RpL.of_ints ns⟩
  | ty n => exact False.elim w
/-- .. tracked: not the script -/
theorem Vw.listT {v : V} {x : D} {ds : List PyData} (m : MR K M H) (h : DV K M H v x) (w : Vw M.M x (.list ds)) (ns : ∀ l, x ≠ .scr l) : ∃ p vs, v = .ref p ∧ H p = some (.lst vs) ∧ RpL K M H vs ds := by
  cases x with
  | d z =>
    cases (show PyData.list ds = z from w)
    cases (show Rp K M H v (.list ds) from h) with
    | lst q r => exact ⟨_, _, rfl, q.1, r⟩
  | ref l =>
    obtain ⟨es, e, e2⟩ := w
    cases e2
    cases (show v = .ref l from h)
    obtain ⟨vs, q, r⟩ := m.lst e
    exact ⟨_, _, rfl, q, r⟩
  | scr l => exact absurd rfl (ns l)
  | ty n => exact False.elim w
theorem Rp.tupI {v : V} {ds : List PyData} (h : Rp K M H v (.tuple ds)) : ∃ p vs, v = .ref p ∧ SqT K H p vs ∧ RpL K M H vs ds := by
  cases h with
  | tup q r => exact ⟨_, _, rfl, q, r⟩
theorem Vw.tup {v : V} {x : D} {ds : List PyData} (h : DV K M H v x) (w : Vw M.M x (.tuple ds)) : ∃ p vs, v = .ref p ∧ SqT K H p vs ∧ RpL K M H vs ds := by
  cases x with
  | d z => cases (show PyData.tuple ds = z from w); exact Rp.tupI h
  | ref l => obtain ⟨_, _, e⟩ := w; cases e
  | scr ns => cases (show PyData.tuple ds = .list (ns.map PyData.int) from w)
  | ty n => exact False.elim w
theorem Rp.intI {v : V} {i : Int} (h : Rp K M H v (.int i)) : v = .int i := by cases h; rfl
theorem Rp.blI {v : V} {i : Bool} (h : Rp K M H v (.bool i)) : v = .bl i := by cases h; rfl
theorem Rp.strI {v : V} {i : Str} (h : Rp K M H v (.str i)) : v = .str i := by cases h; rfl
theorem Rp.nonI {v : V} (h : Rp K M H v .none) : v = .non := by cases h; rfl
end

/-! ### names and constants -/
section
variable {Φ : Ph} {X : Cx} {pos : Pos}
def tVarD (i : Nat) : DTE := fun ρ M Q => match slot ρ i with
  | some x => Q x M
  | none => False
def tCD (x : D) : DTE := fun _ M Q => Q x M
theorem dvar_ok {Φ : Ph} {K : PySem.W.Frag} {i : Nat} : ∀ σ H Q, LE K Φ (tVarD i) σ H Q → tVar i σ H Q := by
  intro σ H Q ⟨ρ, M, Q', S, h, k⟩
  unfold tVarD at h
  split at h
  · rename_i x e
    obtain ⟨v, e1, d⟩ := S.slot i x (slot_get e)
    exact ⟨v, e1, k _ _ _ _ h d S.mem TX.rfl'⟩
  · exact h.elim
theorem dv (i : Nat) {x : Str} {pos : Pos} (hN : X.N[i]? = some x := by rfl) (hv : Vis X.env.scope x := by first | exact Or.inl rfl | exact Or.inr (Or.inl rfl) | exact Or.inr (Or.inr rfl))
    (hd : (x == ("__debug__" : Str)) = false := by decide) (hcd : (x == ("__classdict__" : Str)) = false := by decide) : DE Φ X (.Name x pos) (tVarD i) :=
  pe_mono (pv i hN hv hd hcd) dvar_ok
theorem const_ok {Φ : Ph} {K : PySem.W.Frag} {v : V} {x : D} (h : ∀ W H, DV K W H v x) : ∀ σ H Q, LE K Φ (tCD x) σ H Q → tC v σ H Q :=
  fun σ H Q ⟨ρ, M, Q', S, q, k⟩ => k _ _ _ _ q (h M H) S.mem TX.rfl'
theorem dint {i j} : DE Φ X (.Constant (.int i) j pos) (tCD (.d (.int i))) := pe_mono pe_int (const_ok fun _ _ => Rp.int i)
theorem dbl {b j} : DE Φ X (.Constant (.bool b) j pos) (tCD (.d (.bool b))) := pe_mono pe_bl (const_ok fun _ _ => Rp.bl b)
theorem dnon {j} : DE Φ X (.Constant .none j pos) (tCD (.d .none)) := pe_mono pe_non (const_ok fun _ _ => Rp.non)
theorem dstr {x j} : DE Φ X (.Constant (.str x) j pos) (tCD (.d (.str x))) := pe_mono pe_str (const_ok fun _ _ => Rp.str x)
/-- a module's constant -/
def Gd (K : PySem.W.Frag) (mg : Str → Option Value) (x : Str) (y : D) : Prop := ∃ u v, mg x = some u ∧ RelV v u ∧ ∀ M H, DV K M H v y
theorem dglob {x : Str} {y : D} (h : Gd X.K X.mg x y) (hg : Gl X x := by rfl) (hd : (x == ("__debug__" : Str)) = false := by decide) : DE Φ X (.Name x pos) (tCD y) := by
  obtain ⟨u, v, e, r, d⟩ := h
  exact pe_mono (pe_glob hg e r hd) (const_ok d)
theorem dbltn {x : Str} {n : String} (hm : X.mg x = none) (hv : bootBuiltins x = some (.type n)) (hg : Gl X x := by rfl) (hn : x ≠ "__name__" := by decide) (hd : (x == ("__debug__" : Str)) = false := by decide) : DE Φ X (.Name x pos) (tCD (.ty n)) :=
  pe_mono (pe_bltn hg hm hv (v := .ty n) rfl hn hd) (const_ok fun _ _ => rfl)
end

/-! ### argument lists, displays -/
/-- the readings of several expressions, from the left -/
def VA (K : PySem.W.Frag) (Φ : Ph) : List DTE → TA
  | [] => tNil
  | t :: r => tCons (LE K Φ t) (VA K Φ r)
def aL : List DTE → DTA
  | [] => fun _ M Q => Q [] M
  | t :: r => fun ρ M Q => t ρ M fun x M1 => aL r ρ M1 fun xs M2 => Q (x :: xs) M2
abbrev DA (Φ : Ph) (X : Cx) (es : List Expr) (ts : List DTE) : Prop := PA X es (VA X.K Φ ts)
theorem va_of {Φ : Ph} {K : PySem.W.Frag} : ∀ (ts : List DTE) {ρ : DSt} {M : Wd} {σ : St} {H : Hp} {Q' : List D → DM → Prop} {Q : List V → Hp → Prop}, SR K Φ ρ M σ H → aL ts ρ M.M Q' →
    (∀ xs M' vs H', Q' xs M'.M → DVL K M' H' vs xs → MR K M' H' → TX M H M' H' → vs.length = ts.length → Q vs H') → VA K Φ ts σ H Q
  | [], ρ, M, σ, H, Q', Q, S, h, k => k _ _ _ _ h .nil S.mem TX.rfl' rfl
  | t :: r, ρ, M, σ, H, Q', Q, S, h, k => by
    refine ⟨ρ, M, _, S, h, fun x M1 v H1 q dv m tx => ?_⟩
    refine va_of r (S.step tx m) q fun xs M2 vs H2 q2 dvs m2 tx2 l => ?_
    exact k _ _ _ _ q2 (.cons (dv.tx tx2) dvs) m2 (tx.trans tx2) (by simp [l])
section
variable {Φ : Ph} {X : Cx} {pos : Pos} {e : Expr} {es : List Expr} {t : DTE} {ts : List DTE}
theorem da_nil : DA Φ X [] [] := pa_nil
theorem da_cons (ha : DE Φ X e t) (hr : DA Φ X es ts) (hs : starEach (e :: es) X.env = (false, eval e X.env) :: starEach es X.env := by rfl) : DA Φ X (e :: es) (t :: ts) := pa_cons ha hr hs
end
/-- all plain data -/
def unD : List D → Option (List PyData)
  | [] => some []
  | .d x :: r => (unD r).map fun xs => x :: xs
  | _ :: _ => none
theorem unD_rp {K : PySem.W.Frag} {M : Wd} {H : Hp} : ∀ {vs : List V} {xs : List D} {ys : List PyData}, DVL K M H vs xs → unD xs = some ys → RpL K M H vs ys
  | _, _, _, .nil, e => by cases e; exact .nil
  | _, _, _, .cons (x := .d x) h r, e => by
    unfold unD at e
    obtain ⟨zs, e1, rfl⟩ := Option.map_eq_some_iff.mp e
    exact .cons h (unD_rp r e1)
  | _, _, _, .cons (x := .ref _) h r, e => by cases e
  | _, _, _, .cons (x := .ty _) h r, e => by cases e
  | _, _, _, .cons (x := .scr _) h r, e => by cases e
theorem small_of {n : Nat} (h : Nat.ble n 1000 = true) : n ≤ sizeLine := by
  have h1 := Nat.le_of_ble_eq_true h
  rw [sizeLine_eq]
  omega
def dTup (ts : List DTE) : DTE := fun ρ M Q => aL ts ρ M fun ds M1 => match unD ds with
  | some xs => Q (.d (.tuple xs)) M1
  | none => False
def dLst (ts : List DTE) : DTE := fun ρ M Q => aL ts ρ M fun ds M1 => match unD ds with
  | some xs => Q (.d (.list xs)) M1
  | none => False
/-- a list that is to change -/
def dLstM (ts : List DTE) : DTE := fun ρ M Q => aL ts ρ M fun ds M1 => match unD ds with
  | some xs => ∀ p, M1 p = none → Q (.ref p) (put M1 p (.lst xs))
  | none => False
section
variable {Φ : Ph} {X : Cx} {pos : Pos} {e : Expr} {es : List Expr} {ts : List DTE}
theorem dtup {x1} (h : DA Φ X es ts) (hz : Nat.ble ts.length 1000 = true := by rfl) : DE Φ X (.Tuple es x1 pos) (dTup ts) := by
  refine pe_mono (pe_tup h) fun σ H Q ⟨ρ, M, Q', S, h, k⟩ => ?_
  refine va_of ts S h fun xs M' vs H' q dvs m tx l => ⟨by rw [l]; exact small_of hz, fun p hp => ?_⟩
  split at q
  · rename_i ys e
    exact k _ M' _ _ q (.tup (SqT.of upd_same) ((unD_rp dvs e).tx (TX.newT hp))) (m.newT hp) (tx.trans (TX.newT hp))
  · exact q.elim
theorem dlst (h : DA Φ X es ts) (hz : Nat.ble ts.length 1000 = true := by rfl) : DE Φ X (.List es pos) (dLst ts) := by
  refine pe_mono (pe_lst h) fun σ H Q ⟨ρ, M, Q', S, h, k⟩ => ?_
  refine va_of ts S h fun xs M' vs H' q dvs m tx l => ⟨by rw [l]; exact small_of hz, fun p hp => ?_⟩
  split at q
  · rename_i ys e
    exact k _ (M'.fix p) _ _ q (.lst ⟨upd_same, .inl rfl⟩ ((unD_rp dvs e).tx (TX.new hp))) (m.new hp) (tx.trans (TX.new hp))
  · exact q.elim
theorem dlstM (h : DA Φ X es ts) (hz : Nat.ble ts.length 1000 = true := by rfl) : DE Φ X (.List es pos) (dLstM ts) := by
  refine pe_mono (pe_lst h) fun σ H Q ⟨ρ, M, Q', S, h, k⟩ => ?_
  refine va_of ts S h fun xs M' vs H' q dvs m tx l => ⟨by rw [l]; exact small_of hz, fun p hp => ?_⟩
  split at q
  · rename_i ys e
    exact k _ (M'.put p (.lst ys)) _ _ (q p (m.free hp)) rfl (m.newM hp (unD_rp dvs e)) (tx.trans (TX.newM hp))
  · exact q.elim
end

/-! ### operators -/
abbrev DR1 := D → DM → DQ → Prop
abbrev DR2 := D → D → DM → DQ → Prop
def dOp (r : DR2) (ta tb : DTE) : DTE := fun ρ M Q => ta ρ M fun x M1 => tb ρ M1 fun y M2 => r x y M2 Q
def Sim2 (K : PySem.W.Frag) (rd : DR2) (r : R2) : Prop :=
  ∀ (M : Wd) (H : Hp) (v u : V) (x y : D) (Q' : DQ) (Q : VK), MR K M H → DV K M H v x → DV K M H u y → rd x y M.M Q' → KE K M H Q' Q → r v u H Q
theorem dop_ok {Φ : Ph} {K : PySem.W.Frag} {rd : DR2} {r : R2} {ta tb : DTE} (sm : Sim2 K rd r) : ∀ σ H Q, LE K Φ (dOp rd ta tb) σ H Q → tOp r (LE K Φ ta) (LE K Φ tb) σ H Q := by
  intro σ H Q ⟨ρ, M, Q', S, h, k⟩
  refine ⟨ρ, M, _, S, h, fun x M1 v H1 q dv m tx => ⟨ρ, M1, _, S.step tx m, q, fun y M2 u H2 q2 du m2 tx2 => ?_⟩⟩
  exact sm _ _ _ _ _ _ _ _ m2 (dv.tx tx2) du q2 (k.tx (tx.trans tx2))
section
variable {Φ : Ph} {X : Cx} {pos : Pos} {a b : Expr} {ta tb : DTE}
theorem dop {op : Operator} {rd : DR2} {r : R2} (ho : OpR X (binaryOp op) r) (sm : Sim2 X.K rd r) (ha : DE Φ X a ta) (hb : DE Φ X b tb) : DE Φ X (.BinOp a op b pos) (dOp rd ta tb) :=
  pe_mono (pe_op ho ha hb) (dop_ok sm)
theorem dcmp {op : CmpOp} {rd : DR2} {r : R2} (ho : OpR X (compareOp op) r) (sm : Sim2 X.K rd r) (ha : DE Φ X a ta) (hb : DE Φ X b tb) (hm : behindInMarks op b = false) : DE Φ X (.Compare a [op] [b] pos) (dOp rd ta tb) :=
  pe_mono (pe_cmpR ho ha hb hm) (dop_ok sm)
end
/-- +: ints, tuples, lists -/
def rdAdd : DR2 := fun x y M Q => match x, y with
  | .d (.int i), .d (.int j) => Q (.d (.int (i + j))) M
  | .d (.tuple xs), .d (.tuple ys) => xs.length + ys.length ≤ 1000 ∧ Q (.d (.tuple (xs ++ ys))) M
  | .d (.list xs), .d (.list ys) => xs.length + ys.length ≤ 1000 ∧ Q (.d (.list (xs ++ ys))) M
  | _, _ => False
theorem small1k {n : Nat} (h : n ≤ 1000) : n ≤ sizeLine := by rw [sizeLine_eq]; omega
theorem op_addA {X : Cx} : OpR X (binaryOp .Add) (fun x y H Q => rI0 (fun i j => .int (i + j)) x y H Q ∨ (rCatA X.K x y H Q ∨ rCat x y H Q)) := OpR.or op_add (OpR.or op_catA op_cat)
theorem sim_add {K : PySem.W.Frag} : Sim2 K rdAdd (fun x y H Q => rI0 (fun i j => .int (i + j)) x y H Q ∨ (rCatA K x y H Q ∨ rCat x y H Q)) := by
  intro M H v u x y Q' Q m hv hu h k
  unfold rdAdd at h
  split at h
  · rename_i i j
    cases Rp.intI hv
    cases Rp.intI hu
    exact .inl ⟨i, j, rfl, rfl, k _ _ _ _ h (Rp.int _) m TX.rfl'⟩
  · rename_i xs ys
    obtain ⟨p, vs, rfl, q1, r1⟩ := Rp.tupI hv
    obtain ⟨p2, us, rfl, q2, r2⟩ := Rp.tupI hu
    have l1 := r1.length
    have l2 := r2.length
    refine .inr (.inl ⟨p, p2, vs, us, rfl, rfl, q1, q2, small1k (by omega), fun e => ?_, fun _ e => ?_, fun _ _ q hq => ?_⟩)
    · subst e
      cases r1
      exact k _ _ _ _ h.2 (Rp.tup q2 r2) m TX.rfl'
    · subst e
      cases r2
      rw [List.append_nil] at h
      exact k _ _ _ _ h.2 (Rp.tup q1 r1) m TX.rfl'
    · exact k _ M _ _ h.2 (Rp.tup (SqT.of upd_same) ((r1.append r2).tx (TX.newT hq))) (m.newT hq) (TX.newT hq)
  · rename_i xs ys
    cases (show Rp K M H v (.list xs) from hv) with
    | lst q1 r1 =>
      cases (show Rp K M H u (.list ys) from hu) with
      | lst q2 r2 =>
        have l1 := r1.length
        have l2 := r2.length
        refine .inr (.inr ⟨_, _, _, _, rfl, rfl, q1.1, q2.1, small1k (by omega), fun q hq => ?_⟩)
        exact k _ (M.fix q) _ _ h.2 (Rp.lst ⟨upd_same, .inl rfl⟩ ((r1.append r2).tx (TX.new hq))) (m.new hq) (TX.new hq)
  · exact h.elim
/-- ints in, an int out, under a condition -/
def rdI (C : Int → Int → Prop) (g : Int → Int → PyData) : DR2 := fun x y M Q => match x, y with
  | .d (.int i), .d (.int j) => C i j ∧ Q (.d (g i j)) M
  | _, _ => False
def rdI0 (g : Int → Int → PyData) : DR2 := fun x y M Q => match x, y with
  | .d (.int i), .d (.int j) => Q (.d (g i j)) M
  | _, _ => False
theorem sim_I {K : PySem.W.Frag} {C : Int → Int → Prop} {g : Int → Int → Int} : Sim2 K (rdI C fun i j => .int (g i j)) (rI C fun i j => .int (g i j)) := by
  intro M H v u x y Q' Q m hv hu h k
  unfold rdI at h
  split at h
  · rename_i i j
    cases Rp.intI hv
    cases Rp.intI hu
    exact ⟨i, j, rfl, rfl, h.1, k _ _ _ _ h.2 (Rp.int _) m TX.rfl'⟩
  · exact h.elim
theorem sim_I0 {K : PySem.W.Frag} {g : Int → Int → Int} : Sim2 K (rdI0 fun i j => .int (g i j)) (rI0 fun i j => .int (g i j)) := by
  intro M H v u x y Q' Q m hv hu h k
  unfold rdI0 at h
  split at h
  · rename_i i j
    cases Rp.intI hv
    cases Rp.intI hu
    exact ⟨i, j, rfl, rfl, k _ _ _ _ h (Rp.int _) m TX.rfl'⟩
  · exact h.elim
theorem sim_B0 {K : PySem.W.Frag} {g : Int → Int → Bool} : Sim2 K (rdI0 fun i j => .bool (g i j)) (rI0 fun i j => .bl (g i j)) := by
  intro M H v u x y Q' Q m hv hu h k
  unfold rdI0 at h
  split at h
  · rename_i i j
    cases Rp.intI hv
    cases Rp.intI hu
    exact ⟨i, j, rfl, rfl, k _ _ _ _ h (Rp.bl _) m TX.rfl'⟩
  · exact h.elim
/-- *: ints (together below a million bits), a tuple so many times -/
def rdMul : DR2 := fun x y M Q => match x, y with
  | .d (.int i), .d (.int j) => CMulW i j ∧ Q (.d (.int (i * j))) M
  | .d (.tuple xs), .d (.int k) => (xs ≠ [] ∧ 2 ≤ k ∧ k ≤ 1000 ∧ xs.length ≤ 1000) ∧ Q (.d (.tuple (List.replicate k.toNat xs).flatten)) M
  | _, _ => False
theorem op_mulA {X : Cx} : OpR X (binaryOp .Mult) (fun x y H Q => rI CMulW (fun i j => .int (i * j)) x y H Q ∨ rRepT X.K x y H Q) := OpR.or op_mulW op_repT
theorem sim_mul {K : PySem.W.Frag} : Sim2 K rdMul (fun x y H Q => rI CMulW (fun i j => .int (i * j)) x y H Q ∨ rRepT K x y H Q) := by
  intro M H v u x y Q' Q m hv hu h k
  unfold rdMul at h
  split at h
  · rename_i i j
    cases Rp.intI hv
    cases Rp.intI hu
    exact .inl ⟨i, j, rfl, rfl, h.1, k _ _ _ _ h.2 (Rp.int _) m TX.rfl'⟩
  · rename_i xs n
    obtain ⟨p, vs, rfl, q1, r1⟩ := Rp.tupI hv
    cases Rp.intI hu
    have l1 := r1.length
    refine .inr ⟨p, n, vs, rfl, rfl, q1, fun e => ?_, h.1.2.1, h.1.2.2.1, by omega, fun q hq => ?_⟩
    · subst e
      cases r1
      exact h.1.1 rfl
    · exact k _ M _ _ h.2 (Rp.tup (SqT.of upd_same) ((r1.rep n.toNat).tx (TX.newT hq))) (m.newT hq) (TX.newT hq)
  · exact h.elim
/-- ==, != of data -/
def rdEq : DR2 := fun x y M Q => ∃ a b, Vw M x a ∧ Vw M y b ∧ (SeqAt.shaped a = true ∧ SeqAt.shaped b = true) ∧ Q (.d (.bool (PyData.eqv a b))) M
def rdNe : DR2 := fun x y M Q => ∃ a b, Vw M x a ∧ Vw M y b ∧ (SeqAt.shaped a = true ∧ SeqAt.shaped b = true) ∧ Q (.d (.bool (!PyData.eqv a b))) M
theorem sim_eq {K : PySem.W.Frag} : Sim2 K rdEq (rEqD K) := fun M H v u x y Q' Q m hv hu ⟨a, b, wa, wb, s, h⟩ k =>
  ⟨a, b, wa.dp m hv, wb.dp m hu, s.1, s.2, k _ _ _ _ h (Rp.bl _) m TX.rfl'⟩
theorem sim_ne {K : PySem.W.Frag} : Sim2 K rdNe (rNeD K) := fun M H v u x y Q' Q m hv hu ⟨a, b, wa, wb, s, h⟩ k =>
  ⟨a, b, wa.dp m hv, wb.dp m hu, s.1, s.2, k _ _ _ _ h (Rp.bl _) m TX.rfl'⟩
/-- is None, is not None -/
def isNon : D → Bool
  | .d .none => true
  | _ => false
def rdIsN : DR2 := fun x y M Q => match y with
  | .d .none => Q (.d (.bool (isNon x))) M
  | _ => False
def rdNotN : DR2 := fun x y M Q => match y with
  | .d .none => Q (.d (.bool (!isNon x))) M
  | _ => False
theorem isNon_eq {K : PySem.W.Frag} {M : Wd} {H : Hp} {v : V} {x : D} (h : DV K M H v x) : decide (v = .non) = isNon x := by
  cases x with
  | d z =>
    cases (show Rp K M H v z from h) <;> first | rfl | (simp [isNon])
  | ref a => cases (show v = .ref a from h); simp [isNon]
  | ty n => cases (show v = .ty n from h); simp [isNon]
  | scr ns => obtain ⟨a, rfl, _⟩ := h; simp [isNon]
theorem sim_isN {K : PySem.W.Frag} : Sim2 K rdIsN (fun x y H Q => y = .non ∧ Q (.bl (decide (x = .non))) H) := by
  intro M H v u x y Q' Q m hv hu h k
  unfold rdIsN at h
  split at h
  · cases Rp.nonI hu
    refine ⟨rfl, ?_⟩
    rw [isNon_eq hv]
    exact k _ _ _ _ h (Rp.bl _) m TX.rfl'
  · exact h.elim
theorem sim_notN {K : PySem.W.Frag} : Sim2 K rdNotN (fun x y H Q => y = .non ∧ Q (.bl (!decide (x = .non))) H) := by
  intro M H v u x y Q' Q m hv hu h k
  unfold rdNotN at h
  split at h
  · cases Rp.nonI hu
    refine ⟨rfl, ?_⟩
    rw [isNon_eq hv]
    exact k _ _ _ _ h (Rp.bl _) m TX.rfl'
  · exact h.elim
/-- is not True -/
def rdNotB : DR2 := fun x y M Q => match x, y with
  | .d (.bool a), .d (.bool b) => Q (.d (.bool (!decide (a = b)))) M
  | _, _ => False
theorem sim_notB {K : PySem.W.Frag} : Sim2 K rdNotB rNotB := by
  intro M H v u x y Q' Q m hv hu h k
  unfold rdNotB at h
  split at h
  · cases Rp.blI hv
    cases Rp.blI hu
    exact ⟨_, _, rfl, rfl, k _ _ _ _ h (Rp.bl _) m TX.rfl'⟩
  · exact h.elim
section
variable {Φ : Ph} {X : Cx} {pos : Pos} {a b c : Expr} {ta tb tc : DTE}
abbrev dAdd := dOp rdAdd
abbrev dMul := dOp rdMul
abbrev dSub := dOp (rdI0 fun i j => .int (i - j))
abbrev dMod := dOp (rdI (fun _ j => 0 < j) fun i j => .int (i % j))
abbrev dFdiv := dOp (rdI CDivW fun i j => .int (i / j))
abbrev dFdivN := dOp (rdI CDivN fun i j => .int (i.fdiv j))
abbrev dPow := dOp (rdI CPow fun i j => .int (i ^ j.toNat))
abbrev dLt := dOp (rdI0 fun i j => .bool (decide (i < j)))
abbrev dLe := dOp (rdI0 fun i j => .bool (decide (i ≤ j)))
abbrev dGt := dOp (rdI0 fun i j => .bool (decide (j < i)))
abbrev dGe := dOp (rdI0 fun i j => .bool (decide (j ≤ i)))
abbrev dEq := dOp rdEq
abbrev dNe := dOp rdNe
theorem dadd (ha : DE Φ X a ta) (hb : DE Φ X b tb) : DE Φ X (.BinOp a .Add b pos) (dAdd ta tb) := dop op_addA sim_add ha hb
theorem dsub (ha : DE Φ X a ta) (hb : DE Φ X b tb) : DE Φ X (.BinOp a .Sub b pos) (dSub ta tb) := dop op_sub sim_I0 ha hb
theorem dmul (ha : DE Φ X a ta) (hb : DE Φ X b tb) : DE Φ X (.BinOp a .Mult b pos) (dMul ta tb) := dop op_mulA sim_mul ha hb
theorem dmod (ha : DE Φ X a ta) (hb : DE Φ X b tb) : DE Φ X (.BinOp a .Mod b pos) (dMod ta tb) := dop op_mod sim_I ha hb
theorem dfdiv (ha : DE Φ X a ta) (hb : DE Φ X b tb) : DE Φ X (.BinOp a .FloorDiv b pos) (dFdiv ta tb) := dop op_fdivW sim_I ha hb
theorem dpow (ha : DE Φ X a ta) (hb : DE Φ X b tb) : DE Φ X (.BinOp a .Pow b pos) (dPow ta tb) := dop op_pow sim_I ha hb
theorem dlt (ha : DE Φ X a ta) (hb : DE Φ X b tb) : DE Φ X (.Compare a [.Lt] [b] pos) (dLt ta tb) := dcmp op_lt sim_B0 ha hb (nomark _)
theorem dle (ha : DE Φ X a ta) (hb : DE Φ X b tb) : DE Φ X (.Compare a [.LtE] [b] pos) (dLe ta tb) := dcmp op_le sim_B0 ha hb (nomark _)
theorem dgt (ha : DE Φ X a ta) (hb : DE Φ X b tb) : DE Φ X (.Compare a [.Gt] [b] pos) (dGt ta tb) := dcmp op_gt sim_B0 ha hb (nomark _)
theorem dge (ha : DE Φ X a ta) (hb : DE Φ X b tb) : DE Φ X (.Compare a [.GtE] [b] pos) (dGe ta tb) := dcmp op_ge sim_B0 ha hb (nomark _)
theorem deq (hu : X.A.units + 64 < cLine) (ha : DE Φ X a ta) (hb : DE Φ X b tb) : DE Φ X (.Compare a [.Eq] [b] pos) (dEq ta tb) := dcmp (op_eqD hu) sim_eq ha hb (nomark _)
theorem dne (hu : X.A.units + 64 < cLine) (ha : DE Φ X a ta) (hb : DE Φ X b tb) : DE Φ X (.Compare a [.NotEq] [b] pos) (dNe ta tb) := dcmp (op_neD hu) sim_ne ha hb (nomark _)
theorem disN (ha : DE Φ X a ta) (hb : DE Φ X b tb) : DE Φ X (.Compare a [.Is] [b] pos) (dOp rdIsN ta tb) := dcmp op_isN sim_isN ha hb (nomark _)
theorem dnotN (ha : DE Φ X a ta) (hb : DE Φ X b tb) : DE Φ X (.Compare a [.IsNot] [b] pos) (dOp rdNotN ta tb) := dcmp op_notN sim_notN ha hb (nomark _)
theorem dnotB (ha : DE Φ X a ta) (hb : DE Φ X b tb) : DE Φ X (.Compare a [.IsNot] [b] pos) (dOp rdNotB ta tb) := dcmp op_notBl sim_notB ha hb (nomark _)
/-- a < b < c and its like -/
def dChn (r r' : DR2) (ta tb tc : DTE) : DTE := fun ρ M Q => ta ρ M fun x M1 => tb ρ M1 fun y M2 => r x y M2 fun z M3 => match z with
  | .d (.bool k) => (k = true → tc ρ M3 fun w M4 => r' y w M4 Q) ∧ (k = false → Q (.d (.bool false)) M3)
  | _ => False
theorem dchain {op op' : CmpOp} {rd rd' : DR2} {r r' : R2} (ho : OpR X (compareOp op) r) (ho' : OpR X (compareOp op') r') (sm : Sim2 X.K rd r) (sm' : Sim2 X.K rd' r') (ha : DE Φ X a ta) (hb : DE Φ X b tb) (hc : DE Φ X c tc)
    (hm : lastMarks [op, op'] [b, c] = false := by with_unfolding_all rfl) : DE Φ X (.Compare a [op, op'] [b, c] pos) (dChn rd rd' ta tb tc) := by
  refine pe_mono (pe_chain ho ho' ha hb hc hm) fun σ H Q ⟨ρ, M, Q', S, h, k⟩ => ?_
  refine ⟨ρ, M, _, S, h, fun x M1 v H1 q dv m tx => ⟨ρ, M1, _, S.step tx m, q, fun y M2 u H2 q2 du m2 tx2 => ?_⟩⟩
  refine sm _ _ _ _ _ _ _ _ m2 (dv.tx tx2) du q2 fun z M3 w H3 q3 dz m3 tx3 => ?_
  split at q3
  · rename_i kk
    cases Rp.blI dz
    refine ⟨kk, rfl, ?_⟩
    cases kk with
    | true =>
      rw [if_pos rfl]
      refine ⟨ρ, M3, _, S.step (tx.trans (tx2.trans tx3)) m3, q3.1 rfl, fun w' M4 v4 H4 q4 d4 m4 tx4 => ?_⟩
      exact sm' _ _ _ _ _ _ _ _ m4 (du.tx (tx3.trans tx4)) d4 q4 (k.tx (tx.trans (tx2.trans (tx3.trans tx4))))
    | false =>
      rw [if_neg Bool.false_ne_true]
      exact k _ _ _ _ (q3.2 rfl) (Rp.bl _) m3 (tx.trans (tx2.trans tx3))
  · exact q3.elim
abbrev rdLe : DR2 := rdI0 fun i j => .bool (decide (i ≤ j))
theorem dchle (ha : DE Φ X a ta) (hb : DE Φ X b tb) (hc : DE Φ X c tc) (hm : lastMarks [.LtE, .LtE] [b, c] = false := by with_unfolding_all rfl) : DE Φ X (.Compare a [.LtE, .LtE] [b, c] pos) (dChn rdLe rdLe ta tb tc) := dchain op_le op_le sim_B0 sim_B0 ha hb hc hm

/-! ### one place -/
def dUn (r : DR1) (ta : DTE) : DTE := fun ρ M Q => ta ρ M fun x M1 => r x M1 Q
def rdNeg : DR1 := fun x M Q => match x with
  | .d (.int i) => Q (.d (.int (-i))) M
  | _ => False
theorem dneg (ha : DE Φ X a ta) : DE Φ X (.UnaryOp .USub a pos) (dUn rdNeg ta) := by
  refine pe_mono (pe_un un_neg ha) fun σ H Q ⟨ρ, M, Q', S, h, k⟩ => ⟨ρ, M, _, S, h, fun x M1 v H1 q dv m tx => ?_⟩
  unfold rdNeg at q
  split at q
  · cases Rp.intI dv
    exact ⟨_, rfl, k _ _ _ _ q (Rp.int _) m tx⟩
  · exact q.elim
/-! ### tests -/
def dTst (t : DTE) : DTT := fun ρ M Q => t ρ M fun x M1 => match x with
  | .d (.bool b) => Q b M1
  | _ => False
theorem dtst_ok {Φ : Ph} {K : PySem.W.Frag} {t : DTE} : ∀ σ H Q, LT K Φ (dTst t) σ H Q → tB (LE K Φ t) σ H Q := by
  intro σ H Q ⟨ρ, M, Q', S, h, k⟩
  refine ⟨ρ, M, _, S, h, fun x M1 v H1 q dv m tx => ?_⟩
  split at q
  · cases Rp.blI dv
    exact ⟨_, rfl, k _ _ _ q m tx⟩
  · exact q.elim
/-- an expression that gives a truth, as a test -/
theorem dtest (ha : DE Φ X a ta) (he : ∀ whole, isTrue a X.env whole = (do let v ← whole; standAt a.pos; holding [v] (truthy v)) := by intro _; rfl) : DT Φ X a (dTst ta) := pt_mono (pt_val ha he) dtst_ok
theorem dtcmp {op : CmpOp} {rd : DR2} {r : R2} (ho : OpR X (compareOp op) r) (sm : Sim2 X.K rd r) (ha : DE Φ X a ta) (hb : DE Φ X b tb) (hm : behindInMarks op b = false) : DT Φ X (.Compare a [op] [b] pos) (dTst (dOp rd ta tb)) :=
  pt_mono (pt_cmpR ho ha hb hm) fun σ H Q ⟨ρ, M, Q', S, h, k⟩ => dop_ok sm σ H _ ⟨ρ, M, _, S, h, fun x M1 v H1 q dv m tx => by
    split at q
    · cases Rp.blI dv
      exact ⟨_, rfl, k _ _ _ q m tx⟩
    · exact q.elim⟩
theorem dtlt (ha : DE Φ X a ta) (hb : DE Φ X b tb) : DT Φ X (.Compare a [.Lt] [b] pos) (dTst (dLt ta tb)) := dtcmp op_lt sim_B0 ha hb (nomark _)
theorem dtle (ha : DE Φ X a ta) (hb : DE Φ X b tb) : DT Φ X (.Compare a [.LtE] [b] pos) (dTst (dLe ta tb)) := dtcmp op_le sim_B0 ha hb (nomark _)
theorem dtgt (ha : DE Φ X a ta) (hb : DE Φ X b tb) : DT Φ X (.Compare a [.Gt] [b] pos) (dTst (dGt ta tb)) := dtcmp op_gt sim_B0 ha hb (nomark _)
theorem dtge (ha : DE Φ X a ta) (hb : DE Φ X b tb) : DT Φ X (.Compare a [.GtE] [b] pos) (dTst (dGe ta tb)) := dtcmp op_ge sim_B0 ha hb (nomark _)
theorem dteq (hu : X.A.units + 64 < cLine) (ha : DE Φ X a ta) (hb : DE Φ X b tb) : DT Φ X (.Compare a [.Eq] [b] pos) (dTst (dEq ta tb)) := dtcmp (op_eqD hu) sim_eq ha hb (nomark _)
theorem dtne (hu : X.A.units + 64 < cLine) (ha : DE Φ X a ta) (hb : DE Φ X b tb) : DT Φ X (.Compare a [.NotEq] [b] pos) (dTst (dNe ta tb)) := dtcmp (op_neD hu) sim_ne ha hb (nomark _)
theorem dtisN (ha : DE Φ X a ta) (hb : DE Φ X b tb) : DT Φ X (.Compare a [.Is] [b] pos) (dTst (dOp rdIsN ta tb)) := dtcmp op_isN sim_isN ha hb (nomark _)
theorem dtnotN (ha : DE Φ X a ta) (hb : DE Φ X b tb) : DT Φ X (.Compare a [.IsNot] [b] pos) (dTst (dOp rdNotN ta tb)) := dtcmp op_notN sim_notN ha hb (nomark _)
theorem dtnotB (ha : DE Φ X a ta) (hb : DE Φ X b tb) : DT Φ X (.Compare a [.IsNot] [b] pos) (dTst (dOp rdNotB ta tb)) := dtcmp op_notBl sim_notB ha hb (nomark _)
theorem dtchle (ha : DE Φ X a ta) (hb : DE Φ X b tb) (hc : DE Φ X c tc) (hm : lastMarks [.LtE, .LtE] [b, c] = false := by with_unfolding_all rfl) : DT Φ X (.Compare a [.LtE, .LtE] [b, c] pos) (dTst (dChn rdLe rdLe ta tb tc)) := by
  refine pt_mono (pt_chain op_le op_le ha hb hc hm) fun σ H Q ⟨ρ, M, Q', S, h, k⟩ => ?_
  refine ⟨ρ, M, _, S, h, fun x M1 v H1 q dv m tx => ⟨ρ, M1, _, S.step tx m, q, fun y M2 u H2 q2 du m2 tx2 => ?_⟩⟩
  refine sim_B0 _ _ _ _ _ _ _ _ m2 (dv.tx tx2) du q2 fun z M3 w H3 q3 dz m3 tx3 => ?_
  split at q3
  · rename_i kk
    cases Rp.blI dz
    refine ⟨kk, rfl, ?_⟩
    cases kk with
    | true =>
      rw [if_pos rfl]
      refine ⟨ρ, M3, _, S.step (tx.trans (tx2.trans tx3)) m3, q3.1 rfl, fun w' M4 v4 H4 q4 d4 m4 tx4 => ?_⟩
      refine sim_B0 _ _ _ _ _ _ _ _ m4 (du.tx (tx3.trans tx4)) d4 q4 fun z M5 w H5 q5 dz m5 tx5 => ?_
      split at q5
      · cases Rp.blI dz
        exact ⟨_, rfl, k _ _ _ q5 m5 (tx.trans (tx2.trans (tx3.trans (tx4.trans tx5))))⟩
      · exact q5.elim
    | false =>
      rw [if_neg Bool.false_ne_true]
      exact ⟨_, rfl, k _ _ _ (q3.2 rfl) m3 (tx.trans (tx2.trans tx3))⟩
  · exact q3.elim
variable {u v : DTT} {rest : List Expr}
def dAnd (t u : DTT) : DTT := fun ρ M Q => t ρ M fun c M1 => (c = true → u ρ M1 Q) ∧ (c = false → Q false M1)
def dOr (t u : DTT) : DTT := fun ρ M Q => t ρ M fun c M1 => (c = true → Q true M1) ∧ (c = false → u ρ M1 Q)
def dNot (t : DTT) : DTT := fun ρ M Q => t ρ M fun c M1 => Q (!c) M1
theorem dwand1 (ha : DT Φ X a u) : DW Φ X (.BoolOp .And [a] pos) u := pw_and1 ha
theorem dwor1 (ha : DT Φ X a u) : DW Φ X (.BoolOp .Or [a] pos) u := pw_or1 ha
theorem dwand (ha : DT Φ X a u) (hb : DW Φ X (.BoolOp .And (b :: rest) pos) v) : DW Φ X (.BoolOp .And (a :: b :: rest) pos) (dAnd u v) := by
  refine pw_mono (pw_and ha hb) fun σ H Q ⟨ρ, M, Q', S, h, k⟩ => ⟨ρ, M, _, S, h, fun c M1 H1 q m tx => ?_⟩
  cases c with
  | true => rw [if_pos rfl]; exact ⟨ρ, M1, _, S.step tx m, q.1 rfl, k.tx tx⟩
  | false => rw [if_neg Bool.false_ne_true]; exact k _ _ _ (q.2 rfl) m tx
theorem dwor (ha : DT Φ X a u) (hb : DW Φ X (.BoolOp .Or (b :: rest) pos) v) : DW Φ X (.BoolOp .Or (a :: b :: rest) pos) (dOr u v) := by
  refine pw_mono (pw_or ha hb) fun σ H Q ⟨ρ, M, Q', S, h, k⟩ => ⟨ρ, M, _, S, h, fun c M1 H1 q m tx => ?_⟩
  cases c with
  | true => rw [if_pos rfl]; exact k _ _ _ (q.1 rfl) m tx
  | false => rw [if_neg Bool.false_ne_true]; exact ⟨ρ, M1, _, S.step tx m, q.2 rfl, k.tx tx⟩
theorem dtnot (ha : DT Φ X a u) : DT Φ X (.UnaryOp .Not a pos) (dNot u) :=
  pt_mono (pt_not ha) fun σ H Q ⟨ρ, M, Q', S, h, k⟩ => ⟨ρ, M, _, S, h, fun c M1 H1 q m tx => k _ _ _ q m tx⟩
/-! .. as values -/
def dAndV (ta tb : DTE) : DTE := fun ρ M Q => ta ρ M fun x M1 => match x with
  | .d (.bool c) => (c = true → tb ρ M1 Q) ∧ (c = false → Q (.d (.bool false)) M1)
  | _ => False
def dOrV (ta tb : DTE) : DTE := fun ρ M Q => ta ρ M fun x M1 => match x with
  | .d (.bool c) => (c = true → Q (.d (.bool true)) M1) ∧ (c = false → tb ρ M1 Q)
  | _ => False
def rdNot : DR1 := fun x M Q => match x with
  | .d (.bool c) => Q (.d (.bool (!c))) M
  | _ => False
theorem done {op} (ha : DE Φ X a ta) : DE Φ X (.BoolOp op [a] pos) ta := pe_one ha
theorem dandV (ha : DE Φ X a ta) (hb : DE Φ X (.BoolOp .And (b :: rest) pos) tb) : DE Φ X (.BoolOp .And (a :: b :: rest) pos) (dAndV ta tb) := by
  refine pe_mono (pe_and ha hb) fun σ H Q ⟨ρ, M, Q', S, h, k⟩ => ⟨ρ, M, _, S, h, fun x M1 w H1 q dw m tx => ?_⟩
  split at q
  · rename_i c
    cases Rp.blI dw
    refine ⟨c, rfl, ?_⟩
    cases c with
    | true => rw [if_pos rfl]; exact ⟨ρ, M1, _, S.step tx m, q.1 rfl, k.tx tx⟩
    | false => rw [if_neg Bool.false_ne_true]; exact k _ _ _ _ (q.2 rfl) (Rp.bl _) m tx
  · exact q.elim
theorem dorV (ha : DE Φ X a ta) (hb : DE Φ X (.BoolOp .Or (b :: rest) pos) tb) : DE Φ X (.BoolOp .Or (a :: b :: rest) pos) (dOrV ta tb) := by
  refine pe_mono (pe_or ha hb) fun σ H Q ⟨ρ, M, Q', S, h, k⟩ => ⟨ρ, M, _, S, h, fun x M1 w H1 q dw m tx => ?_⟩
  split at q
  · rename_i c
    cases Rp.blI dw
    refine ⟨c, rfl, ?_⟩
    cases c with
    | true => rw [if_pos rfl]; exact k _ _ _ _ (q.1 rfl) (Rp.bl _) m tx
    | false => rw [if_neg Bool.false_ne_true]; exact ⟨ρ, M1, _, S.step tx m, q.2 rfl, k.tx tx⟩
  · exact q.elim
theorem dnotV (ha : DE Φ X a ta) : DE Φ X (.UnaryOp .Not a pos) (dUn rdNot ta) := by
  refine pe_mono (pe_not ha) fun σ H Q ⟨ρ, M, Q', S, h, k⟩ => ⟨ρ, M, _, S, h, fun x M1 w H1 q dw m tx => ?_⟩
  unfold rdNot at q
  split at q
  · cases Rp.blI dw
    exact ⟨_, rfl, k _ _ _ _ q (Rp.bl _) m tx⟩
  · exact q.elim
/-- a if t else b -/
def dIf (t : DTT) (ta tb : DTE) : DTE := fun ρ M Q => t ρ M fun c M1 => (c = true → ta ρ M1 Q) ∧ (c = false → tb ρ M1 Q)
theorem dif (hc : DT Φ X c u) (ha : DE Φ X a ta) (hb : DE Φ X b tb) : DE Φ X (.IfExp c a b pos) (dIf u ta tb) := by
  refine pe_mono (pe_ifExp hc ha hb) fun σ H Q ⟨ρ, M, Q', S, h, k⟩ => ⟨ρ, M, _, S, h, fun c M1 H1 q m tx => ?_⟩
  cases c with
  | true => rw [if_pos rfl]; exact ⟨ρ, M1, _, S.step tx m, q.1 rfl, k.tx tx⟩
  | false => rw [if_neg Bool.false_ne_true]; exact ⟨ρ, M1, _, S.step tx m, q.2 rfl, k.tx tx⟩
end
end BN

/-! D layer, part 3: subscripts, slices, built-ins, calls, promises -/
namespace BN
open PySem PySem.Spec PyProof.Rows L2
/-! ### subscripts -/
def ixD {α : Type} (xs : List α) : Int → Option α
  | .ofNat n => xs[n]?
  | .negSucc n => if n < xs.length then xs[xs.length - 1 - n]? else none
theorem ixD_eq {α : Type} (xs : List α) (i : Int) : ixD xs i = atI xs i := by
  unfold atI ixN
  cases i with
  | ofNat n =>
    show xs[n]? = _
    have h0 : (0 : Int) ≤ Int.ofNat n := Int.natCast_nonneg n
    rw [if_pos h0]
    by_cases h : n < xs.length
    · have h1 : Int.ofNat n < (xs.length : Int) := by show (n : Int) < _; omega
      rw [if_pos h1]
      rfl
    · have h1 : ¬ Int.ofNat n < (xs.length : Int) := by show ¬ (n : Int) < _; omega
      rw [if_neg h1, List.getElem?_eq_none (by omega)]
      rfl
  | negSucc n =>
    show (if n < xs.length then xs[xs.length - 1 - n]? else none) = _
    have h0 : ¬ (0 : Int) ≤ Int.negSucc n := by omega
    rw [if_neg h0]
    by_cases h : n < xs.length
    · have h1 : -(xs.length : Int) ≤ Int.negSucc n := by omega
      rw [if_pos h, if_pos h1]
      show _ = xs[(Int.negSucc n + xs.length).toNat]?
      congr 1
      omega
    · have h1 : ¬ -(xs.length : Int) ≤ Int.negSucc n := by omega
      rw [if_neg h, if_neg h1]
      rfl
theorem ixD_nat {α : Type} (xs : List α) (n : Nat) : ixD xs (n : Int) = xs[n]? := rfl
theorem RpL.ix {K : PySem.W.Frag} {M : Wd} {H : Hp} {vs : List V} {xs : List PyData} {i : Int} {x : PyData} (r : RpL K M H vs xs) (h : ixD xs i = some x) : ∃ v, atI vs i = some v ∧ Rp K M H v x := by
  rw [ixD_eq] at h
  unfold atI at h ⊢
  rw [r.length]
  cases e : ixN xs.length i with
  | none => rw [e] at h; cases h
  | some j =>
    rw [e] at h
    obtain ⟨v, e2, q⟩ := r.get' (show xs[j]? = some x from h)
    exact ⟨v, e2, q⟩
def rdIx : DR2 := fun x y M Q => ∃ a, Vw M x a ∧ match a, y with
  | .list ds, .d (.int i) => ∃ z, ixD ds i = some z ∧ Q (.d z) M
  | .tuple ds, .d (.int i) => ∃ z, ixD ds i = some z ∧ Q (.d z) M
  | _, _ => False
theorem sim_ix {K : PySem.W.Frag} : Sim2 K rdIx (rIx K) := by
  intro M H v u x y Q' Q m hv hu ⟨a, w, h⟩ k
  split at h
  · rename_i ds i
    obtain ⟨z, e, q⟩ := h
    cases Rp.intI hu
    obtain ⟨p, vs, rfl, s, r⟩ := Vw.list m hv w
    obtain ⟨v', e', r'⟩ := r.ix e
    exact .inl ⟨p, vs, i, v', rfl, rfl, s, e', k _ _ _ _ q r' m TX.rfl'⟩
  · rename_i ds i
    obtain ⟨z, e, q⟩ := h
    cases Rp.intI hu
    obtain ⟨p, vs, rfl, s, r⟩ := Vw.tup hv w
    obtain ⟨v', e', r'⟩ := r.ix e
    exact .inr (.inl ⟨p, vs, i, v', rfl, rfl, s, e', k _ _ _ _ q r' m TX.rfl'⟩)
  · exact h.elim
abbrev dIx := dOp rdIx
section
variable {Φ : Ph} {X : Cx} {pos : Pos} {a b c : Expr} {ta tb tc : DTE}
theorem dix (ha : DE Φ X a ta) (hb : DE Φ X b tb) (hs : PlainIx b := by exact fun _ _ => rfl) : DE Φ X (.Subscript a b pos) (dIx ta tb) :=
  pe_mono (pe_ix ix_seq ha hb hs) (dop_ok sim_ix)
/-! ### slices -/
abbrev DTO := DSt → DM → (Option Int → DM → Prop) → Prop
def LO (K : PySem.W.Frag) (Φ : Ph) (t : DTO) : TO := fun σ H Q => ∃ ρ M Q', SR K Φ ρ M σ H ∧ t ρ M.M Q' ∧ ∀ o M' H', Q' o M'.M → MR K M' H' → TX M H M' H' → Q o H'
abbrev DO (Φ : Ph) (X : Cx) (e : Option Expr) (t : DTO) : Prop := PO X e (LO X.K Φ t)
theorem po_mono {e : Option Expr} {t t' : TO} (h : PO X e t) (w : ∀ σ H Q, t' σ H Q → t σ H Q) : PO X e t' := ⟨fun pins s σ H Q I q => h.run pins s σ H Q I (w _ _ _ q)⟩
def dNoPart : DTO := fun _ M Q => Q none M
def dPart (t : DTE) : DTO := fun ρ M Q => t ρ M fun x M1 => match x with
  | .d (.int i) => Q (some i) M1
  | _ => False
theorem do_none : DO Φ X none dNoPart := po_mono po_none fun σ H Q ⟨ρ, M, Q', S, h, k⟩ => k _ _ _ h S.mem TX.rfl'
theorem do_some (ha : DE Φ X a ta) : DO Φ X (some a) (dPart ta) := po_mono (po_some ha) fun σ H Q ⟨ρ, M, Q', S, h, k⟩ => ⟨ρ, M, _, S, h, fun x M1 v H1 q dv m tx => by
  split at q
  · cases Rp.intI dv
    exact ⟨_, rfl, k _ _ _ q m tx⟩
  · exact q.elim⟩
def cutD {α : Type} (xs : List α) (lo hi : Option Int) : List α := (xs.drop (HT.sIx xs.length 0 lo)).take (HT.sIx xs.length xs.length hi - HT.sIx xs.length 0 lo)
theorem RpL.cut {K : PySem.W.Frag} {M : Wd} {H : Hp} {vs : List V} {xs : List PyData} (r : RpL K M H vs xs) (lo hi : Option Int) : RpL K M H (cutV vs lo hi) (cutD xs lo hi) := by
  unfold cutV cutD
  rw [r.length]
  exact (r.drop _).take _
theorem cutD_whole {α : Type} (xs : List α) (lo hi : Option Int) (h : HT.sIx xs.length 0 lo = 0 ∧ HT.sIx xs.length xs.length hi = xs.length) : cutD xs lo hi = xs := by
  unfold cutD
  rw [h.1, h.2, List.drop_zero, Nat.sub_zero, List.take_length]
def rdSl (x : D) (lo hi : Option Int) (M : DM) (Q : DQ) : Prop := ∃ a, Vw M x a ∧ match a with
  | .list ds => Q (.d (.list (cutD ds lo hi))) M
  | .tuple ds => Q (.d (.tuple (cutD ds lo hi))) M
  | _ => False
def dSl (te : DTE) (tl th : DTO) : DTE := fun ρ M Q => te ρ M fun x M1 => tl ρ M1 fun l M2 => th ρ M2 fun u M3 => rdSl x l u M3 Q
theorem dsl {lo hi : Option Expr} {tl th : DTO} {p2 : Pos} (ha : DE Φ X a ta) (hl : DO Φ X lo tl) (hu : DO Φ X hi th) : DE Φ X (.Subscript a (.Slice lo hi none p2) pos) (dSl ta tl th) := by
  refine pe_mono (pe_slice (SlR.or sl_list sl_tupA) ha hl hu) fun σ H Q ⟨ρ, M, Q', S, h, k⟩ => ?_
  refine ⟨ρ, M, _, S, h, fun x M1 v H1 q dv m tx => ⟨ρ, M1, _, S.step tx m, q, fun l M2 H2 q2 m2 tx2 => ⟨ρ, M2, _, S.step (tx.trans tx2) m2, q2, fun u M3 H3 q3 m3 tx3 => ?_⟩⟩⟩
  obtain ⟨a, w, q3⟩ := q3
  have dv3 := dv.tx (tx2.trans tx3)
  have k3 := k.tx (tx.trans (tx2.trans tx3))
  split at q3
  · obtain ⟨p, vs, rfl, s, r⟩ := Vw.list m3 dv3 w
    exact .inl ⟨p, vs, rfl, s, fun q hq => k3 _ (M3.fix q) _ _ q3 (Rp.lst ⟨upd_same, .inl rfl⟩ ((r.cut l u).tx (TX.new hq))) (m3.new hq) (TX.new hq)⟩
  · obtain ⟨p, vs, rfl, s, r⟩ := Vw.tup dv3 w
    refine .inr ⟨p, vs, rfl, s, fun e => ?_, fun _ q hq => k3 _ M3 _ _ q3 (Rp.tup (SqT.of upd_same) ((r.cut l u).tx (TX.newT hq))) (m3.newT hq) (TX.newT hq)⟩
    rw [r.length] at e
    rw [cutD_whole _ _ _ e] at q3
    exact k3 _ _ _ _ q3 (Rp.tup s r) m3 TX.rfl'
  · exact q3.elim
/-- xs[::-1] of a list -/
def rdRevL : DR1 := fun x M Q => ∃ ds, Vw M x (.list ds) ∧ Q (.d (.list ds.reverse)) M
theorem drevL {k : Nat} {p1 p2 p3 : Pos} (ha : DE Φ X a ta) : DE Φ X (.Subscript a (.Slice none none (some (.UnaryOp .USub (.Constant (.int 1) k p1) p2)) p3) pos) (dUn rdRevL ta) := by
  refine pe_mono (pe_revL ha) fun σ H Q ⟨ρ, M, Q', S, h, k⟩ => ⟨ρ, M, _, S, h, fun x M1 v H1 q dv m tx => ?_⟩
  obtain ⟨ds, w, q⟩ := q
  obtain ⟨p, vs, rfl, s, r⟩ := Vw.list m dv w
  exact ⟨p, vs, rfl, s, fun p hp => k _ (M1.fix p) _ _ q (Rp.lst ⟨upd_same, .inl rfl⟩ (r.reverse.tx (TX.new hp))) (m.new hp) (tx.trans (TX.new hp))⟩
end

/-! ### built-ins -/
abbrev DRA := List D → DM → DQ → Prop
def SimA (K : PySem.W.Frag) (rd : DRA) (r : List V → Hp → VK → Prop) : Prop :=
  ∀ (M : Wd) (H : Hp) (vs : List V) (xs : List D) (Q' : DQ) (Q : VK), MR K M H → DVL K M H vs xs → rd xs M.M Q' → KE K M H Q' Q → r vs H Q
def dCB (rd : DRA) (ts : List DTE) : DTE := fun ρ M Q => aL ts ρ M fun xs M1 => rd xs M1 Q
section
variable {Φ : Ph} {X : Cx} {x : Str} {p pos : Pos} {e : Expr} {es : List Expr} {ts : List DTE} {rd : DRA} {r : List V → Hp → VK → Prop} {id T : String}
theorem dcb_ok {K : PySem.W.Frag} (sm : SimA K rd r) : ∀ σ H Q, LE K Φ (dCB rd ts) σ H Q → tCB r (VA K Φ ts) σ H Q := by
  intro σ H Q ⟨ρ, M, Q', S, h, k⟩
  exact va_of ts S h fun xs M' vs H' q dvs m tx l => sm _ _ _ _ _ _ m dvs q (k.tx tx)
theorem dcallB (hc : CallR X (.builtin id) r) (sm : SimA X.K rd r) (hm : X.mg x = none) (hv : bootBuiltins x = some (.builtin id)) (ha : DA Φ X (e :: es) ts) (hg : Gl X x := by rfl) (hn : x ≠ "__name__" := by decide) (hdb : (x == ("__debug__" : Str)) = false := by decide)
    (he : starEach (e :: es) X.env = (false, eval e X.env) :: starEach es X.env := by rfl) (hpl : (backTo pos (starEach es X.env)).any (·.1) = false := by rfl) : DE Φ X (.Call (.Name x p) (e :: es) [] pos) (dCB rd ts) :=
  pe_mono (pe_callB hc hg hm hv ha hn hdb he hpl) (dcb_ok sm)
theorem dcallTy (hc : CallR X (.type T) r) (sm : SimA X.K rd r) (hm : X.mg x = none) (hv : bootBuiltins x = some (.type T)) (ha : DA Φ X (e :: es) ts) (hg : Gl X x := by rfl) (hn : x ≠ "__name__" := by decide) (hdb : (x == ("__debug__" : Str)) = false := by decide)
    (he : starEach (e :: es) X.env = (false, eval e X.env) :: starEach es X.env := by rfl) (hpl : (backTo pos (starEach es X.env)).any (·.1) = false := by rfl) : DE Φ X (.Call (.Name x p) (e :: es) [] pos) (dCB rd ts) :=
  pe_mono (pe_callTy hc hg hm hv ha hn hdb he hpl) (dcb_ok sm)
end
def rdLen : DRA := fun xs M Q => match xs with
  | [x] => ∃ a, Vw M x a ∧ match a with
    | .list ds => Q (.d (.int (ds.length : Nat))) M
    | .tuple ds => Q (.d (.int (ds.length : Nat))) M
    | _ => False
  | _ => False
theorem sim_len {K : PySem.W.Frag} : SimA K rdLen (fun xs H Q => ∃ p ys, xs = [.ref p] ∧ (SqL K H p ys ∨ SqT K H p ys) ∧ Q (.int ys.length) H) := by
  intro M H vs xs Q' Q m hd h k
  unfold rdLen at h
  split at h
  · rename_i x
    obtain ⟨a, w, h⟩ := h
    cases hd with
    | cons hv r =>
      cases r
      split at h
      · obtain ⟨p, vs, rfl, s, r⟩ := Vw.list m hv w
        exact ⟨p, vs, rfl, .inl s, by rw [r.length]; exact k _ _ _ _ h (Rp.int _) m TX.rfl'⟩
      · obtain ⟨p, vs, rfl, s, r⟩ := Vw.tup hv w
        exact ⟨p, vs, rfl, .inr s, by rw [r.length]; exact k _ _ _ _ h (Rp.int _) m TX.rfl'⟩
      · exact h.elim
  · exact h.elim
def rdAbs : DRA := fun xs M Q => match xs with
  | [.d (.int i)] => Q (.d (.int (i.natAbs : Nat))) M
  | _ => False
theorem sim_abs {K : PySem.W.Frag} : SimA K rdAbs (fun xs H Q => ∃ i, xs = [.int i] ∧ Q (.int (if i < 0 then -i else i)) H) := by
  intro M H vs xs Q' Q m hd h k
  unfold rdAbs at h
  split at h
  · rename_i i
    cases hd with
    | cons hv r =>
      cases r
      cases Rp.intI hv
      refine ⟨i, rfl, ?_⟩
      have e : (if i < 0 then -i else i) = ((i.natAbs : Nat) : Int) := by split <;> omega
      rw [e]
      exact k _ _ _ _ h (Rp.int _) m TX.rfl'
  · exact h.elim
def rdMax : DRA := fun xs M Q => match xs with
  | [.d (.int i), .d (.int j)] => Q (.d (.int (max i j))) M
  | _ => False
def rdMin : DRA := fun xs M Q => match xs with
  | [.d (.int i), .d (.int j)] => Q (.d (.int (min i j))) M
  | _ => False
theorem sim_max {K : PySem.W.Frag} : SimA K rdMax (fun xs H Q => ∃ i j, xs = [.int i, .int j] ∧ Q (.int (if j > i then j else i)) H) := by
  intro M H vs xs Q' Q m hd h k
  unfold rdMax at h
  split at h
  · rename_i i j
    cases hd with
    | cons hv r =>
      cases r with
      | cons hu r =>
        cases r
        cases Rp.intI hv
        cases Rp.intI hu
        refine ⟨i, j, rfl, ?_⟩
        have e : (if j > i then j else i) = max i j := by split <;> omega
        rw [e]
        exact k _ _ _ _ h (Rp.int _) m TX.rfl'
  · exact h.elim
theorem sim_min {K : PySem.W.Frag} : SimA K rdMin (fun xs H Q => ∃ i j, xs = [.int i, .int j] ∧ Q (.int (if j < i then j else i)) H) := by
  intro M H vs xs Q' Q m hd h k
  unfold rdMin at h
  split at h
  · rename_i i j
    cases hd with
    | cons hv r =>
      cases r with
      | cons hu r =>
        cases r
        cases Rp.intI hv
        cases Rp.intI hu
        refine ⟨i, j, rfl, ?_⟩
        have e : (if j < i then j else i) = min i j := by split <;> omega
        rw [e]
        exact k _ _ _ _ h (Rp.int _) m TX.rfl'
  · exact h.elim
def rdAll : DRA := fun xs M Q => match xs with
  | [x] => ∃ bs : List Bool, Vw M x (.list (bs.map PyData.bool)) ∧ Q (.d (.bool (bs.all id))) M
  | _ => False
theorem sim_all {K : PySem.W.Frag} : SimA K rdAll (rAll K) := by
  intro M H vs xs Q' Q m hd h k
  unfold rdAll at h
  split at h
  · obtain ⟨bs, w, h⟩ := h
    cases hd with
    | cons hv r =>
      cases r
      obtain ⟨p, vs, rfl, s, r⟩ := Vw.list m hv w
      cases r.bls
      exact ⟨p, bs, rfl, s, k _ _ _ _ h (Rp.bl _) m TX.rfl'⟩
  · exact h.elim
/-- list(x): a list that stays, a list that is to change; tuple(x) -/
def rdList : DRA := fun xs M Q => match xs with
  | [x] => ∃ a, Vw M x a ∧ match a with
    | .list ds => Q (.d (.list ds)) M
    | .tuple ds => Q (.d (.list ds)) M
    | _ => False
  | _ => False
def rdListM : DRA := fun xs M Q => match xs with
  | [x] => ∃ a, Vw M x a ∧ match a with
    | .list ds => ∀ p, M p = none → Q (.ref p) (put M p (.lst ds))
    | .tuple ds => ∀ p, M p = none → Q (.ref p) (put M p (.lst ds))
    | _ => False
  | _ => False
def rdTuple : DRA := fun xs M Q => match xs with
  | [x] => ∃ a, Vw M x a ∧ match a with
    | .list ds => Q (.d (.tuple ds)) M
    | .tuple ds => Q (.d (.tuple ds)) M
    | _ => False
  | _ => False
abbrev rListOf (K : PySem.W.Frag) : List V → Hp → VK → Prop := fun xs H Q => ∃ p ys, xs = [.ref p] ∧ (SqL K H p ys ∨ SqT K H p ys) ∧ ∀ l, H l = none → Q (.ref l) (upd H l (.lst ys))
theorem sim_list {K : PySem.W.Frag} : SimA K rdList (rListOf K) := by
  intro M H vs xs Q' Q m hd h k
  unfold rdList at h
  split at h
  · obtain ⟨a, w, h⟩ := h
    cases hd with
    | cons hv r =>
      cases r
      split at h
      · obtain ⟨p, vs, rfl, s, r⟩ := Vw.list m hv w
        exact ⟨p, vs, rfl, .inl s, fun l hl => k _ (M.fix l) _ _ h (Rp.lst ⟨upd_same, .inl rfl⟩ (r.tx (TX.new hl))) (m.new hl) (TX.new hl)⟩
      · obtain ⟨p, vs, rfl, s, r⟩ := Vw.tup hv w
        exact ⟨p, vs, rfl, .inr s, fun l hl => k _ (M.fix l) _ _ h (Rp.lst ⟨upd_same, .inl rfl⟩ (r.tx (TX.new hl))) (m.new hl) (TX.new hl)⟩
      · exact h.elim
  · exact h.elim
theorem sim_listM {K : PySem.W.Frag} : SimA K rdListM (rListOf K) := by
  intro M H vs xs Q' Q m hd h k
  unfold rdListM at h
  split at h
  · obtain ⟨a, w, h⟩ := h
    cases hd with
    | cons hv r =>
      cases r
      split at h
      · obtain ⟨p, vs, rfl, s, r⟩ := Vw.list m hv w
        exact ⟨p, vs, rfl, .inl s, fun l hl => k _ (M.put l (.lst _)) _ _ (h l (m.free hl)) rfl (m.newM hl r) (TX.newM hl)⟩
      · obtain ⟨p, vs, rfl, s, r⟩ := Vw.tup hv w
        exact ⟨p, vs, rfl, .inr s, fun l hl => k _ (M.put l (.lst _)) _ _ (h l (m.free hl)) rfl (m.newM hl r) (TX.newM hl)⟩
      · exact h.elim
  · exact h.elim
theorem sim_tuple {K : PySem.W.Frag} : SimA K rdTuple (fun xs H Q => ∃ p ys, xs = [.ref p] ∧ ((SqL K H p ys ∧ ∀ l, H l = none → Q (.ref l) (upd H l (.tup ys))) ∨ (SqT K H p ys ∧ Q (.ref p) H))) := by
  intro M H vs xs Q' Q m hd h k
  unfold rdTuple at h
  split at h
  · obtain ⟨a, w, h⟩ := h
    cases hd with
    | cons hv r =>
      cases r
      split at h
      · obtain ⟨p, vs, rfl, s, r⟩ := Vw.list m hv w
        exact ⟨p, vs, rfl, .inl ⟨s, fun l hl => k _ M _ _ h (Rp.tup (SqT.of upd_same) (r.tx (TX.newT hl))) (m.newT hl) (TX.newT hl)⟩⟩
      · obtain ⟨p, vs, rfl, s, r⟩ := Vw.tup hv w
        exact ⟨p, vs, rfl, .inr ⟨s, k _ _ _ _ h (Rp.tup s r) m TX.rfl'⟩⟩
      · exact h.elim
  · exact h.elim
/-! isinstance of a built-in type -/
inductive KTy where
  | int | bool | tuple | str | list
def KTy.s : KTy → String
  | .int => "int"
  | .bool => "bool"
  | .tuple => "tuple"
  | .str => "str"
  | .list => "list"
def isK : KTy → PyData → Bool
  | .int, .int _ => true
  | .int, .bool _ => true
  | .bool, .bool _ => true
  | .tuple, .tuple _ => true
  | .str, .str _ => true
  | .list, .list _ => true
  | _, _ => false
def tyP : PyData → String
  | .none => "NoneType"
  | .bool _ => "bool"
  | .int _ => "int"
  | .str _ => "str"
  | .list _ => "list"
  | .tuple _ => "tuple"
  | .dict _ => "dict"
theorem kit_isK (k : KTy) (a : PyData) : kitB (tyP a) k.s = some (isK k a) := by
  cases k <;> cases a <;> (dsimp only [tyP, KTy.s, isK]; decide +kernel)
theorem Rp.ty {K : PySem.W.Frag} {M : Wd} {H : Hp} {v : V} {a : PyData} (h : Rp K M H v a) : TyX K H v (.type (tyP a)) := by
  cases h with
  | non => exact .base .non
  | bl b => exact .base (.bl b)
  | int i => exact .base (.int i)
  | str x => exact .base (.str x)
  | lst q r => exact .base (.lst q.1)
  | tup q r =>
    rcases q with (q | ⟨o, q⟩) | ⟨o, its, n, q, c, _⟩
    · exact .base (.tup q)
    · exact .fTuple q
    · exact .kTuple q c
def rdIsi (kk : KTy) : DRA := fun xs M Q => match xs with
  | [.d a, .ty n] => n = kk.s ∧ Q (.d (.bool (isK kk a))) M
  | _ => False
theorem sim_isi {K : PySem.W.Frag} (kk : KTy) : SimA K (rdIsi kk) (rIsi K) := by
  intro M H vs xs Q' Q m hd h k
  unfold rdIsi at h
  split at h
  · rename_i a n
    obtain ⟨rfl, h⟩ := h
    cases hd with
    | cons hv r =>
      cases r with
      | cons hu r =>
        cases r
        cases (show _ = V.ty _ from hu)
        exact ⟨_, _, _, _, isK kk a, rfl, .ty _, Rp.ty hv, kit_ty (kit_isK kk a), k _ _ _ _ h (Rp.bl _) m TX.rfl'⟩
  · exact h.elim
section
variable {Φ : Ph} {X : Cx} {p pos : Pos} {e : Expr} {es : List Expr} {ts : List DTE}
theorem dlen (hm : X.mg "len" = none) (ha : DA Φ X (e :: es) ts) (hg : Gl X "len" := by rfl) (he : starEach (e :: es) X.env = (false, eval e X.env) :: starEach es X.env := by rfl) (hpl : (backTo pos (starEach es X.env)).any (·.1) = false := by rfl) :
    DE Φ X (.Call (.Name "len" p) (e :: es) [] pos) (dCB rdLen ts) := dcallB call_len_seq sim_len hm PySem.boot_len ha hg (by decide) (by decide) he hpl
theorem dabs (hm : X.mg "abs" = none) (ha : DA Φ X (e :: es) ts) (hg : Gl X "abs" := by rfl) (he : starEach (e :: es) X.env = (false, eval e X.env) :: starEach es X.env := by rfl) (hpl : (backTo pos (starEach es X.env)).any (·.1) = false := by rfl) :
    DE Φ X (.Call (.Name "abs" p) (e :: es) [] pos) (dCB rdAbs ts) := dcallB call_abs sim_abs hm (by decide +kernel) ha hg (by decide) (by decide) he hpl
theorem dmax (hc : X.calm = true) (hm : X.mg "max" = none) (ha : DA Φ X (e :: es) ts) (hg : Gl X "max" := by rfl) (he : starEach (e :: es) X.env = (false, eval e X.env) :: starEach es X.env := by rfl) (hpl : (backTo pos (starEach es X.env)).any (·.1) = false := by rfl) :
    DE Φ X (.Call (.Name "max" p) (e :: es) [] pos) (dCB rdMax ts) := dcallB (call_max2 hc) sim_max hm (by decide +kernel) ha hg (by decide) (by decide) he hpl
theorem dmin (hc : X.calm = true) (hm : X.mg "min" = none) (ha : DA Φ X (e :: es) ts) (hg : Gl X "min" := by rfl) (he : starEach (e :: es) X.env = (false, eval e X.env) :: starEach es X.env := by rfl) (hpl : (backTo pos (starEach es X.env)).any (·.1) = false := by rfl) :
    DE Φ X (.Call (.Name "min" p) (e :: es) [] pos) (dCB rdMin ts) := dcallB (call_min2 hc) sim_min hm (by decide +kernel) ha hg (by decide) (by decide) he hpl
theorem dall (hc : X.calm = true) (hm : X.mg "all" = none) (ha : DA Φ X (e :: es) ts) (hg : Gl X "all" := by rfl) (he : starEach (e :: es) X.env = (false, eval e X.env) :: starEach es X.env := by rfl) (hpl : (backTo pos (starEach es X.env)).any (·.1) = false := by rfl) :
    DE Φ X (.Call (.Name "all" p) (e :: es) [] pos) (dCB rdAll ts) := dcallB (cr_all hc) sim_all hm (by decide +kernel) ha hg (by decide) (by decide) he hpl
theorem dlistof (hm : X.mg "list" = none) (ha : DA Φ X (e :: es) ts) (hg : Gl X "list" := by rfl) (he : starEach (e :: es) X.env = (false, eval e X.env) :: starEach es X.env := by rfl) (hpl : (backTo pos (starEach es X.env)).any (·.1) = false := by rfl) :
    DE Φ X (.Call (.Name "list" p) (e :: es) [] pos) (dCB rdList ts) := dcallTy call_list_of sim_list hm (by decide +kernel) ha hg (by decide) (by decide) he hpl
theorem dlistofM (hm : X.mg "list" = none) (ha : DA Φ X (e :: es) ts) (hg : Gl X "list" := by rfl) (he : starEach (e :: es) X.env = (false, eval e X.env) :: starEach es X.env := by rfl) (hpl : (backTo pos (starEach es X.env)).any (·.1) = false := by rfl) :
    DE Φ X (.Call (.Name "list" p) (e :: es) [] pos) (dCB rdListM ts) := dcallTy call_list_of sim_listM hm (by decide +kernel) ha hg (by decide) (by decide) he hpl
theorem dtupleof (hm : X.mg "tuple" = none) (ha : DA Φ X (e :: es) ts) (hg : Gl X "tuple" := by rfl) (he : starEach (e :: es) X.env = (false, eval e X.env) :: starEach es X.env := by rfl) (hpl : (backTo pos (starEach es X.env)).any (·.1) = false := by rfl) :
    DE Φ X (.Call (.Name "tuple" p) (e :: es) [] pos) (dCB rdTuple ts) := dcallTy call_tuple_of sim_tuple hm (by decide +kernel) ha hg (by decide) (by decide) he hpl
theorem disi (kk : KTy) (hm : X.mg "isinstance" = none) (ha : DA Φ X (e :: es) ts) (hg : Gl X "isinstance" := by rfl) (he : starEach (e :: es) X.env = (false, eval e X.env) :: starEach es X.env := by rfl) (hpl : (backTo pos (starEach es X.env)).any (·.1) = false := by rfl) :
    DE Φ X (.Call (.Name "isinstance" p) (e :: es) [] pos) (dCB (rdIsi kk) ts) := dcallB call_isi (sim_isi kk) hm (by decide +kernel) ha hg (by decide) (by decide) he hpl
theorem dtyn (kk : KTy) (hm : X.mg (kk.s : Str) = none) (hv : bootBuiltins (kk.s : Str) = some (.type kk.s)) (hg : Gl X (kk.s : Str)) (hn : (kk.s : Str) ≠ "__name__") (hd : ((kk.s : Str) == ("__debug__" : Str)) = false) : DE Φ X (.Name (kk.s : Str) p) (tCD (.ty kk.s)) :=
  dbltn hm hv hg hn hd
end

/-! ### promises over data -/
abbrev DX := Addr → DM → Prop
abbrev DSp := List D → DM → DQ → DX → Prop
def KX (K : PySem.W.Frag) (M : Wd) (H : Hp) (E' : DX) (E : XK) : Prop := ∀ C M' H', E' C M'.M → MR K M' H' → TX M H M' H' → E (.ref C) none H'
def toSp (K : PySem.W.Frag) (sp : DSp) : Sp := fun vs H Q E => ∃ ds M Q' E', DVL K M H vs ds ∧ MR K M H ∧ sp ds M.M Q' E' ∧ KE K M H Q' Q ∧ KX K M H E' E
abbrev X0 : DX := fun _ _ => False
/-- a def of the module under its name -/
structure Fc (P : Program) (w : World) (K : PySem.W.Frag) (mg : Str → Option Value) (base : Heap) (CX : CXT) (k : Nat) (x : Str) (sp : DSp) : Prop where
  ex : ∃ (f : Addr) (fd : FuncData) (ps : List Str), mg x = some (.ref f) ∧ FnOk P w K mg base CX k f fd ps (toSp K sp) ∧ PySem.W.keepIn K (.ref f) = true ∧ Binds K fd ps []
def dCall (sp : DSp) (E' : DX) (ts : List DTE) : DTE := fun ρ M Q => aL ts ρ M fun xs M1 => sp xs M1 Q E'
section
variable {Φ : Ph} {X : Cx} {CX : CXT} {j k : Nat} {x : Str} {sp : DSp} {p pos : Pos} {e : Expr} {es : List Expr} {ts : List DTE}
/-- f(e, ..), E' what is wished of its exceptions -/
theorem dcallX {E' : DX} {E : XK} (c : Fc X.prog X.w X.K X.mg X.base CX k x sp) (hr : Room j X.A) (hk : k ≤ j) (ha : DA Φ X (e :: es) ts) (hx : Passes CX X E) (kx : ∀ C (M : Wd) H, E' C M.M → MR X.K M H → Φ.p M H → E (.ref C) none H) (hg : Gl X x := by rfl)
    (hdb : (x == ("__debug__" : Str)) = false := by decide) (he : starEach (e :: es) X.env = (false, eval e X.env) :: starEach es X.env := by rfl) (hpl : (backTo pos (starEach es X.env)).any (·.1) = false := by rfl) :
    DE Φ X (.Call (.Name x p) (e :: es) [] pos) (dCall sp E' ts) := by
  obtain ⟨f, fd, ps, hm, F, kp, hb⟩ := c.ex
  refine pe_mono (pe_call F (hr.mono hk) hg hm kp hb .nil hx ha hdb he hpl) fun σ H Q ⟨ρ, M, Q', S, h, k⟩ => ?_
  refine va_of ts S h fun xs M' vs H' q dvs m tx l => ?_
  rw [List.append_nil]
  exact ⟨xs, M', Q', E', dvs, m, q, k.tx tx, fun C M2 H2 q2 m2 tx2 => kx C M2 H2 q2 m2 (Φ.tx _ _ _ _ S.fr (tx.trans tx2))⟩
theorem dcall (c : Fc X.prog X.w X.K X.mg X.base CX k x sp) (hr : Room j X.A) (hk : k ≤ j) (ha : DA Φ X (e :: es) ts) (hx : Passes CX X E0) (hg : Gl X x := by rfl)
    (hdb : (x == ("__debug__" : Str)) = false := by decide) (he : starEach (e :: es) X.env = (false, eval e X.env) :: starEach es X.env := by rfl) (hpl : (backTo pos (starEach es X.env)).any (·.1) = false := by rfl) :
    DE Φ X (.Call (.Name x p) (e :: es) [] pos) (dCall sp X0 ts) := dcallX c hr hk ha hx (fun _ _ _ h => h.elim) hg hdb he hpl
end
end BN

/-! D layer, part 4: statements, loops, comprehensions, defs -/
namespace BN
open PySem PySem.Spec PyProof.Rows L2
/-- what is wanted behind a statement, over data -/
structure DEnds where
  nx : DSt → DM → Prop
  rt : DQ
  bk : DSt → DM → Prop := fun _ _ => False
  ct : DSt → DM → Prop := fun _ _ => False
abbrev DTS := DEnds → DSt → DM → Prop
structure KS (K : PySem.W.Frag) (Φ : Ph) (M : Wd) (H : Hp) (D' : DEnds) (D : Ends) : Prop where
  nx : ∀ ρ' M' σ' H', D'.nx ρ' M'.M → SR K Φ ρ' M' σ' H' → TX M H M' H' → D.nx σ' H'
  rt : KE K M H D'.rt D.rt
  bk : ∀ ρ' M' σ' H', D'.bk ρ' M'.M → SR K Φ ρ' M' σ' H' → TX M H M' H' → D.bk σ' H'
  ct : ∀ ρ' M' σ' H', D'.ct ρ' M'.M → SR K Φ ρ' M' σ' H' → TX M H M' H' → D.ct σ' H'
section
variable {K : PySem.W.Frag} {Φ : Ph} {M M1 : Wd} {H H1 : Hp} {D' : DEnds} {D : Ends}
theorem KS.tx (k : KS K Φ M H D' D) (t : TX M H M1 H1) : KS K Φ M1 H1 D' D :=
  ⟨fun ρ' M' σ' H' q s t' => k.nx ρ' M' σ' H' q s (t.trans t'), k.rt.tx t, fun ρ' M' σ' H' q s t' => k.bk ρ' M' σ' H' q s (t.trans t'), fun ρ' M' σ' H' q s t' => k.ct ρ' M' σ' H' q s (t.trans t')⟩
end
def LS (K : PySem.W.Frag) (Φ : Ph) (t : DTS) : TS := fun D σ H => ∃ ρ M D', SR K Φ ρ M σ H ∧ t D' ρ M.M ∧ KS K Φ M H D' D
abbrev DS (Φ : Ph) (X : Cx) (st : Stmt) (t : DTS) : Prop := PS X st (LS X.K Φ t)
abbrev DSs (Φ : Ph) (X : Cx) (st : List Stmt) (t : DTS) : Prop := PSs X st (LS X.K Φ t)
section
variable {Φ : Ph} {X : Cx} {st : Stmt} {rest : List Stmt} {t u : DTS} {e : Expr} {te : DTE} {pos : Pos}
def dNext : DTS := fun D ρ M => D.nx ρ M
def dSeq (t u : DTS) : DTS := fun D ρ M => t { D with nx := u D } ρ M
theorem ds_nil : DSs Φ X [] dNext := pss_mono pss_nil fun D σ H ⟨ρ, M, D', S, h, k⟩ => k.nx _ _ _ _ h S TX.rfl'
theorem ds_cons (h1 : DS Φ X st t) (h2 : DSs Φ X rest u) : DSs Φ X (st :: rest) (dSeq t u) :=
  pss_mono (pss_cons h1 h2) fun D σ H ⟨ρ, M, D', S, h, k⟩ => ⟨ρ, M, _, S, h, ⟨fun ρ' M' σ' H' q s t => ⟨ρ', M', D', s, q, k.tx t⟩, k.rt, k.bk, k.ct⟩⟩
/-- a statement, then the rest, a word between them -/
def dCut (t u : DTS) : DTS := fun D ρ M => ∃ Mid : DSt → DM → Prop, t { D with nx := Mid } ρ M ∧ ∀ ρ' M', Mid ρ' M' → u D ρ' M'
theorem ds_cut (h1 : DS Φ X st t) (h2 : DSs Φ X rest u) : DSs Φ X (st :: rest) (dCut t u) :=
  pss_mono (pss_cons h1 h2) fun D σ H ⟨ρ, M, D', S, ⟨Mid, h, g⟩, k⟩ => ⟨ρ, M, { D' with nx := Mid }, S, h, ⟨fun ρ' M' σ' H' q s t => ⟨ρ', M', D', s, g _ _ q, k.tx t⟩, k.rt, k.bk, k.ct⟩⟩
theorem ds_one (h1 : DS Φ X st t) : DSs Φ X [st] t := pss_one h1
def dDrop (te : DTE) : DTS := fun D ρ M => te ρ M fun _ M1 => D.nx ρ M1
theorem ds_expr (he : DE Φ X e te) (hs : swapsWith e none pos.line X.env = pure false := by rfl) : DS Φ X (.Expr e pos) (dDrop te) :=
  ps_mono (ps_expr he hs) fun D σ H ⟨ρ, M, D', S, h, k⟩ => ⟨ρ, M, _, S, h, fun x M1 v H1 q dv m tx => k.nx _ _ _ _ q (S.step tx m) tx⟩
def dRet (te : DTE) : DTS := fun D ρ M => te ρ M D.rt
theorem ds_ret (he : DE Φ X e te) : DS Φ X (.Return (some e) pos) (dRet te) :=
  ps_mono (ps_ret he) fun D σ H ⟨ρ, M, D', S, h, k⟩ => ⟨ρ, M, _, S, h, k.rt⟩
def dRetN : DTS := fun D _ M => D.rt (.d .none) M
theorem ds_retN : DS Φ X (.Return none pos) dRetN := ps_mono ps_retN fun D σ H ⟨ρ, M, D', S, h, k⟩ => k.rt _ _ _ _ h Rp.non S.mem TX.rfl'
def dIfS (c : DTT) (t u : DTS) : DTS := fun D ρ M => c ρ M fun b M1 => (b = true → t D ρ M1) ∧ (b = false → u D ρ M1)
theorem ds_if {c : Expr} {a b : List Stmt} {tc : DTT} (hc : DT Φ X c tc) (ha : DSs Φ X a t) (hb : DSs Φ X b u) : DS Φ X (.If c a b pos) (dIfS tc t u) := by
  refine ps_mono (ps_if hc ha hb) fun D σ H ⟨ρ, M, D', S, h, k⟩ => ⟨ρ, M, _, S, h, fun b M1 H1 q m tx => ?_⟩
  cases b with
  | true => rw [if_pos rfl]; exact ⟨ρ, M1, D', S.step tx m, q.1 rfl, k.tx tx⟩
  | false => rw [if_neg Bool.false_ne_true]; exact ⟨ρ, M1, D', S.step tx m, q.2 rfl, k.tx tx⟩
def dNever : DTS := fun _ _ _ => False
theorem ds_never : DS Φ X st dNever := ps_mono ps_never fun D σ H ⟨_, _, _, _, h, _⟩ => h
theorem dss_never {sts : List Stmt} : DSs Φ X sts dNever := pss_mono pss_never fun D σ H ⟨_, _, _, _, h, _⟩ => h
theorem ds_break : DS Φ X (.Break pos) (fun D ρ M => D.bk ρ M) := ps_mono ps_break fun D σ H ⟨ρ, M, D', S, h, k⟩ => k.bk _ _ _ _ h S TX.rfl'
theorem ds_cont : DS Φ X (.Continue pos) (fun D ρ M => D.ct ρ M) := ps_mono ps_continue fun D σ H ⟨ρ, M, D', S, h, k⟩ => k.ct _ _ _ _ h S TX.rfl'
end
/-! ### targets -/
abbrev DTG := D → DSt → DM → (DSt → DM → Prop) → Prop
def LG (K : PySem.W.Frag) (Φ : Ph) (g : DTG) : TG := fun v σ H Q => ∃ x ρ M Q', DV K M H v x ∧ SR K Φ ρ M σ H ∧ g x ρ M.M Q' ∧ ∀ ρ' M' σ' H', Q' ρ' M'.M → SR K Φ ρ' M' σ' H' → TX M H M' H' → Q σ' H'
abbrev DG (Φ : Ph) (X : Cx) (tg : Expr) (g : DTG) : Prop := PG X tg (LG X.K Φ g)
def setL : DSt → List Nat → List PyData → DSt
  | ρ, i :: is, x :: xs => setL (ρ.set i (some (.d x))) is xs
  | ρ, _, _ => ρ
def gNm (i : Nat) : DTG := fun x ρ M Q => Q (ρ.set i (some x)) M
def gTp (is : List Nat) : DTG := fun x ρ M Q => match x with
  | .d (.tuple ds) => ds.length = is.length ∧ Q (setL ρ is ds) M
  | _ => False
def VGs : List Nat → TGs
  | [] => gNil
  | i :: r => gCons (gName i) (VGs r)
section
variable {Φ : Ph} {X : Cx} {pos : Pos} {e : Expr} {es : List Expr} {is : List Nat}
theorem dg_name {i : Nat} {x : Str} (hN : X.N.Nodup) (hi : X.N[i]? = some x := by rfl) (hx : Loc X.env.scope x := by first | exact .inl rfl | exact .inr rfl) (hf : X.fn x = true ∨ X.env.scope.names.lookup x = some .local := by first | exact .inl rfl | exact .inr rfl) : DG Φ X (.Name x pos) (gNm i) :=
  pg_mono (pg_name hN hi hx hf) fun v σ H Q ⟨x, ρ, M, Q', dv, S, h, k⟩ => k _ _ _ _ h (S.set i dv) TX.rfl'
theorem dgs_nil : PGs X [] (VGs []) := pgs_nil
theorem dgs_cons {i : Nat} {x : Str} (hN : X.N.Nodup) (h2 : PGs X es (VGs is)) (hi : X.N[i]? = some x := by rfl) (hx : Loc X.env.scope x := by first | exact .inl rfl | exact .inr rfl) (hf : X.fn x = true ∨ X.env.scope.names.lookup x = some .local := by first | exact .inl rfl | exact .inr rfl)
    (hs : (assignEach (.Name x pos :: es) X.env).map (·.2) = assign (.Name x pos) X.env :: (assignEach es X.env).map (·.2) := by rfl) : PGs X (.Name x pos :: es) (VGs (i :: is)) :=
  pgs_cons (pg_name hN hi hx hf) h2 hs
theorem vgs_ok {K : PySem.W.Frag} {M : Wd} {H : Hp} : ∀ (is : List Nat) {vs : List V} {xs : List PyData} {ρ : DSt} {σ : St} {Q : St → Hp → Prop}, RpL K M H vs xs → xs.length = is.length → SR K Φ ρ M σ H →
    (∀ σ', SR K Φ (setL ρ is xs) M σ' H → (∀ js, (∀ i ∈ is, i ∈ js) → wipe σ' js = wipe σ js) → Q σ' H) → VGs is vs σ H Q
  | [], vs, xs, ρ, σ, Q, r, l, S, k => by
    cases r with
    | nil => exact ⟨rfl, k σ S fun _ _ => rfl⟩
    | cons _ _ => cases l
  | i :: is, vs, xs, ρ, σ, Q, r, l, S, k => by
    cases r with
    | nil => cases l
    | cons h r =>
      refine ⟨_, _, rfl, ?_⟩
      refine vgs_ok is r (by simpa using l) (S.set i (x := .d _) h) fun σ' S' w => k σ' S' fun js hj => ?_
      rw [w js fun j hm => hj j (List.mem_cons_of_mem _ hm)]
      exact wipe_set (hj i List.mem_cons_self)
where
  wipe_set {σ : St} {i : Nat} {v : V} : ∀ {js : List Nat}, i ∈ js → wipe (σ.set i (some v)) js = wipe σ js
    | j :: js, h => by
      unfold wipe
      by_cases e : i = j
      · subst e
        by_cases h2 : i ∈ js
        · rw [wipe_set h2]
        · rw [wipe_out' h2, List.set_set]
      · rw [wipe_set ((List.mem_cons.mp h).resolve_left e)]
  wipe_out' {σ : St} {i : Nat} {v : V} : ∀ {js : List Nat}, i ∉ js → wipe (σ.set i (some v)) js = (wipe σ js).set i (some v)
    | [], _ => rfl
    | j :: js, h => by
      unfold wipe
      rw [wipe_out' fun z => h (List.mem_cons_of_mem _ z), List.set_comm _ _ (fun z => h (by rw [z]; exact List.mem_cons_self))]
theorem dg_tup {k : Nat} (hc : X.calm = true) (h : PGs X es (VGs is)) (hn : (assignEach es X.env).length = is.length := by rfl) (hst : (assignEach es X.env).findIdx? (·.1) = none := by rfl) : DG Φ X (.Tuple es k pos) (gTp is) := by
  refine pg_mono (pg_tup hc h hn hst) fun v σ H Q ⟨x, ρ, M, Q', dv, S, q, kk⟩ => ?_
  unfold gTp at q
  split at q
  · obtain ⟨p, vs, rfl, s, r⟩ := Rp.tupI dv
    exact ⟨p, vs, rfl, s, r.length.trans q.1, vgs_ok is r q.1 S fun σ' S' _ => kk _ _ _ _ q.2 S' TX.rfl'⟩
  · exact q.elim
/-- o[i] = .. of a list that may change -/
def gSb (to ti : DTE) : DTG := fun x ρ M Q => to ρ M fun o M1 => ti ρ M1 fun i M2 => match x, o, i with
  | .d z, .ref l, .d (.int n) => ∃ ds j, M2 l = some (.lst ds) ∧ ixN ds.length n = some j ∧ Q ρ (put M2 l (.lst (ds.set j z)))
  | _, _, _ => False
theorem dg_sub {o i : Expr} {to ti : DTE} (ho : DE Φ X o to) (hi : DE Φ X i ti)
    (ha : ∀ v, assign (.Subscript o i pos) X.env v = (do
      let ov ← holding [v] (eval o X.env)
      let iv ← holding [v, ov] (eval i X.env)
      standAt pos
      holding [v, ov, iv] (setItem ov iv v)
      release [v, ov, iv] []) := by intro _; rfl) : DG Φ X (.Subscript o i pos) (gSb to ti) := by
  refine pg_mono (pg_sub ho hi set_list ha) fun v σ H Q ⟨x, ρ, M, Q', dv, S, q, k⟩ => ?_
  refine ⟨ρ, M, _, S, q, fun oo M1 ov H1 q1 d1 m1 t1 => ⟨ρ, M1, _, S.step t1 m1, q1, fun ii M2 iv H2 q2 d2 m2 t2 => ?_⟩⟩
  have dv2 := dv.tx (t1.trans t2)
  have d1' := d1.tx t2
  split at q2
  · rename_i z l n
    obtain ⟨ds, j, e, hj, q2⟩ := q2
    cases (show ov = .ref l from d1')
    cases Rp.intI d2
    obtain ⟨vs, hv, r⟩ := m2.lst e
    refine ⟨l, vs, n, j, rfl, rfl, hv, by rw [r.length]; exact hj, ?_⟩
    have t3 := TX.write (ws := vs.set j v) (es := ds.set j z) hv e (m2.noFm e)
    exact k _ (M2.put l (.lst (ds.set j z))) _ _ q2 (S.step (t1.trans (t2.trans t3)) (m2.write hv e (r.set dv2 j))) (t1.trans (t2.trans t3))
  · exact q2.elim
/-- target = value -/
def dAsg (te : DTE) (g : DTG) : DTS := fun D ρ M => te ρ M fun x M1 => g x ρ M1 D.nx
theorem asg_ok {K : PySem.W.Frag} {te : DTE} {g : DTG} : ∀ D σ H, LS K Φ (dAsg te g) D σ H → tAsg (LE K Φ te) (LG K Φ g) D σ H :=
  fun D σ H ⟨ρ, M, D', S, h, k⟩ => ⟨ρ, M, _, S, h, fun x M1 v H1 q dv m tx => ⟨x, ρ, M1, _, dv, S.step tx m, q, fun ρ' M' σ' H' q' s' t' => k.nx _ _ _ _ q' s' (tx.trans t')⟩⟩
theorem ds_asg {tg : Expr} {te : DTE} {g : DTG} (he : DE Φ X e te) (hg : DG Φ X tg g) (hs : swapsWithSole [tg] e pos.line X.env = pure false := by rfl) (hw : swappedStores [tg] e X.env = pure none := by rfl)
    (h1 : (assignEach [tg] X.env).map (·.2) = [assign tg X.env] := by rfl) : DS Φ X (.Assign [tg] e pos) (dAsg te g) := ps_mono (ps_asg he hg hs hw h1) asg_ok
theorem ds_set {i : Nat} {x : Str} {te : DTE} {pos' : Pos} (hN : X.N.Nodup) (he : DE Φ X e te) (hi : X.N[i]? = some x := by rfl) (hx : Loc X.env.scope x := by first | exact .inl rfl | exact .inr rfl)
    (hs : swapsWith e (some (.Name x pos')) pos.line X.env = pure false := by rfl) (hf : X.fn x = true ∨ X.env.scope.names.lookup x = some .local := by first | exact .inl rfl | exact .inr rfl) :
    DS Φ X (.Assign [.Name x pos'] e pos) (dAsg te (gNm i)) :=
  ps_mono (ps_set hN hi hx he hs hf) fun D σ H ⟨ρ, M, D', S, h, k⟩ => ⟨ρ, M, _, S, h, fun x M1 v H1 q dv m tx => k.nx _ _ _ _ q ((S.step tx m).set i dv) tx⟩
/-- a, b = x, y -/
def dPar (i j : Nat) (ta tb : DTE) : DTS := fun D ρ M => ta ρ M fun x M1 => tb ρ M1 fun y M2 => D.nx ((ρ.set i (some x)).set j (some y)) M2
theorem ds_par {i j : Nat} {x y : Str} {a b : Expr} {ta tb : DTE} {px py pt : Pos} {kt k2 pt2} (hc : X.calm = true) (hN : X.N.Nodup) (ha : DA Φ X [a, b] [ta, tb]) (hi : X.N[i]? = some x := by rfl) (hj : X.N[j]? = some y := by rfl) (hij : i ≠ j := by decide)
    (hx : X.env.scope.names.lookup x = some .local := by rfl) (hy : X.env.scope.names.lookup y = some .local := by rfl)
    (hw : swappedStores [.Tuple [.Name x px, .Name y py] kt pt] (.Tuple [a, b] k2 pt2) X.env = pure (some [x, y]) := by rfl)
    (hs : swapsWithSole [.Tuple [.Name x px, .Name y py] kt pt] (.Tuple [a, b] k2 pt2) pos.line X.env = pure false := by rfl) :
    DS Φ X (.Assign [.Tuple [.Name x px, .Name y py] kt pt] (.Tuple [a, b] k2 pt2) pos) (dPar i j ta tb) := by
  refine ps_mono (ps_par hc hN hi hj hij hx hy ha hw hs) fun D σ H ⟨ρ, M, D', S, h, k⟩ => ?_
  refine ⟨ρ, M, _, S, h, fun x M1 v H1 q dv m tx => ⟨ρ, M1, _, S.step tx m, q, fun y M2 u H2 q2 du m2 tx2 => ⟨v, u, rfl, ?_⟩⟩⟩
  exact k.nx _ _ _ _ q2 (((S.step (tx.trans tx2) m2).set i (dv.tx tx2)).set j du) (tx.trans tx2)
end

/-! ### what is walked -/
abbrev DTI := DSt → DM → (List PyData → DM → Prop) → Prop
/-- the walk yields the items xs, one after another -/
def JOk (K : PySem.W.Frag) (J : It) (xs : List PyData) (M0 : Wd) (H0 : Hp) : Prop := ∀ M H, TX M0 H0 M H → MR K M H → ∀ i : Nat,
  (i < xs.length → J.go i H ∧ ∀ v H', J.yld i H v H' → ∃ x, xs[i]? = some x ∧ Rp K M H' v x ∧ TX M H M H' ∧ MR K M H') ∧ (i = xs.length → J.stop i H)
def LI (K : PySem.W.Frag) (Φ : Ph) (src : DTI) : TI := fun σ H R => ∃ ρ M R', SR K Φ ρ M σ H ∧ src ρ M.M R' ∧ ∀ xs M' H' J, R' xs M'.M → MR K M' H' → TX M H M' H' → JOk K J xs M' H' → R J H'
abbrev DI (Φ : Ph) (X : Cx) (tg e : Expr) (src : DTI) : Prop := PI X tg e (LI X.K Φ src)
section
variable {Φ : Ph} {X : Cx} {pos : Pos} {tg e : Expr} {es : List Expr} {te : DTE} {ts : List DTE}
theorem jok_list {K : PySem.W.Frag} {M0 : Wd} {H0 : Hp} {a : Addr} {vs : List V} {ds : List PyData} (s : LsV M0 H0 a vs) (r : RpL K M0 H0 vs ds) : JOk K (Itl K a) ds M0 H0 := fun M H t m i => by
  have s' := s.tx t
  have r' := r.tx t
  refine ⟨fun hi => ?_, fun hi => ⟨vs, SqL.of s'.1, by rw [r'.length]; omega⟩⟩
  obtain ⟨v, e, q⟩ := r'.get' (List.getElem?_eq_getElem hi)
  refine ⟨⟨vs, v, SqL.of s'.1, e⟩, fun w H' y => ?_⟩
  obtain ⟨rfl, y⟩ := y
  have e2 := y _ (SqL.of s'.1)
  rw [e] at e2
  cases e2
  exact ⟨_, List.getElem?_eq_getElem hi, q, TX.rfl', m⟩
theorem jok_tup {K : PySem.W.Frag} {M0 : Wd} {H0 : Hp} {a : Addr} {vs : List V} {ds : List PyData} (s : SqT K H0 a vs) (r : RpL K M0 H0 vs ds) : JOk K (Itt K a) ds M0 H0 := fun M H t m i => by
  have s' := SqT.tx s t
  have r' := r.tx t
  refine ⟨fun hi => ?_, fun hi => ⟨vs, s', by rw [r'.length]; omega⟩⟩
  obtain ⟨v, e, q⟩ := r'.get' (List.getElem?_eq_getElem hi)
  refine ⟨⟨vs, v, s', e⟩, fun w H' y => ?_⟩
  obtain ⟨rfl, y⟩ := y
  have e2 := y _ s'
  rw [e] at e2
  cases e2
  exact ⟨_, List.getElem?_eq_getElem hi, q, TX.rfl', m⟩
/-- a list that stays -/
def iLs (t : DTE) : DTI := fun ρ M R => t ρ M fun x M1 => match x with
  | .d (.list ds) => R ds M1
  | _ => False
def iTp (t : DTE) : DTI := fun ρ M R => t ρ M fun x M1 => match x with
  | .d (.tuple ds) => R ds M1
  | _ => False
theorem di_list (he : DE Φ X e te) : DI Φ X tg e (iLs te) := by
  refine pi_mono (pi_list he) fun σ H R ⟨ρ, M, R', S, h, k⟩ => ⟨ρ, M, _, S, h, fun x M1 v H1 q dv m tx => ?_⟩
  split at q
  · rename_i ds
    cases (show Rp X.K M1 H1 v (.list ds) from dv) with
    | lst s r => exact ⟨_, rfl, ⟨_, SqL.of s.1⟩, k _ _ _ _ q m tx (jok_list s r)⟩
  · exact q.elim
theorem di_tup (he : DE Φ X e te) : DI Φ X tg e (iTp te) := by
  refine pi_mono (pi_tup he) fun σ H R ⟨ρ, M, R', S, h, k⟩ => ⟨ρ, M, _, S, h, fun x M1 v H1 q dv m tx => ?_⟩
  split at q
  · rename_i ds
    obtain ⟨p, vs, rfl, s, r⟩ := Rp.tupI dv
    exact ⟨_, rfl, ⟨_, s⟩, k _ _ _ _ q m tx (jok_tup s r)⟩
  · exact q.elim
def rgL (lo : Int) (n : Nat) : List PyData := (List.range n).map fun i => PyData.int (lo + (i : Nat))
theorem rgL_length (lo : Int) (n : Nat) : (rgL lo n).length = n := by simp [rgL]
theorem rgL_get {lo : Int} {n i : Nat} {x : PyData} (h : (rgL lo n)[i]? = some x) : i < n ∧ x = .int (lo + (i : Nat)) := by
  have hi : i < n := by
    have := (List.getElem?_eq_some_iff.mp h).1
    rwa [rgL_length] at this
  refine ⟨hi, ?_⟩
  unfold rgL at h
  rw [List.getElem?_map, List.getElem?_range hi] at h
  simpa using h.symm
theorem jok_range {K : PySem.W.Frag} {M0 : Wd} {H0 : Hp} (lo : Int) (n : Nat) : JOk K (Itr lo n) (rgL lo n) M0 H0 := fun M H t m i => by
  rw [rgL_length]
  refine ⟨fun hi => ⟨hi, fun v H' y => ?_⟩, fun hi => by subst hi; exact Nat.le_refl _⟩
  obtain ⟨rfl, rfl⟩ := y
  exact ⟨.int (lo + (i : Nat)), by unfold rgL; rw [List.getElem?_map, List.getElem?_range hi]; rfl, Rp.int _, TX.rfl', m⟩
def iRg1 (te : DTE) : DTI := fun ρ M R => te ρ M fun x M1 => match x with
  | .d (.int j) => (-(2 ^ 62) ≤ j ∧ j < 2 ^ 62) ∧ R (rgL 0 j.toNat) M1
  | _ => False
def iRg2 (ta tb : DTE) : DTI := fun ρ M R => ta ρ M fun x M1 => tb ρ M1 fun y M2 => match x, y with
  | .d (.int i), .d (.int j) => (-(2 ^ 62) ≤ i ∧ i < 2 ^ 62 ∧ -(2 ^ 62) ≤ j ∧ j < 2 ^ 62) ∧ R (rgL i (j - i).toNat) M2
  | _, _ => False
theorem di_range1 {p : Pos} (hm : X.mg "range" = none) (ha : DA Φ X [e] [te]) (hg : Gl X "range" := by rfl) (hs : starEach [e] X.env = [(false, eval e X.env)] := by rfl) : DI Φ X tg (.Call (.Name "range" p) [e] [] pos) (iRg1 te) := by
  refine pi_mono (pi_range1 hg hm ha hs) fun σ H R ⟨ρ, M, R', S, h, k⟩ => ⟨ρ, M, _, S, h, fun x M1 v H1 q dv m tx => ?_⟩
  split at q
  · rename_i j
    cases Rp.intI dv
    exact ⟨j, rfl, q.1.1, q.1.2, k _ _ _ _ q.2 m tx (jok_range 0 _)⟩
  · exact q.elim
theorem di_range2 {p : Pos} {e2 : Expr} {te2 : DTE} (hm : X.mg "range" = none) (ha : DA Φ X [e, e2] [te, te2]) (hg : Gl X "range" := by rfl) (hs : starEach [e, e2] X.env = [(false, eval e X.env), (false, eval e2 X.env)] := by rfl) (hs2 : starEach [e2] X.env = [(false, eval e2 X.env)] := by rfl) :
    DI Φ X tg (.Call (.Name "range" p) [e, e2] [] pos) (iRg2 te te2) := by
  refine pi_mono (pi_range2 hg hm ha hs hs2) fun σ H R ⟨ρ, M, R', S, h, k⟩ => ⟨ρ, M, _, S, h, fun x M1 v H1 q dv m tx => ⟨ρ, M1, _, S.step tx m, q, fun y M2 u H2 q2 du m2 tx2 => ?_⟩⟩
  split at q2
  · rename_i i j
    cases Rp.intI (Rp.tx tx2 dv)
    cases Rp.intI du
    exact ⟨i, j, rfl, q2.1, k _ _ _ _ q2.2 m2 (tx.trans tx2) (jok_range i _)⟩
  · exact q2.elim
/-- a walk whose source is chosen by a test -/
def iIf (c : DTT) (a b : DTI) : DTI := fun ρ M R => c ρ M fun k M1 => (k = true → a ρ M1 R) ∧ (k = false → b ρ M1 R)

/-! ### for -/
def dFor (src : DTI) (g : DTG) (tb : DTS) : DTS := fun D ρ M => src ρ M fun xs M1 => ∃ Pv : Nat → DSt → DM → Prop, Pv 0 ρ M1 ∧
  (∀ (i : Nat) (x : PyData) ρ M, xs[i]? = some x → Pv i ρ M → g (.d x) ρ M fun ρ2 M2 => tb { D with nx := Pv (i + 1), ct := Pv (i + 1), bk := D.nx } ρ2 M2) ∧ ∀ ρ M, Pv xs.length ρ M → D.nx ρ M
theorem ds_for {body : List Stmt} {src : DTI} {g : DTG} {tb : DTS} (hp : PassesOwn (model X.prog X.w) X.A X.env X.xe) (hc : X.calm = true) (hi : DI Φ X tg e src) (hg : DG Φ X tg g) (hb : DSs Φ X body tb)
    (hs : ∀ x, foldedSetIterable e X.env x = pure x := by intro _; rfl) : DS Φ X (.For tg e body [] pos) (dFor src g tb) := by
  refine ps_mono (ps_for hp hc hi hg hb hs) fun D σ H ⟨ρ, M, D', S, h, k⟩ => ⟨ρ, M, _, S, h, fun xs M1 H1 J q m tx jok => ?_⟩
  obtain ⟨Pv, p0, st, fin⟩ := q
  refine ⟨fun i n σ' H' => n = xs.length - i ∧ i ≤ xs.length ∧ ∃ ρ' M', SR X.K Φ ρ' M' σ' H' ∧ TX M1 H1 M' H' ∧ Pv i ρ' M'.M, ⟨xs.length, rfl, Nat.zero_le _, ρ, M1, S.step tx m, TX.rfl', p0⟩, ?_⟩
  rintro i n σ' H' ⟨rfl, hi, ρ', M', S', t', p'⟩
  obtain ⟨j1, j2⟩ := jok M' H' t' S'.mem i
  by_cases hl : i < xs.length
  · obtain ⟨go, yld⟩ := j1 hl
    refine .inr ⟨go, fun σ2 H2 => ∃ ρ2 M2, SR X.K Φ ρ2 M2 σ2 H2 ∧ TX M1 H1 M2 H2 ∧ Pv (i + 1) ρ2 M2.M, fun σ2 H2 ⟨ρ2, M2, S2, t2, p2⟩ => ⟨xs.length - (i + 1), by omega, rfl, hl, ρ2, M2, S2, t2, p2⟩, fun v H3 y => ?_⟩
    obtain ⟨x, ex, rx, tx3, m3⟩ := yld v H3 y
    refine ⟨.d x, ρ', M', _, rx, S'.step tx3 m3, st i x ρ' M'.M ex p', fun ρ4 M4 σ4 H4 q4 S4 t4 => ?_⟩
    have t5 := t'.trans (tx3.trans t4)
    refine ⟨ρ4, M4, _, S4, q4, ⟨fun ρ5 M5 σ5 H5 p5 S5 t6 => ⟨ρ5, M5, S5, t5.trans t6, p5⟩, k.rt.tx (tx.trans t5), fun ρ5 M5 σ5 H5 p5 S5 t6 => k.nx _ _ _ _ p5 S5 (tx.trans (t5.trans t6)), fun ρ5 M5 σ5 H5 p5 S5 t6 => ⟨ρ5, M5, S5, t5.trans t6, p5⟩⟩⟩
  · have e : i = xs.length := by omega
    subst e
    exact .inl ⟨j2 rfl, k.nx _ _ _ _ (fin _ _ p') S' (tx.trans t')⟩
/-! ### while -/
def dWhile (c : DTT) (tb : DTS) : DTS := fun D ρ M => ∃ Pv : Nat → DSt → DM → Prop, (∃ n, Pv n ρ M) ∧ ∀ n ρ M, Pv n ρ M →
  c ρ M fun b M1 => (b = true → tb { D with nx := fun ρ' M' => ∃ n', n' < n ∧ Pv n' ρ' M', ct := fun ρ' M' => ∃ n', n' < n ∧ Pv n' ρ' M', bk := D.nx } ρ M1) ∧ (b = false → D.nx ρ M1)
theorem ds_while {body : List Stmt} {tc : DTT} {tb : DTS} (hp : PassesOwn (model X.prog X.w) X.A X.env X.xe) (hc : DT Φ X e tc) (hb : DSs Φ X body tb) : DS Φ X (.While e body [] pos) (dWhile tc tb) := by
  refine ps_mono (ps_while hp hc hb) fun D σ H ⟨ρ, M, D', S, ⟨Pv, ⟨n0, p0⟩, st⟩, k⟩ => ?_
  refine ⟨fun n σ' H' => ∃ ρ' M', SR X.K Φ ρ' M' σ' H' ∧ TX M H M' H' ∧ Pv n ρ' M'.M, ⟨n0, ρ, M, S, TX.rfl', p0⟩, ?_⟩
  rintro n σ' H' ⟨ρ', M', S', t', p'⟩
  refine ⟨ρ', M', _, S', st n ρ' M'.M p', fun b M1 H1 q m tx => ?_⟩
  cases b with
  | true =>
    rw [if_pos rfl]
    refine ⟨fun σ2 H2 => ∃ ρ2 M2, SR X.K Φ ρ2 M2 σ2 H2 ∧ TX M H M2 H2 ∧ ∃ n', n' < n ∧ Pv n' ρ2 M2.M, fun σ2 H2 ⟨ρ2, M2, S2, t2, n', hn, p2⟩ => ⟨n', hn, ρ2, M2, S2, t2, p2⟩, ?_⟩
    have t5 := t'.trans tx
    exact ⟨ρ', M1, _, S'.step tx m, q.1 rfl, ⟨fun ρ5 M5 σ5 H5 p5 S5 t6 => ⟨ρ5, M5, S5, t5.trans t6, p5⟩, k.rt.tx t5, fun ρ5 M5 σ5 H5 p5 S5 t6 => k.nx _ _ _ _ p5 S5 (t5.trans t6), fun ρ5 M5 σ5 H5 p5 S5 t6 => ⟨ρ5, M5, S5, t5.trans t6, p5⟩⟩⟩
  | false =>
    rw [if_neg Bool.false_ne_true]
    exact k.nx _ _ _ _ (q.2 rfl) (S'.step tx m) (t'.trans tx)
end
end BN

/-! D layer, part 5: comprehensions -/
namespace BN
open PySem PySem.Spec PyProof.Rows L2
/-- the target of a comprehension: a name, several names -/
inductive CT where
  | one (i : Nat)
  | tup (is : List Nat)
def CT.slots : CT → List Nat
  | .one i => [i]
  | .tup is => is
def cgV (K : PySem.W.Frag) : CT → TG
  | .one i => gName i
  | .tup is => gTup K is.length (VGs is)
def cgD : CT → PyData → DSt → (DSt → Prop) → Prop
  | .one i, x, ρ, Q => Q (ρ.set i (some (.d x)))
  | .tup is, .tuple ds, ρ, Q => ds.length = is.length ∧ Q (setL ρ is ds)
  | .tup _, _, _, _ => False
abbrev DC (X : Cx) (tg : Expr) (c : CT) : Prop := PG X tg (cgV X.K c)
theorem cg_ok {K : PySem.W.Frag} {Φ : Ph} {W : Wd} {H : Hp} {c : CT} {v : V} {x : PyData} {ρ : DSt} {σ : St} {Q : St → Hp → Prop} {Q' : DSt → Prop} (h : Rp K W H v x) (S : SR K Φ ρ W σ H) (q : cgD c x ρ Q')
    (k : ∀ ρ' σ', Q' ρ' → SR K Φ ρ' W σ' H → (∀ js, (∀ i ∈ c.slots, i ∈ js) → wipe σ' js = wipe σ js) → Q σ' H) : cgV K c v σ H Q := by
  cases c with
  | one i => exact k _ _ q (S.set i (x := .d x) h) fun js hj => vgs_ok.wipe_set (hj i (List.mem_singleton.mpr rfl))
  | tup is =>
    cases x with
    | tuple ds =>
      obtain ⟨p, vs, rfl, s, r⟩ := Rp.tupI h
      exact ⟨p, vs, rfl, s, r.length.trans q.1, vgs_ok is r q.1 S fun σ' S' w => k _ _ q.2 S' w⟩
    | _ => exact False.elim q
def wipeD (ρ : DSt) : List Nat → DSt
  | [] => ρ
  | i :: is => (wipeD ρ is).set i none
theorem wipe_sr {K : PySem.W.Frag} {Φ : Ph} {W : Wd} {H : Hp} {ρ : DSt} {σ : St} (S : SR K Φ ρ W σ H) : ∀ is : List Nat, SR K Φ (wipeD ρ is) W (wipe σ is) H
  | [] => S
  | i :: is => (wipe_sr S is).unset i
theorem wipe_at {σ : St} : ∀ (js : List Nat) (i : Nat), (wipe σ js)[i]? = if i ∈ js then σ[i]?.map (fun _ => none) else σ[i]?
  | [], i => by simp [wipe]
  | j :: js, i => by
    unfold wipe
    have ih := wipe_at (σ := σ) js i
    by_cases e : j = i
    · subst e
      rw [if_pos List.mem_cons_self, List.getElem?_set]
      simp only [if_true]
      have hl := wipe_length σ js
      by_cases h : j < σ.length
      · rw [if_pos (by rw [hl]; exact h), List.getElem?_eq_getElem h]
        rfl
      · rw [if_neg (by rw [hl]; exact h), List.getElem?_eq_none (by omega)]
        rfl
    · rw [List.getElem?_set_ne e, ih]
      by_cases h : i ∈ js
      · rw [if_pos h, if_pos (List.mem_cons_of_mem _ h)]
      · rw [if_neg h, if_neg (fun z => (List.mem_cons.mp z).elim (fun q => e q.symm) h)]
theorem wipe_wipe (σ : St) (js : List Nat) : wipe (wipe σ js) js = wipe σ js := by
  refine List.ext_getElem? fun i => ?_
  rw [wipe_at, wipe_at]
  by_cases h : i ∈ js
  · rw [if_pos h, if_pos h]
    cases σ[i]? <;> rfl
  · rw [if_neg h]
/-- a clause's tests -/
abbrev DTs (Φ : Ph) (X : Cx) (ifs : List Expr) (t : DTT) : Prop := PTs X ifs (LT X.K Φ t)
def dYes : DTT := fun _ M Q => Q true M
theorem pts_mono {X : Cx} {ifs : List Expr} {t t' : TT} (h : PTs X ifs t) (w : ∀ σ H Q, t' σ H Q → t σ H Q) : PTs X ifs t' := ⟨fun pins s σ H Q I q => h.run pins s σ H Q I (w _ _ _ q)⟩
theorem dts_nil {Φ : Ph} {X : Cx} : DTs Φ X [] dYes := pts_mono pts_nil fun σ H Q ⟨ρ, M, Q', S, h, k⟩ => k _ _ _ h S.mem TX.rfl'
theorem dts_one {Φ : Ph} {X : Cx} {c : Expr} {t : DTT} (h : DT Φ X c t) : DTs Φ X [c] t := pts_one h
/-- the turns of a comprehension -/
def cTurn (ct : CT) (js : List Nat) (tt : DTT) (te : DTE) (xs : List PyData) (ρ : DSt) (Pv : Nat → List PyData → DM → Prop) : Prop :=
  ∀ (i : Nat) (x : PyData) acc M, xs[i]? = some x → Pv i acc M → cgD ct x (wipeD ρ js) fun ρ2 => tt ρ2 M fun b M3 =>
    (b = true → te ρ2 M3 fun y M4 => match y with
      | .d z => acc.length < 1000 ∧ Pv (i + 1) (acc ++ [z]) M4
      | _ => False) ∧ (b = false → Pv (i + 1) acc M3)
def dLc (ct : CT) (js : List Nat) (src : DTI) (tt : DTT) (te : DTE) : DTE := fun ρ M Q => src ρ M fun xs M1 => ∃ Pv : Nat → List PyData → DM → Prop, Pv 0 [] M1 ∧ cTurn ct js tt te xs ρ Pv ∧
  ∀ acc M, Pv xs.length acc M → Q (.d (.list acc)) M
def dLcM (ct : CT) (js : List Nat) (src : DTI) (tt : DTT) (te : DTE) : DTE := fun ρ M Q => src ρ M fun xs M1 => ∃ Pv : Nat → List PyData → DM → Prop, Pv 0 [] M1 ∧ cTurn ct js tt te xs ρ Pv ∧
  ∀ acc M, Pv xs.length acc M → ∀ p, M p = none → Q (.ref p) (put M p (.lst acc))
/-- a list that is not told of grows -/
theorem TX.grow {W : Wd} {H : Hp} {p : Addr} {vs ws : List V} (hp : H p = some (.lst vs)) (hf : ¬ W.F p) {W0 : Wd} {H0 : Hp} (t : TX W0 H0 W H) (h0 : H0 p = none) : TX W0 H0 W (upd H p (.lst ws)) :=
  ⟨fun a xs h => by rw [upd_ne (ne_of_none h h0)]; exact t.tup a xs h, fun a o u h => by rw [upd_ne (ne_of_none h h0)]; exact t.frz a o u h,
    fun a xs h n => by rw [upd_ne (ne_of_none h h0)]; exact t.lst a xs h n, fun a xs f h => by rw [upd_ne (ne_of_none h h0)]; exact t.val a xs f h, t.sub⟩
section
variable {K : PySem.W.Frag} {W W2 : Wd} {H : Hp}
mutual
theorem Rp.chg (f : ∀ a, W.F a → W2.F a) : ∀ {v : V} {x : PyData}, Rp K W H v x → Rp K W2 H v x
  | _, _, .non => .non
  | _, _, .bl b => .bl b
  | _, _, .int i => .int i
  | _, _, .str x => .str x
  | _, _, .lst h r => .lst ⟨h.1, f _ h.2⟩ (RpL.chg f r)
  | _, _, .tup h r => .tup h (RpL.chg f r)
theorem RpL.chg (f : ∀ a, W.F a → W2.F a) : ∀ {vs : List V} {xs : List PyData}, RpL K W H vs xs → RpL K W2 H vs xs
  | _, _, .nil => .nil
  | _, _, .cons h r => .cons (Rp.chg f h) (RpL.chg f r)
end
end
theorem RpL.grow {K : PySem.W.Frag} {W : Wd} {H : Hp} {p : Addr} {vs ws us : List V} {xs : List PyData} (hp : H p = some (.lst vs)) (hf : ¬ W.F p) (r : RpL K W H us xs) : RpL K W (upd H p (.lst ws)) us xs :=
  RpL.chg (W := (W.put p (.lst [])).put p (.lst [])) (W2 := W) (fun _ h => h) ((RpL.chg (W := W) (W2 := W.put p (.lst [])) (fun _ h => h) r).tx (TX.write (W := W.put p (.lst [])) (ds := []) (es := []) hp put_same hf))
theorem MR.grow {K : PySem.W.Frag} {W : Wd} {H : Hp} {p : Addr} {vs ws : List V} (m : MR K W H) (hp : H p = some (.lst vs)) (hf : ¬ W.F p) (hn : W.M p = none) : MR K W (upd H p (.lst ws)) := by
  refine ⟨fun a u e => ?_, m.dj, fun a f => ?_⟩
  · have ne : a ≠ p := fun z => by subst z; rw [hn] at e; cases e
    cases u with
    | lst ds =>
      obtain ⟨us, q, r⟩ := m.lst e
      exact ⟨us, by rw [upd_ne ne]; exact q, r.grow hp hf⟩
    | ins C dx fs =>
      have q : H a = some (.ins C dx fs) := m.ok a _ e
      show upd H p _ a = some (.ins C dx fs)
      rw [upd_ne ne]; exact q
  · have ne : a ≠ p := fun z => hf (by rw [← z]; exact f)
    obtain ⟨ys, h⟩ := m.dom a f
    exact ⟨ys, by rw [upd_ne ne]; exact h⟩
/-- what a comprehension's list is at the end: W told of it neither way -/
structure CEnd (K : PySem.W.Frag) (W0 : Wd) (H0 : Hp) (W : Wd) (H : Hp) (p : Addr) (acc : List PyData) (accV : List V) : Prop where
  h : H p = some (.lst accV)
  nf : ¬ W.F p
  nm : W.M p = none
  r : RpL K W H accV acc
  m : MR K W H
  t : TX W0 H0 W H
  fr : H0 p = none
section
variable {Φ : Ph} {K : PySem.W.Frag}
theorem lc_ok {ct : CT} {js : List Nat} {src : DTI} {tt : DTT} {te : DTE} {σ : St} {H : Hp} {Q : VK} {ρ : DSt} {W : Wd} {G : List PyData → DM → Prop} (hj : ∀ i ∈ ct.slots, i ∈ js) (S : SR K Φ ρ W σ H)
    (h : src ρ W.M fun xs M1 => ∃ Pv : Nat → List PyData → DM → Prop, Pv 0 [] M1 ∧ cTurn ct js tt te xs ρ Pv ∧ ∀ acc M, Pv xs.length acc M → G acc M)
    (k : ∀ acc W1 H1 (W' : Wd) H' D accV, G acc W'.M → TX W H W1 H1 → CEnd K W1 H1 W' H' D acc accV → Q (.ref D) H') :
    tLc (LI K Φ src) (cgV K ct) (LT K Φ tt) (LE K Φ te) js σ H Q := by
  refine ⟨ρ, W, _, S, h, fun xs W1 H1 J q m tx jok D hD => ?_⟩
  obtain ⟨Pv, p0, st, fin⟩ := q
  refine ⟨fun i n H' => n = xs.length - i ∧ i ≤ xs.length ∧ ∃ acc accV W', Pv i acc (Wd.M W') ∧ CEnd K W1 H1 W' H' D acc accV,
    ⟨xs.length, rfl, Nat.zero_le _, [], [], W1, p0, ⟨upd_same, m.noF hD, m.free hD, .nil, m.newT hD, TX.newT hD, hD⟩⟩, ?_⟩
  rintro i n H' ⟨rfl, hi, acc, accV, W', p', ce⟩
  obtain ⟨hD', nf, nd, ra, m', t', hfr⟩ := ce
  have nm : NotMut W'.M D := fun ds e => by rw [nd] at e; cases e
  obtain ⟨j1, j2⟩ := jok W' H' t' m' i
  by_cases hl : i < xs.length
  · obtain ⟨go, yld⟩ := j1 hl
    refine .inr ⟨go, fun H2 => ∃ acc accV W', Pv (i + 1) acc (Wd.M W') ∧ CEnd K W1 H1 W' H2 D acc accV, fun H2 r => ⟨xs.length - (i + 1), by omega, rfl, hl, r⟩, fun v H3 y => ?_⟩
    obtain ⟨x, ex, rx, tx3, m3⟩ := yld v H3 y
    have keep : ∀ {W6 : Wd} {H6 : Hp}, TX W' H' W6 H6 → MR K W6 H6 → CEnd K W1 H1 W6 H6 D acc accV := fun {W6 H6} t6 m6 => by
      obtain ⟨h6, n6, f6⟩ := t6.lst D accV hD' nm
      refine ⟨h6, fun z => nf (f6 z), ?_, ra.tx t6, m6, t'.trans t6, hfr⟩
      cases e : W6.M D with
      | none => rfl
      | some o =>
        cases o with
        | lst ds => exact absurd e (n6 ds)
        | ins C dx fs =>
          have z : H6 D = some (.ins C dx fs) := m6.ok D _ e
          rw [h6] at z; cases z
    refine cg_ok (Φ := Φ) rx (wipe_sr ((S.step tx m).step (t'.trans tx3) m3) js) (st i x acc W'.M ex p') fun ρ4 σ4 q4 S4 w4 => ⟨(w4 js hj).trans (wipe_wipe σ js), ρ4, W', _, S4, q4, fun b W5 H5 q5 m5 t5 => ?_⟩
    cases b with
    | true =>
      refine iteT ⟨ρ4, W5, _, S4.step t5 m5, q5.1 rfl, fun y W6 v6 H6 q6 d6 m6 t6 => ?_⟩
      have ce := keep (tx3.trans (t5.trans t6)) m6
      split at q6
      · rename_i z
        refine ⟨accV, ce.h, by rw [ce.r.length, sizeLine_eq]; have := q6.1; omega, acc ++ [z], accV ++ [v6], W6, q6.2, ⟨upd_same, ce.nf, ce.nm, ?_, ce.m.grow ce.h ce.nf ce.nm, ce.t.grow ce.h ce.nf hD, hfr⟩⟩
        exact (ce.r.append (.cons d6 .nil)).grow ce.h ce.nf
      · exact q6.elim
    | false =>
      exact iteF ⟨acc, accV, W5, q5.2 rfl, keep (tx3.trans t5) m5⟩
  · have e : i = xs.length := by omega
    subst e
    exact .inl ⟨j2 rfl, k acc W1 H1 W' H' D accV (fin acc W'.M p') tx ⟨hD', nf, nd, ra, m', t', hfr⟩⟩
end
/-- from now on the list stays -/
theorem CEnd.fix {K : PySem.W.Frag} {W0 W : Wd} {H0 H : Hp} {p : Addr} {acc : List PyData} {accV : List V} (c : CEnd K W0 H0 W H p acc accV) : TX W0 H0 (W.fix p) H ∧ MR K (W.fix p) H ∧ Rp K (W.fix p) H (.ref p) (.list acc) := by
  have nm : NotMut W.M p := fun ds e => by rw [c.nm] at e; cases e
  refine ⟨⟨c.t.tup, c.t.frz, fun a xs h n => ?_, c.t.val, fun a f => .inr (c.t.sub a f)⟩, ⟨fun a u e => ?_, fun a f => ?_, fun a f => ?_⟩, .lst ⟨c.h, .inl rfl⟩ (RpL.chg (W := W) (W2 := W.fix p) (fun _ h => .inr h) c.r)⟩
  · obtain ⟨h1, n1, f1⟩ := c.t.lst a xs h n
    exact ⟨h1, n1, fun z => f1 (z.resolve_left (ne_of_none h c.fr))⟩
  · have q := c.m.ok a u e
    cases u with
    | lst ds => obtain ⟨vs, h, r⟩ := q; exact ⟨vs, h, RpL.chg (W := W) (W2 := W.fix p) (fun _ h => .inr h) r⟩
    | ins C dx fs => exact q
  · rcases f with rfl | f
    · exact nm
    · exact c.m.dj a f
  · rcases f with rfl | f
    · exact ⟨_, c.h⟩
    · exact c.m.dom a f
/-- from now on the list may change -/
theorem CEnd.mut {K : PySem.W.Frag} {W0 W : Wd} {H0 H : Hp} {p : Addr} {acc : List PyData} {accV : List V} (c : CEnd K W0 H0 W H p acc accV) : TX W0 H0 (W.put p (.lst acc)) H ∧ MR K (W.put p (.lst acc)) H := by
  refine ⟨⟨c.t.tup, c.t.frz, fun a xs h n => ?_, c.t.val, c.t.sub⟩, ⟨fun a u e => ?_, fun a f => ?_, c.m.dom⟩⟩
  · obtain ⟨h1, n1, f1⟩ := c.t.lst a xs h n
    exact ⟨h1, fun ds e => n1 ds ((put_ne (ne_of_none h c.fr)).symm.trans e), f1⟩
  · by_cases h : a = p
    · subst h
      cases put_same.symm.trans e
      exact ⟨_, c.h, RpL.chg (W := W) (W2 := W.put _ (.lst acc)) (fun _ h => h) c.r⟩
    · have q := c.m.ok a u ((put_ne h).symm.trans e)
      cases u with
      | lst ds => obtain ⟨vs, h, r⟩ := q; exact ⟨vs, h, RpL.chg (W := W) (W2 := W.put p (.lst acc)) (fun _ h => h) r⟩
      | ins C dx fs => exact q
  · have ne : a ≠ p := fun z => c.nf (by rw [← z]; exact f)
    exact fun ds e => c.m.dj a f ds ((put_ne ne).symm.trans e)
section
variable {Φ : Ph} {X : Cx} {elt tg iter : Expr} {ifs : List Expr} {scope : Scope} {own : List (Str × Nat)} {pos : Pos} {src : DTI} {ct : CT} {tt : DTT} {te : DTE}
theorem lcV_ok {K : PySem.W.Frag} {js : List Nat} (hj : ∀ i ∈ ct.slots, i ∈ js) : ∀ σ H Q, LE K Φ (dLc ct js src tt te) σ H Q → tLc (LI K Φ src) (cgV K ct) (LT K Φ tt) (LE K Φ te) js σ H Q := by
  intro σ H Q ⟨ρ, W, Q', S, h, k⟩
  refine lc_ok hj S h fun acc W1 H1 W' H' D accV q tx ce => ?_
  obtain ⟨t, m, r⟩ := ce.fix
  exact k _ (W'.fix D) _ _ q r m (tx.trans t)
theorem lcM_ok {K : PySem.W.Frag} {js : List Nat} (hj : ∀ i ∈ ct.slots, i ∈ js) : ∀ σ H Q, LE K Φ (dLcM ct js src tt te) σ H Q → tLc (LI K Φ src) (cgV K ct) (LT K Φ tt) (LE K Φ te) js σ H Q := by
  intro σ H Q ⟨ρ, W, Q', S, h, k⟩
  refine lc_ok (G := fun acc M => ∀ p, M p = none → Q' (.ref p) (put M p (.lst acc))) hj S h fun acc W1 H1 W' H' D accV q tx ce => ?_
  obtain ⟨t, m⟩ := ce.mut
  exact k _ (W'.put D (.lst acc)) _ _ (q D ce.nm) rfl m (tx.trans t)
abbrev inBlk (X : Cx) (scope : Scope) (P : Cx → Prop) : Prop := ∀ (s : Shared) (H : Hp) (C : Addr) (cl : List (Str × Addr)) (fp : List Addr), P (X.blk s H scope (compEnvC scope cl C X.env) fp)
theorem dlc (hc : X.calm = true) (hN : X.N.Nodup) (hi : DI Φ X tg iter src) (ok : BlkOk X.N X.env.scope scope own) (hg : inBlk X scope fun Y => DC Y tg ct) (ht : inBlk X scope fun Y => DTs Φ Y ifs tt) (he : inBlk X scope fun Y => DE Φ Y elt te)
    (hj : ∀ i ∈ ct.slots, i ∈ own.map (·.2) := by decide) (hs : ∀ x, foldedSetIterable iter X.env x = pure x := by intro _; rfl) : DE Φ X (.ListComp elt [⟨tg, iter, ifs, 0⟩] scope pos) (dLc ct (own.map (·.2)) src tt te) :=
  pe_mono (pe_lc hc hN hi ok hg ht he hs) (lcV_ok hj)
theorem dlcM (hc : X.calm = true) (hN : X.N.Nodup) (hi : DI Φ X tg iter src) (ok : BlkOk X.N X.env.scope scope own) (hg : inBlk X scope fun Y => DC Y tg ct) (ht : inBlk X scope fun Y => DTs Φ Y ifs tt) (he : inBlk X scope fun Y => DE Φ Y elt te)
    (hj : ∀ i ∈ ct.slots, i ∈ own.map (·.2) := by decide) (hs : ∀ x, foldedSetIterable iter X.env x = pure x := by intro _; rfl) : DE Φ X (.ListComp elt [⟨tg, iter, ifs, 0⟩] scope pos) (dLcM ct (own.map (·.2)) src tt te) :=
  pe_mono (pe_lc hc hN hi ok hg ht he hs) (lcM_ok hj)
theorem asgLc_ok {K : PySem.W.Frag} {i : Nat} {t : TE} {u : DTE} (w : ∀ σ H Q, LE K Φ u σ H Q → t σ H Q) : ∀ D σ H, LS K Φ (dAsg u (gNm i)) D σ H → tAsg t (gName i) D σ H :=
  fun D σ H ⟨ρ, W, D', S, h, k⟩ => w σ H _ ⟨ρ, W, _, S, h, fun x W1 v H1 q dv m tx => k.nx _ _ _ _ q ((S.step tx m).set i dv) tx⟩
/-- y = [..] -/
theorem ds_setLc {i : Nat} {y : Str} {py spos : Pos} (hc : X.calm = true) (hN : X.N.Nodup) (hi : DI Φ X tg iter src) (ok : BlkOk X.N X.env.scope scope own) (hg : inBlk X scope fun Y => DC Y tg ct) (ht : inBlk X scope fun Y => DTs Φ Y ifs tt) (he : inBlk X scope fun Y => DE Φ Y elt te)
    (hsw : swapsWith (.ListComp elt [⟨tg, iter, ifs, 0⟩] scope pos) (some (.Name y py)) spos.line X.env = pure true) (hy : X.N[i]? = some y := by rfl) (hyl : X.env.scope.names.lookup y = some .local := by rfl)
    (hj : ∀ i ∈ ct.slots, i ∈ own.map (·.2) := by decide) (hs : ∀ x, foldedSetIterable iter X.env x = pure x := by intro _; rfl) : DS Φ X (.Assign [.Name y py] (.ListComp elt [⟨tg, iter, ifs, 0⟩] scope pos) spos) (dAsg (dLc ct (own.map (·.2)) src tt te) (gNm i)) :=
  ps_mono (ps_setLc hc hN hy hyl hsw hi ok hg ht he hs) (asgLc_ok (lcV_ok hj))
theorem ds_setLcM {i : Nat} {y : Str} {py spos : Pos} (hc : X.calm = true) (hN : X.N.Nodup) (hi : DI Φ X tg iter src) (ok : BlkOk X.N X.env.scope scope own) (hg : inBlk X scope fun Y => DC Y tg ct) (ht : inBlk X scope fun Y => DTs Φ Y ifs tt) (he : inBlk X scope fun Y => DE Φ Y elt te)
    (hsw : swapsWith (.ListComp elt [⟨tg, iter, ifs, 0⟩] scope pos) (some (.Name y py)) spos.line X.env = pure true) (hy : X.N[i]? = some y := by rfl) (hyl : X.env.scope.names.lookup y = some .local := by rfl)
    (hj : ∀ i ∈ ct.slots, i ∈ own.map (·.2) := by decide) (hs : ∀ x, foldedSetIterable iter X.env x = pure x := by intro _; rfl) : DS Φ X (.Assign [.Name y py] (.ListComp elt [⟨tg, iter, ifs, 0⟩] scope pos) spos) (dAsg (dLcM ct (own.map (·.2)) src tt te) (gNm i)) :=
  ps_mono (ps_setLc hc hN hy hyl hsw hi ok hg ht he hs) (asgLc_ok (lcM_ok hj))
theorem dc_one {i : Nat} {x : Str} {p : Pos} (hN : X.N.Nodup) (hi : X.N[i]? = some x := by rfl) (hx : Loc X.env.scope x := by first | exact .inl rfl | exact .inr rfl) (hf : X.fn x = true ∨ X.env.scope.names.lookup x = some .local := by first | exact .inl rfl | exact .inr rfl) : DC X (.Name x p) (.one i) := pg_name hN hi hx hf
theorem dc_tup {is : List Nat} {es : List Expr} {k : Nat} {p : Pos} (hc : X.calm = true) (h : PGs X es (VGs is)) (hn : (assignEach es X.env).length = is.length := by rfl) (hst : (assignEach es X.env).findIdx? (·.1) = none := by rfl) : DC X (.Tuple es k p) (.tup is) := pg_tup hc h hn hst
end

/-! ### methods of lists that may change -/
section
variable {Φ : Ph} {X : Cx} {o e e2 : Expr} {apos cpos : Pos} {to ta tb : DTE}
abbrev Few (X : Cx) (cpos : Pos) (es : List Expr) : Prop := ((backTo cpos (starEach es X.env)).all (fun x => !x.1) && (backToKw cpos (keywordEach [] X.env)).all (fun x => x.1.isSome)
      && decide (es.length + ([] : List Keyword).length + (if ([] : List Keyword).isEmpty then 0 else 1) < 30)) = true
def dApp (to ta : DTE) : DTE := fun ρ M Q => to ρ M fun x M1 => match x with
  | .ref l => (∃ ds, M1 l = some (.lst ds)) ∧ ta ρ M1 fun y M2 => match y with
    | .d z => ∃ ds, M2 l = some (.lst ds) ∧ ds.length < 1000 ∧ Q (.d .none) (put M2 l (.lst (ds ++ [z])))
    | _ => False
  | _ => False
theorem dapp (ho : DE Φ X o to) (ha : DE Φ X e ta) (hbase : attributeBase o "append" X.env (eval o X.env) = eval o X.env := by rfl) (hfew : Few X cpos [e] := by rfl) (hline : (apos.endLine == cpos.line) = true := by rfl)
    (hs : starEach [e] X.env = (false, eval e X.env) :: starEach [] X.env := by rfl) (hplain : (backTo cpos (starEach [] X.env)).any (·.1) = false := by rfl) : DE Φ X (.Call (.Attribute o "append" apos) [e] [] cpos) (dApp to ta) := by
  refine pe_mono (pe_bm PySem.F.plainAttrs_list PySem.F.slot_list_append PySem.F.type_list_append mt_append ho (pa_cons ha pa_nil hs) hbase hfew hline hs hplain) fun σ H Q ⟨ρ, W, Q', S, h, k⟩ => ⟨ρ, W, _, S, h, fun x W1 v H1 q dv m tx => ?_⟩
  split at q
  · rename_i l
    obtain ⟨⟨ds, e1⟩, q⟩ := q
    cases (show v = .ref l from dv)
    obtain ⟨vs, hv, r⟩ := m.lst e1
    refine ⟨.inl ⟨rfl, _, SqL.of hv⟩, ρ, W1, _, S.step tx m, q, fun y W2 u H2 q2 du m2 tx2 => ?_⟩
    split at q2
    · rename_i z
      obtain ⟨es, e2, hl, q2⟩ := q2
      obtain ⟨us, hu, r2⟩ := m2.lst e2
      have t3 := TX.write (ws := us ++ [u]) (es := es ++ [z]) hu e2 (m2.noFm e2)
      exact ⟨l, us, u, rfl, rfl, hu, by rw [r2.length, sizeLine_eq]; omega, k _ (W2.put l (.lst (es ++ [z]))) _ _ q2 Rp.non (m2.write hu e2 (r2.append (.cons du .nil))) (tx.trans (tx2.trans t3))⟩
    · exact q2.elim
  · exact q.elim
def dExt (to ta : DTE) : DTE := fun ρ M Q => to ρ M fun x M1 => match x with
  | .ref l => (∃ ds, M1 l = some (.lst ds)) ∧ ta ρ M1 fun y M2 => match y with
    | .d (.list zs) => ∃ ds, M2 l = some (.lst ds) ∧ ds.length + zs.length ≤ 1000 ∧ Q (.d .none) (put M2 l (.lst (ds ++ zs)))
    | _ => False
  | _ => False
theorem dext (ho : DE Φ X o to) (ha : DE Φ X e ta) (hbase : attributeBase o "extend" X.env (eval o X.env) = eval o X.env := by rfl) (hfew : Few X cpos [e] := by rfl) (hline : (apos.endLine == cpos.line) = true := by rfl)
    (hs : starEach [e] X.env = (false, eval e X.env) :: starEach [] X.env := by rfl) (hplain : (backTo cpos (starEach [] X.env)).any (·.1) = false := by rfl) : DE Φ X (.Call (.Attribute o "extend" apos) [e] [] cpos) (dExt to ta) := by
  refine pe_mono (pe_bm PySem.F.plainAttrs_list PySem.F.slot_list_extend PySem.F.type_list_extend mt_extend ho (pa_cons ha pa_nil hs) hbase hfew hline hs hplain) fun σ H Q ⟨ρ, W, Q', S, h, k⟩ => ⟨ρ, W, _, S, h, fun x W1 v H1 q dv m tx => ?_⟩
  split at q
  · rename_i l
    obtain ⟨⟨ds, e1⟩, q⟩ := q
    cases (show v = .ref l from dv)
    obtain ⟨vs, hv, r⟩ := m.lst e1
    refine ⟨.inl ⟨rfl, _, SqL.of hv⟩, ρ, W1, _, S.step tx m, q, fun y W2 u H2 q2 du m2 tx2 => ?_⟩
    split at q2
    · rename_i zs
      obtain ⟨es, e2, hl, q2⟩ := q2
      obtain ⟨us, hu, r2⟩ := m2.lst e2
      cases (show Rp X.K W2 H2 u (.list zs) from du) with
      | @lst b zv _ s r3 =>
        have l2 := r2.length
        have l3 := r3.length
        have t3 := TX.write (ws := us ++ zv) (es := es ++ zs) hu e2 (m2.noFm e2)
        exact ⟨l, _, us, _, rfl, rfl, hu, s.1, by rw [sizeLine_eq]; omega, k _ (W2.put l (.lst (es ++ zs))) _ _ q2 Rp.non (m2.write hu e2 (r2.append r3)) (tx.trans (tx2.trans t3))⟩
    · exact q2.elim
  · exact q.elim
def dPop (to : DTE) : DTE := fun ρ M Q => to ρ M fun x M1 => match x with
  | .ref l => ∃ ds z, M1 l = some (.lst ds) ∧ ds[ds.length - 1]? = some z ∧ Q (.d z) (put M1 l (.lst ds.dropLast))
  | _ => False
theorem dpop (ho : DE Φ X o to) (hbase : attributeBase o "pop" X.env (eval o X.env) = eval o X.env := by rfl) (hline : (apos.endLine == cpos.line) = true := by rfl) : DE Φ X (.Call (.Attribute o "pop" apos) [] [] cpos) (dPop to) := by
  refine pe_mono (pe_bm0 PySem.F.plainAttrs_list PySem.F.slot_list_pop PySem.F.type_list_pop mt_pop ho hbase hline) fun σ H Q ⟨ρ, W, Q', S, h, k⟩ => ⟨ρ, W, _, S, h, fun x W1 v H1 q dv m tx => ?_⟩
  split at q
  · rename_i l
    obtain ⟨ds, z, e1, ez, q⟩ := q
    cases (show v = .ref l from dv)
    obtain ⟨vs, hv, r⟩ := m.lst e1
    obtain ⟨y, ey, ry⟩ := r.get' ez
    have t3 := TX.write (ws := vs.dropLast) (es := ds.dropLast) hv e1 (m.noFm e1)
    exact ⟨.inl ⟨rfl, _, SqL.of hv⟩, l, vs, y, rfl, rfl, hv, by rw [r.length]; exact ey, k _ (W1.put l (.lst ds.dropLast)) _ _ q (ry.tx t3) (m.write hv e1 r.dropLast) (tx.trans t3)⟩
  · exact q.elim
def dPopAt (to ta : DTE) : DTE := fun ρ M Q => to ρ M fun x M1 => match x with
  | .ref l => (∃ ds, M1 l = some (.lst ds)) ∧ ta ρ M1 fun y M2 => match y with
    | .d (.int i) => ∃ ds k z, M2 l = some (.lst ds) ∧ (0 ≤ i ∧ i < 1000) ∧ i = (k : Nat) ∧ ds[k]? = some z ∧ Q (.d z) (put M2 l (.lst (ds.eraseIdx k)))
    | _ => False
  | _ => False
theorem seq_nat {n k : Nat} (h : k < n) : seqIndex? (k : Int) n = some k := by
  have := PySem.StrLaws.seqIndex_nonneg (i := (k : Int)) (n := n) (by omega) (by omega)
  simpa using this
theorem dpopAt (ho : DE Φ X o to) (ha : DE Φ X e ta) (hbase : attributeBase o "pop" X.env (eval o X.env) = eval o X.env := by rfl) (hfew : Few X cpos [e] := by rfl) (hline : (apos.endLine == cpos.line) = true := by rfl)
    (hs : starEach [e] X.env = (false, eval e X.env) :: starEach [] X.env := by rfl) (hplain : (backTo cpos (starEach [] X.env)).any (·.1) = false := by rfl) : DE Φ X (.Call (.Attribute o "pop" apos) [e] [] cpos) (dPopAt to ta) := by
  refine pe_mono (pe_bm PySem.F.plainAttrs_list PySem.F.slot_list_pop PySem.F.type_list_pop mt_popAt ho (pa_cons ha pa_nil hs) hbase hfew hline hs hplain) fun σ H Q ⟨ρ, W, Q', S, h, k⟩ => ⟨ρ, W, _, S, h, fun x W1 v H1 q dv m tx => ?_⟩
  split at q
  · rename_i l
    obtain ⟨⟨ds, e1⟩, q⟩ := q
    cases (show v = .ref l from dv)
    obtain ⟨vs, hv, r⟩ := m.lst e1
    refine ⟨.inl ⟨rfl, _, SqL.of hv⟩, ρ, W1, _, S.step tx m, q, fun y W2 u H2 q2 du m2 tx2 => ?_⟩
    split at q2
    · rename_i i
      obtain ⟨es, j, z, e2, hi, rfl, ez, q2⟩ := q2
      cases Rp.intI du
      obtain ⟨us, hu, r2⟩ := m2.lst e2
      obtain ⟨y, ey, ry⟩ := r2.get' ez
      have t3 := TX.write (ws := us.eraseIdx j) (es := es.eraseIdx j) hu e2 (m2.noFm e2)
      have hj : j < us.length := (List.getElem?_eq_some_iff.mp ey).1
      exact ⟨l, us, _, j, y, rfl, rfl, hu, by omega, by omega, seq_nat hj, ey, k _ (W2.put l (.lst (es.eraseIdx j))) _ _ q2 (ry.tx t3) (m2.write hu e2 (r2.eraseIdx j)) (tx.trans (tx2.trans t3))⟩
    · exact q2.elim
  · exact q.elim
def dIns (to ta tb : DTE) : DTE := fun ρ M Q => to ρ M fun x M1 => match x with
  | .ref l => (∃ ds, M1 l = some (.lst ds)) ∧ ta ρ M1 fun y M2 => tb ρ M2 fun z M3 => match y, z with
    | .d (.int i), .d z => ∃ ds, M3 l = some (.lst ds) ∧ (0 ≤ i ∧ i < 1000) ∧ ds.length < 1000 ∧ Q (.d .none) (put M3 l (.lst (ds.take i.toNat ++ [z] ++ ds.drop i.toNat)))
    | _, _ => False
  | _ => False
theorem dins (ho : DE Φ X o to) (ha : DE Φ X e ta) (hb : DE Φ X e2 tb) (hbase : attributeBase o "insert" X.env (eval o X.env) = eval o X.env := by rfl) (hfew : Few X cpos [e, e2] := by rfl) (hline : (apos.endLine == cpos.line) = true := by rfl)
    (hs : starEach [e, e2] X.env = (false, eval e X.env) :: starEach [e2] X.env := by rfl) (hs2 : starEach [e2] X.env = (false, eval e2 X.env) :: starEach [] X.env := by rfl) (hplain : (backTo cpos (starEach [e2] X.env)).any (·.1) = false := by rfl) :
    DE Φ X (.Call (.Attribute o "insert" apos) [e, e2] [] cpos) (dIns to ta tb) := by
  refine pe_mono (pe_bm PySem.F.plainAttrs_list PySem.F.slot_list_insert PySem.F.type_list_insert mt_insert ho (pa_cons ha (pa_cons hb pa_nil hs2) hs) hbase hfew hline hs hplain) fun σ H Q ⟨ρ, W, Q', S, h, k⟩ => ⟨ρ, W, _, S, h, fun x W1 v H1 q dv m tx => ?_⟩
  split at q
  · rename_i l
    obtain ⟨⟨ds, e1⟩, q⟩ := q
    cases (show v = .ref l from dv)
    obtain ⟨vs, hv, r⟩ := m.lst e1
    refine ⟨.inl ⟨rfl, _, SqL.of hv⟩, ρ, W1, _, S.step tx m, q, fun y W2 u H2 q2 du m2 tx2 => ⟨ρ, W2, _, S.step (tx.trans tx2) m2, q2, fun z W3 w H3 q3 dw m3 tx3 => ?_⟩⟩
    split at q3
    · rename_i i z
      obtain ⟨es, e2, hi, hl, q3⟩ := q3
      cases Rp.intI (Rp.tx tx3 du)
      obtain ⟨us, hu, r2⟩ := m3.lst e2
      have l2 := r2.length
      have t3 := TX.write (ws := us.take i.toNat ++ [w] ++ us.drop i.toNat) (es := es.take i.toNat ++ [z] ++ es.drop i.toNat) hu e2 (m3.noFm e2)
      exact ⟨l, us, i, w, rfl, rfl, hu, by rw [sizeLine_eq]; omega, hi.1, by omega, k _ (W3.put l (.lst _)) _ _ q3 Rp.non (m3.write hu e2 (((r2.take _).append (.cons dw .nil)).append (r2.drop _))) (tx.trans (tx2.trans (tx3.trans t3)))⟩
    · exact q3.elim
  · exact q.elim
/-- a list that is to change no more -/
def dFrz (to : DTE) : DTE := fun ρ M Q => to ρ M fun x M1 => match x with
  | .ref l => ∃ ds M2, M1 l = some (.lst ds) ∧ Sub M2 M1 ∧ M2 l = none ∧ Q (.d (.list ds)) M2
  | _ => False
/-- a value may be told as less -/
inductive Fz (M : DM) : D → DM → D → Prop
  | same (x : D) (M2 : DM) (s : Sub M2 M) : Fz M x M2 x
  | lst (l : Addr) (ds : List PyData) (M2 : DM) (h : M l = some (.lst ds)) (s : Sub M2 M) (n : M2 l = none) : Fz M (.ref l) M2 (.d (.list ds))
theorem Fz.go {K : PySem.W.Frag} {W : Wd} {H : Hp} {v : V} {x y : D} {M2 : DM} (f : Fz W.M x M2 y) (dv : DV K W H v x) (m : MR K W H) : ∃ W2 : Wd, W2.M = M2 ∧ DV K W2 H v y ∧ MR K W2 H ∧ TX W H W2 H := by
  cases f with
  | same _ _ s =>
    have t : TX W H ⟨M2, W.F⟩ H := TX.less s (fun _ h => h) fun _ h _ => h
    exact ⟨⟨M2, W.F⟩, rfl, dv.tx t, m.less s (fun _ h => h) fun _ h => .inl h, t⟩
  | lst l ds _ h s n =>
    cases (show v = .ref l from dv)
    obtain ⟨vs, hv, r⟩ := m.lst h
    have nn : ¬ NotMut W.M l := fun z => z _ h
    have t : TX W H ⟨M2, fun a => a = l ∨ W.F a⟩ H := TX.less s (fun _ h => .inr h) fun a f na => f.resolve_left fun z => by subst z; exact nn na
    refine ⟨⟨M2, fun a => a = l ∨ W.F a⟩, rfl, Rp.lst ⟨hv, .inl rfl⟩ (r.tx t), m.less s (fun _ h => .inr h) fun a f => ?_, t⟩
    rcases f with rfl | f
    · exact .inr ⟨fun ds e => (nomatch n.symm.trans e), nn, vs, hv⟩
    · exact .inl f
theorem dfrz (ho : DE Φ X o to) : DE Φ X o (dFrz to) := by
  refine pe_mono ho fun σ H Q ⟨ρ, W, Q', S, h, k⟩ => ⟨ρ, W, _, S, h, fun x W1 v H1 q dv m tx => ?_⟩
  split at q
  · obtain ⟨ds, M2, e, s, n, q⟩ := q
    obtain ⟨W2, rfl, d2, m2, t2⟩ := (Fz.lst _ ds M2 e s n).go dv m
    exact k _ W2 _ _ q d2 m2 (tx.trans t2)
  · exact q.elim
end

/-! ### a def by its body -/
def startD (N : List Str) (ds : List D) : DSt := ds.map some ++ List.replicate (N.length - ds.length) none
theorem start_sr {K : PySem.W.Frag} {Φ : Ph} {N : List Str} {vs : List V} {ds : List D} {W : Wd} {H : Hp} (h : DVL K W H vs ds) (m : MR K W H) (f : Φ.p W H) : SR K Φ (startD N ds) W (start N vs) H := by
  have l := h.length
  refine ⟨by simp [L2.start, startD, l], fun i x e => ?_, m, f⟩
  have hi : i < ds.length := by
    by_cases hi : i < ds.length
    · exact hi
    · unfold startD at e
      rw [List.getElem?_append_right (by simpa using hi), List.getElem?_replicate] at e
      split at e <;> cases e
  unfold startD at e
  rw [List.getElem?_append_left (by simpa using hi), List.getElem?_map] at e
  unfold L2.start
  rw [List.getElem?_append_left (by simp; omega), List.getElem?_map]
  have go : ∀ {vs : List V} {ds : List D}, DVL K W H vs ds → ∀ (i : Nat) (x : D), ds[i]? = some x → ∃ v, vs[i]? = some v ∧ DV K W H v x := by
    intro vs ds h
    induction h with
    | nil => intro i x e; simp at e
    | cons a r ih =>
      intro i x e
      cases i with
      | zero => simp at e; subst e; exact ⟨_, rfl, a⟩
      | succ i => simpa using ih i x (by simpa using e)
  cases e1 : ds[i]? with
  | none => rw [e1] at e; cases e
  | some y =>
    rw [e1] at e
    cases e
    obtain ⟨v, e2, d⟩ := go h i _ e1
    exact ⟨v, by rw [e2]; rfl, d⟩
/-- what is wanted behind a def's body: the value, told as less where that helps -/
def wk (Q : DQ) : DQ := fun x M => ∃ M2 y, Fz M x M2 y ∧ Q y M2
def fnEnds (Q : DQ) : DEnds := { nx := fun _ M => Q (.d .none) M, rt := wk Q }
theorem fn_ends {K : PySem.W.Frag} {Φ : Ph} {W : Wd} {H : Hp} {Q' : DQ} {Q : VK} (k : KE K W H Q' Q) : KS K Φ W H (fnEnds Q') { nx := fun _ H' => Q .non H', rt := Q } :=
  ⟨fun ρ' W' σ' H' q S t => k _ _ _ _ q Rp.non S.mem t, fun x W' v H' q dv m t => by
    obtain ⟨M2, y, f, q⟩ := q
    obtain ⟨W2, rfl, d2, m2, t2⟩ := f.go dv m
    exact k _ W2 _ _ q d2 m2 (t.trans t2), fun _ _ _ _ h => h.elim, fun _ _ _ _ h => h.elim⟩
section
variable {P : Program} {w : World} {K : PySem.W.Frag} {mg : Str → Option Value} {base : Heap} {x qual : Str} {st : Stmt} {f : Addr} {fd : FuncData} {N ps : List Str} {k : Nat} {sp : DSp}
/-- a def that lets no exception out -/
theorem okD (F : Fun K x qual st f fd) (S : FnScope N ps (defScope st)) (len : ∀ ds M Q E, sp ds M Q E → ds.length = ps.length)
    (hbody : ∀ (cdv : Value) (A : Around) (outer : List Env) (s : Shared) (H : Hp) (E : XK), Room k (A.deeper (envOfC qual (defScope st) s.heap.objs.size f cdv)) →
      ∃ t : DTS, DSs Ph.any (cxOf CX0 P w K mg base N qual (defScope st) f cdv A outer s H E).nox (defBody st) t ∧ ∀ ds M Q E', sp ds M Q E' → t (fnEnds Q) (startD N ds) M) : FnOk P w K mg base CX0 (k + 1) f fd ps (toSp K sp) := by
  refine F.ok S (fun vs H Q E h => ?_) fun cdv A outer s H vs Q E hr h => ?_
  · obtain ⟨ds, W, Q', E', dv, m, h, _⟩ := h
    rw [dv.length]
    exact len _ _ _ _ h
  · obtain ⟨ds, W, Q', E', dv, m, h, k1, k2⟩ := h
    obtain ⟨t, ht, hq⟩ := hbody cdv A outer s H E hr
    exact ⟨_, ht, startD N ds, W, _, start_sr dv m trivial, hq _ _ _ _ h, fn_ends k1⟩
/-- a def that may raise -/
theorem okXD (F : Fun K x qual st f fd) (S : FnScope N ps (defScope st)) (len : ∀ ds M Q E, sp ds M Q E → ds.length = ps.length)
    (hbody : ∀ (cdv : Value) (A : Around) (outer : List Env) (s : Shared) (H : Hp) (E : XK) (E' : DX) (Φ : Ph), Room k (A.deeper (envOfC qual (defScope st) s.heap.objs.size f cdv)) → (∀ C (W : Wd) H, E' C W.M → MR K W H → Φ.p W H → E (.ref C) none H) →
      ∃ t : DTS, DSs Φ (cxOf (L2N.CX P w) P w K mg base N qual (defScope st) f cdv A outer s H E) (defBody st) t ∧ ∀ ds M Q, sp ds M Q E' → t (fnEnds Q) (startD N ds) M) : FnOk P w K mg base (L2N.CX P w) (k + 1) f fd ps (toSp K sp) := by
  obtain ⟨oc, od, kV, doc, pm, an, cdv, ct, osl, rfl, lk, hcd⟩ := F.ex
  refine fn_of lk hcd S (fun vs H Q E h => ?_) fun A outer s H vs Q E hr h => ?_
  · obtain ⟨ds, W, Q', E', dv, m, h, _⟩ := h
    rw [dv.length]
    exact len _ _ _ _ h
  · obtain ⟨ds, W, Q', E', dv, m, h, k1, k2⟩ := h
    obtain ⟨t, ht, hq⟩ := hbody cdv A outer s H E E' (Ph.from_ W H) hr fun C W2 H2 e m2 p => k2 C W2 H2 e m2 p
    exact ⟨_, ht, startD N ds, W, _, start_sr dv m TX.rfl', hq _ _ _ h, fn_ends k1⟩
end
end BN

/-! D layer, part 6: zip, enumerate; defs by name -/
namespace BN
open PySem PySem.Spec PyProof.Rows L2
theorem pair_new {K : PySem.W.Frag} {W : Wd} {H : Hp} {p : Addr} {v u : V} {x y : PyData} (m : MR K W H) (hp : H p = none) (hv : Rp K W H v x) (hu : Rp K W H u y) :
    Rp K W (upd H p (.tup [v, u])) (.ref p) (.tuple [x, y]) ∧ TX W H W (upd H p (.tup [v, u])) ∧ MR K W (upd H p (.tup [v, u])) :=
  ⟨.tup (SqT.of upd_same) (.cons (hv.tx (TX.newT hp)) (.cons (hu.tx (TX.newT hp)) .nil)), TX.newT hp, m.newT hp⟩
def zipL (xs ys : List PyData) : List PyData := (xs.zip ys).map fun p => .tuple [p.1, p.2]
theorem zipL_length (xs ys : List PyData) : (zipL xs ys).length = min xs.length ys.length := by simp [zipL]
theorem zipL_get {xs ys : List PyData} {i : Nat} {x y : PyData} (h1 : xs[i]? = some x) (h2 : ys[i]? = some y) : (zipL xs ys)[i]? = some (.tuple [x, y]) := by
  unfold zipL
  rw [List.getElem?_map]
  have : (xs.zip ys)[i]? = some (x, y) := by rw [List.getElem?_zip_eq_some]; exact ⟨h1, h2⟩
  rw [this]
  rfl
theorem jok_zip {K : PySem.W.Frag} {M0 : Wd} {H0 : Hp} {a b : Addr} {vs us : List V} {xs ys : List PyData} (s : LsV M0 H0 a vs) (r : RpL K M0 H0 vs xs) (s2 : LsV M0 H0 b us) (r2 : RpL K M0 H0 us ys) : JOk K (Itz K a b) (zipL xs ys) M0 H0 := fun M H t m i => by
  have s' := s.tx t
  have r' := r.tx t
  have s2' := s2.tx t
  have r2' := r2.tx t
  rw [zipL_length]
  have l1 := r'.length
  have l2 := r2'.length
  refine ⟨fun hi => ?_, fun hi => ⟨vs, us, SqL.of s'.1, SqL.of s2'.1, by omega⟩⟩
  have h1 : i < xs.length := by omega
  have h2 : i < ys.length := by omega
  obtain ⟨v, e, q⟩ := r'.get' (List.getElem?_eq_getElem h1)
  obtain ⟨u, e2, q2⟩ := r2'.get' (List.getElem?_eq_getElem h2)
  refine ⟨⟨vs, us, v, u, SqL.of s'.1, SqL.of s2'.1, e, e2⟩, fun w H' y => ?_⟩
  obtain ⟨T, v1, u1, rfl, hT, rfl, y1, y2⟩ := y
  have z1 := y1 _ (SqL.of s'.1)
  have z2 := y2 _ (SqL.of s2'.1)
  rw [e] at z1; cases z1
  rw [e2] at z2; cases z2
  obtain ⟨p1, p2, p3⟩ := pair_new m hT q q2
  exact ⟨_, zipL_get (List.getElem?_eq_getElem h1) (List.getElem?_eq_getElem h2), p1, p2, p3⟩
theorem jok_zipT {K : PySem.W.Frag} {M0 : Wd} {H0 : Hp} {a b : Addr} {vs us : List V} {xs ys : List PyData} (s : SqT K H0 a vs) (r : RpL K M0 H0 vs xs) (s2 : SqT K H0 b us) (r2 : RpL K M0 H0 us ys) : JOk K (RZ.ItzT K a b) (zipL xs ys) M0 H0 := fun M H t m i => by
  have s' := SqT.tx s t
  have r' := r.tx t
  have s2' := SqT.tx s2 t
  have r2' := r2.tx t
  rw [zipL_length]
  have l1 := r'.length
  have l2 := r2'.length
  refine ⟨fun hi => ?_, fun hi => ⟨vs, us, s', s2', by omega⟩⟩
  have h1 : i < xs.length := by omega
  have h2 : i < ys.length := by omega
  obtain ⟨v, e, q⟩ := r'.get' (List.getElem?_eq_getElem h1)
  obtain ⟨u, e2, q2⟩ := r2'.get' (List.getElem?_eq_getElem h2)
  refine ⟨⟨vs, us, v, u, s', s2', e, e2⟩, fun w H' y => ?_⟩
  obtain ⟨T, v1, u1, rfl, hT, rfl, y1, y2⟩ := y
  have z1 := y1 _ s'
  have z2 := y2 _ s2'
  rw [e] at z1; cases z1
  rw [e2] at z2; cases z2
  obtain ⟨p1, p2, p3⟩ := pair_new m hT q q2
  exact ⟨_, zipL_get (List.getElem?_eq_getElem h1) (List.getElem?_eq_getElem h2), p1, p2, p3⟩
/-- zip of two lists that stay, or of two tuples -/
def iZp (ta tb : DTE) : DTI := fun ρ M R => ta ρ M fun x M1 => tb ρ M1 fun y M2 => match x, y with
  | .d (.list xs), .d (.list ys) => R (zipL xs ys) M2
  | .d (.tuple xs), .d (.tuple ys) => R (zipL xs ys) M2
  | _, _ => False
def enL (xs : List PyData) : List PyData := xs.zipIdx.map fun p => .tuple [.int (p.2 : Nat), p.1]
theorem enL_length (xs : List PyData) : (enL xs).length = xs.length := by simp [enL]
theorem enL_get {xs : List PyData} {i : Nat} {x : PyData} (h1 : xs[i]? = some x) : (enL xs)[i]? = some (.tuple [.int (i : Nat), x]) := by
  unfold enL
  rw [List.getElem?_map, List.getElem?_zipIdx, h1]
  simp
theorem enL_inv {xs : List PyData} {i : Nat} {z : PyData} (h : (enL xs)[i]? = some z) : ∃ x, xs[i]? = some x ∧ z = .tuple [.int (i : Nat), x] := by
  have hi : i < xs.length := by
    have := (List.getElem?_eq_some_iff.mp h).1
    rwa [enL_length] at this
  rw [enL_get (List.getElem?_eq_getElem hi)] at h
  exact ⟨_, List.getElem?_eq_getElem hi, by simpa using h.symm⟩
theorem jok_enum {K : PySem.W.Frag} {M0 : Wd} {H0 : Hp} {a : Addr} {vs : List V} {xs : List PyData} (s : LsV M0 H0 a vs) (r : RpL K M0 H0 vs xs) : JOk K (Ite K a) (enL xs) M0 H0 := fun M H t m i => by
  have s' := s.tx t
  have r' := r.tx t
  rw [enL_length]
  have l1 := r'.length
  refine ⟨fun hi => ?_, fun hi => ⟨vs, SqL.of s'.1, by omega⟩⟩
  obtain ⟨v, e, q⟩ := r'.get' (List.getElem?_eq_getElem hi)
  refine ⟨⟨vs, v, SqL.of s'.1, e⟩, fun w H' y => ?_⟩
  obtain ⟨T, v1, rfl, hT, rfl, y1⟩ := y
  have z1 := y1 _ (SqL.of s'.1)
  rw [e] at z1; cases z1
  obtain ⟨p1, p2, p3⟩ := pair_new m hT (.int (i : Nat)) q
  exact ⟨_, enL_get (List.getElem?_eq_getElem hi), p1, p2, p3⟩
def iEn (ta : DTE) : DTI := fun ρ M R => ta ρ M fun x M1 => match x with
  | .d (.list xs) => R (enL xs) M1
  | _ => False
section
variable {Φ : Ph} {X : Cx} {pos p tpos : Pos} {e e2 : Expr} {te te2 : DTE} {elts : List Expr} {kk : Nat}
theorem di_zip (hm : X.mg "zip" = none) (ha : DA Φ X [e, e2] [te, te2]) (hg : Gl X "zip" := by rfl) (hs : starEach [e, e2] X.env = (false, eval e X.env) :: starEach [e2] X.env := by rfl) (hpl : (backTo pos (starEach [e2] X.env)).any (·.1) = false := by rfl) :
    DI Φ X (.Tuple elts kk tpos) (.Call (.Name "zip" p) [e, e2] [] pos) (iZp te te2) := by
  refine pi_mono (RZ.pi_zipA hg hm ha hs hpl) fun σ H R ⟨ρ, M, R', S, h, k⟩ => ⟨ρ, M, _, S, h, fun x M1 v H1 q dv m tx => ⟨ρ, M1, _, S.step tx m, q, fun y M2 u H2 q2 du m2 tx2 => ?_⟩⟩
  have dv2 := dv.tx tx2
  split at q2
  · rename_i xs ys
    cases (show Rp X.K M2 H2 v (.list xs) from dv2) with
    | lst s r =>
      cases (show Rp X.K M2 H2 u (.list ys) from du) with
      | lst s2 r2 => exact ⟨_, _, _, _, rfl, .inl ⟨SqL.of s.1, SqL.of s2.1, k _ _ _ _ q2 m2 (tx.trans tx2) (jok_zip s r s2 r2)⟩⟩
  · obtain ⟨a, vs, rfl, s, r⟩ := Rp.tupI dv2
    obtain ⟨b, us, rfl, s2, r2⟩ := Rp.tupI du
    exact ⟨_, _, _, _, rfl, .inr ⟨s, s2, k _ _ _ _ q2 m2 (tx.trans tx2) (jok_zipT s r s2 r2)⟩⟩
  · exact q2.elim
theorem di_enum (hm : X.mg "enumerate" = none) (ha : DA Φ X [e] [te]) (hg : Gl X "enumerate" := by rfl) (hs : starEach [e] X.env = [(false, eval e X.env)] := by rfl) : DI Φ X (.Tuple elts kk tpos) (.Call (.Name "enumerate" p) [e] [] pos) (iEn te) := by
  refine pi_mono (pi_enum hg hm ha hs) fun σ H R ⟨ρ, M, R', S, h, k⟩ => ⟨ρ, M, _, S, h, fun x M1 v H1 q dv m tx => ?_⟩
  split at q
  · rename_i xs
    cases (show Rp X.K M1 H1 v (.list xs) from dv) with
    | lst s r => exact ⟨_, _, rfl, SqL.of s.1, k _ _ _ _ q m tx (jok_enum s r)⟩
  · exact q.elim
end
/-! ### defs by name -/
/-- the def st stands under its name -/
def Dn (K : PySem.W.Frag) (mg : Str → Option Value) (x : Str) (st : Stmt) : Prop := ∃ f fd, mg x = some (.ref f) ∧ Fun K x x st f fd
/-- how the parameters bind -/
abbrev BindsP (x : Str) (st : Stmt) (ps : List Str) : Prop := ∀ (kV doc pm : Value) (an : Option Addr) (cdv ct : Value) (us : List Value), us.length = ps.length →
  bindArgs (PySem.W.fnOf x x (defArgs st) (defBody st) (defScope st) .none kV doc pm an cdv ct) ⟨us, []⟩ = pure (ps.zip us)
section
variable {P : Program} {w : World} {K : PySem.W.Frag} {mg : Str → Option Value} {base : Heap} {x : Str} {st : Stmt} {N ps : List Str} {k : Nat} {sp : DSp}
theorem fcD (h : Dn K mg x st) (S : FnScope N ps (defScope st)) (b : BindsP x st ps) (len : ∀ ds M Q E, sp ds M Q E → ds.length = ps.length)
    (hbody : ∀ (f : Addr) (cdv : Value) (A : Around) (outer : List Env) (s : Shared) (H : Hp) (E : XK), Room k (A.deeper (envOfC x (defScope st) s.heap.objs.size f cdv)) →
      ∃ t : DTS, DSs Ph.any (cxOf CX0 P w K mg base N x (defScope st) f cdv A outer s H E).nox (defBody st) t ∧ ∀ ds M Q E', sp ds M Q E' → t (fnEnds Q) (startD N ds) M) : Fc P w K mg base CX0 (k + 1) x sp := by
  obtain ⟨f, fd, hm, F⟩ := h
  exact ⟨f, fd, ps, hm, okD F S len (hbody f), F.kp, F.binds b⟩
theorem fcX (h : Dn K mg x st) (S : FnScope N ps (defScope st)) (b : BindsP x st ps) (len : ∀ ds M Q E, sp ds M Q E → ds.length = ps.length)
    (hbody : ∀ (f : Addr) (cdv : Value) (A : Around) (outer : List Env) (s : Shared) (H : Hp) (E : XK) (E' : DX) (Φ : Ph), Room k (A.deeper (envOfC x (defScope st) s.heap.objs.size f cdv)) → (∀ C (W : Wd) H, E' C W.M → MR K W H → Φ.p W H → E (.ref C) none H) →
      ∃ t : DTS, DSs Φ (cxOf (L2N.CX P w) P w K mg base N x (defScope st) f cdv A outer s H E) (defBody st) t ∧ ∀ ds M Q, sp ds M Q E' → t (fnEnds Q) (startD N ds) M) : Fc P w K mg base (L2N.CX P w) (k + 1) x sp := by
  obtain ⟨f, fd, hm, F⟩ := h
  exact ⟨f, fd, ps, hm, okXD F S len (hbody f), F.kp, F.binds b⟩
end
/-! ### raise -/
section
variable {Φ : Ph} {X : Cx} {pos : Pos} {e : Expr}
/-- the class at C is an own exception class without __init__ -/
structure ExcK (K : PySem.W.Frag) (mg : Str → Option Value) (x : Str) (C : Addr) : Prop where
  g : mg x = some (.ref C)
  ex : PySem.W.excIn K C [.type "ValueError", .type "Exception", .type "BaseException", .type "object"] "ValueError.__new__" = true
  kp : PySem.W.keepIn K (.ref C) = true
  b : PySem.W.subIn K (.ref C) (.type "BaseException") = some true
  t : PySem.W.typeIn K (.ref C) = some (.type "type")
def dRaise (C : Addr) (E' : DX) : DTS := fun _ _ M => E' C M
theorem ds_raise {E : XK} {E' : DX} {C : Addr} {x m : Str} {j : Nat} {p p2 pos2 : Pos} (k : ExcK X.K X.mg x C) (hc : X.calm = true) (tk : L2N.Takes X fun cls d _ H => E cls d H)
    (kx : ∀ C (W : Wd) H, E' C W.M → MR X.K W H → Φ.p W H → E (.ref C) none H) (hg : Gl X x := by rfl) (hdb : (x == ("__debug__" : Str)) = false := by decide) :
    DS Φ X (.Raise (some (.Call (.Name x p) [.Constant (.str m) j p2] [] pos2)) none pos) (dRaise C E') := by
  refine ps_mono (L2N.ps_raise hc tk (L2N.pmk_own PySem.F.excBase_ValueError k.ex k.g k.kp (raises_own k.b k.t) hg hdb)) fun D σ H ⟨ρ, W, D', S, h, kk⟩ => ?_
  exact kx C W H h S.mem S.fr
end
end BN

/-! D layer, part 7: zip and enumerate over lists and tuples in any mix; not in over a tuple -/
namespace BN
open PySem PySem.Spec PyProof.Rows L2
/-- a list (true) or a tuple (false) that is read -/
def SqK (K : PySem.W.Frag) (H : Hp) (b : Bool) (a : Addr) (xs : List V) : Prop := if b = true then SqL K H a xs else SqT K H a xs
def ItK (h : Heap) (b : Bool) (it a : Addr) (i : Nat) : Prop := if b = true then h.IsListIter it a i else h.IsTupleIter it a i
def IsK (h : Heap) (b : Bool) (a : Addr) (items : Array Value) : Prop := if b = true then h.IsList a items else h.IsTuple a items
theorem ItK.ob {h : Heap} {b : Bool} {it a : Addr} {i : Nat} (x : ItK h b it a i) : ∃ o, h.get? it = some o ∧ ∀ v, o.data ≠ .cell v := by
  cases b with
  | true =>
    obtain ⟨o, e, _, d⟩ := (show h.IsListIter it a i from x)
    exact ⟨o, e, fun v z => by rw [d] at z; cases z⟩
  | false =>
    obtain ⟨o, e, _, d⟩ := (show h.IsTupleIter it a i from x)
    exact ⟨o, e, fun v z => by rw [d] at z; cases z⟩
theorem ItK.at' {h h' : Heap} {b : Bool} {it a : Addr} {i : Nat} (x : ItK h b it a i) (k : ∀ o, h.get? it = some o → h'.get? it = some o) : ItK h' b it a i := by
  cases b with
  | true => exact (show h.IsListIter it a i from x).at k
  | false => exact (show h.IsTupleIter it a i from x).at k
def objK (b : Bool) (a : Addr) : Obj := if b = true then { cls := .type "list_iterator", data := .fields #[.ref a, .int 0 0] } else { cls := .type "tuple_iterator", data := .fields #[.ref a, .int 0 0] }
theorem begK (b : Bool) (a : Addr) (items : Array Value) : Begins (.ref a) (objK b a) fun h => IsK h b a items := by
  cases b with
  | true => exact begins_list a items
  | false => exact begins_tuple a items
theorem itK_new {h : Heap} {b : Bool} {it a : Addr} (e : h.get? it = some (objK b a)) : ItK h b it a 0 := by
  cases b with
  | true => exact ⟨_, e, rfl, rfl⟩
  | false => exact ⟨_, e, rfl, rfl⟩
theorem drK {prog : Program} {w : World} {A : Around} (b : Bool) (hh : A.handled = none) (it a : Addr) (hne : a ≠ it) (items : Array Value) :
    Draws prog w A it [it, a] items.size (fun i v => items[i]? = some v) (fun i h => ItK h b it a i ∧ IsK h b a items) := by
  cases b with
  | true => exact Draws.list hh it a hne items
  | false => exact Draws.tuple hh it a hne items
section
variable {X : Cx} {pins : List (Addr × Obj)} {σ : St} {H : Hp} {s : Shared} {a : Addr} {xs ys : List V}
theorem seqK (b : Bool) (I : Inv X pins σ H s) (h : SqK X.K H b a xs) : ∃ its : List Value, Vals xs its ∧ IsK s.heap b a its.toArray ∧ a < s.heap.objs.size := by
  cases b with
  | true =>
    obtain ⟨its, r, p, _⟩ := I.list (show SqL X.K H a xs from h)
    exact ⟨its, r, p.isList, p.lt⟩
  | false =>
    obtain ⟨its, r, p, _⟩ := I.tuple (show SqT X.K H a xs from h)
    exact ⟨its, r, p, p.lt⟩
theorem seqK_inj (b : Bool) (I : Inv X pins σ H s) (h : SqK X.K H b a xs) (h' : SqK X.K H b a ys) : xs = ys := by
  cases b with
  | true => exact I.list_inj h h'
  | false => exact I.tuple_inj h h'
end
/-- zip, the items in new pairs -/
def ItzK (K : PySem.W.Frag) (k1 k2 : Bool) (a b : Addr) : It :=
  ⟨fun i H => ∃ (xs ys : List V) (x y : V), SqK K H k1 a xs ∧ SqK K H k2 b ys ∧ xs[i]? = some x ∧ ys[i]? = some y,
    fun i H v H' => ∃ T x y, v = .ref T ∧ H T = none ∧ H' = upd H T (.tup [x, y]) ∧ (∀ xs, SqK K H k1 a xs → xs[i]? = some x) ∧ ∀ ys, SqK K H k2 b ys → ys[i]? = some y,
    fun i H => ∃ xs ys : List V, SqK K H k1 a xs ∧ SqK K H k2 b ys ∧ i = min xs.length ys.length⟩
theorem IsK.lt {h : Heap} {b : Bool} {a : Addr} {items : Array Value} (x : IsK h b a items) : a < h.objs.size := by
  cases b with
  | true => obtain ⟨o, e, _⟩ := (show h.IsList a items from x); exact Heap.lt_size e
  | false => obtain ⟨o, e, _⟩ := (show h.IsTuple a items from x); exact Heap.lt_size e
theorem turn_zipK {P : Program} {w : World} {K : PySem.W.Frag} {elts : List Expr} {kk : Nat} {tpos : Pos} {k1 k2 : Bool} {a b z TI TO i1 i2 : Addr} (S : ZipSep2 z TI TO i1 i2 [i1, a] [i2, b]) (n1 : a ≠ i1) (n2 : b ≠ i2) :
    Turn P w K (.Tuple elts kk tpos) (ItzK K k1 k2 a b) [z, TI, TO, i1, i2] z (fun i h => IsZip h z TI TO .none ∧ IsTupOf2 h TI (.ref i1) (.ref i2) ∧ (∃ x y, IsTupOf2 h TO x y) ∧ ItK h k1 i1 a i ∧ ItK h k2 i2 b i) where
  mem := List.mem_cons_self
  obj := fun i h st c hc => by
    obtain ⟨hz, hTI, ⟨x, y, hTO⟩, h1, h2⟩ := st
    simp only [List.mem_cons, List.not_mem_nil, or_false] at hc
    rcases hc with q | q | q | q | q <;> subst q
    · exact ⟨_, hz, fun v q => nomatch q⟩
    · exact ⟨_, hTI, fun v q => nomatch q⟩
    · exact ⟨_, hTO, fun v q => nomatch q⟩
    · exact h1.ob
    · exact h2.ob
  keep := fun i h h' ⟨hz, hTI, ⟨x, y, hTO⟩, h1, h2⟩ k =>
    ⟨k z (by simp) _ hz, k TI (by simp) _ hTI, ⟨x, y, k TO (by simp) _ hTO⟩, h1.at' fun o q => k i1 (by simp) o q, h2.at' fun o q => k i2 (by simp) o q⟩
  item := by
    intro X hP hw hK hc i pins s σ H E I hf ⟨hz, hTI, ⟨x0, y0, hTO⟩, h1, h2⟩ ⟨xs, ys, x, y, hqx, hqy, hx, hy⟩
    subst hP hw hK
    obtain ⟨its, rv, p, _⟩ := seqK k1 I hqx
    obtain ⟨its2, rv2, p2, _⟩ := seqK k2 I hqy
    obtain ⟨u, hu, ru⟩ := rv.get hx
    obtain ⟨u2, hu2, ru2⟩ := rv2.get hy
    have hzl : z < s.heap.objs.size := Heap.lt_size hz
    have b1 : i < its.toArray.size := by have := (List.getElem?_eq_some_iff.mp hu).1; simpa using this
    have b2 : i < its2.toArray.size := by have := (List.getElem?_eq_some_iff.mp hu2).1; simpa using this
    have g1 : its.toArray[i]? = some u := by simpa using hu
    have g2 : its2.toArray[i]? = some u2 := by simpa using hu2
    have hd : X.A.in1.handled = none := I.ok.hd hc
    refine wpAny_pyNext_zipD2_item S (drK k1 hd i1 a n1 its.toArray) (drK k2 hd i2 b n2 its2.toArray) hz hTI hTO ⟨h1, p⟩ ⟨h2, p2⟩ b1 b2 fun x1 x2 h' tk e1 e2 z' TO' s1 s2 hT hsz hk => ?_
    rw [g1] at e1; cases e1
    rw [g2] at e2; cases e2
    refine ⟨_, rfl, wpAny_letOwnedTupleGo_zip (s := { s with heap := h', toks := tk }) z' fun h'' z'' sb => ?_⟩
    have hT2 : h''.get? s.heap.objs.size = some { cls := .type "tuple", data := .seq #[u, u2] } := (sb.2 _ (Nat.ne_of_gt hzl)).trans hT
    have new : ObjOk X.prog X.w (upd H s.heap.objs.size (.tup [x, y])) h'' s.heap.objs.size (.tup [x, y]) :=
      ⟨by show 2 ≤ sizeLine; decide, [u, u2], .cons ru (.cons ru2 .nil), ⟨_, hT2, rfl, _, rfl⟩⟩
    have I1 : Inv X pins σ (upd H s.heap.objs.size (.tup [x, y])) { s with heap := h'', toks := tk } :=
      I.turnedNew (t' := tk) (ch := [z, TI, TO, i1, i2]) (fun c o hb q => (sb.2 c (fun q' => hb (by simp [q']))).trans (hk c o (fun q' => hb (by simp [q'])) (fun q' => hb (by simp [q'])) (fun q' => hb (by simp [q'])) (fun q' => hb (by simp [q'])) q)) hf (Nat.le_refl _) new
    have sf1 : i1 ≠ z := fun e => S.zf1 (by rw [← e]; exact S.mem1)
    have sf2 : i2 ≠ z := fun e => S.zf2 (by rw [← e]; exact S.mem2)
    refine ⟨.ref s.heap.objs.size, _, I1, rfl, ⟨_, x, y, rfl, I.hok.fresh (Nat.le_refl _), rfl, fun l hl => by rw [seqK_inj k1 I hl hqx]; exact hx, fun l hl => by rw [seqK_inj k2 I hl hqy]; exact hy⟩, ⟨z'', ?_, ⟨u, u2, ?_⟩, ?_, ?_⟩, fun c hcm => ?_⟩
    · exact (sb.2 _ S.TIz).trans (hk _ _ S.TIz S.TITO S.TIi1 S.TIi2 hTI)
    · exact (sb.2 _ S.TOz).trans TO'
    · exact s1.1.at' fun o q => (sb.2 _ sf1).trans q
    · exact s2.1.at' fun o q => (sb.2 _ sf2).trans q
    · have hlt : c < s.heap.objs.size := by
        simp only [List.mem_cons, List.not_mem_nil, or_false] at hcm
        rcases hcm with q | q | q | q | q <;> subst q
        · exact hzl
        · exact Heap.lt_size hTI
        · exact Heap.lt_size hTO
        · obtain ⟨o, e, _⟩ := h1.ob; exact Heap.lt_size e
        · obtain ⟨o, e, _⟩ := h2.ob; exact Heap.lt_size e
      rw [upd_ne (Nat.ne_of_lt hlt)]
      exact (hf c hcm).1
  done := by
    intro X hP hw hK hc i pins s σ H E I hf ⟨hz, hTI, ⟨x0, y0, hTO⟩, h1, h2⟩ ⟨xs, ys, hqx, hqy, hend⟩
    subst hP hw hK
    obtain ⟨its, rv, p, _⟩ := seqK k1 I hqx
    obtain ⟨its2, rv2, p2, _⟩ := seqK k2 I hqy
    have l1 := rv.length
    have l2 := rv2.length
    have hd : X.A.in1.handled = none := I.ok.hd hc
    exact wpAny_pyNext_zipD2_end S (drK k1 hd i1 a n1 its.toArray) (drK k2 hd i2 b n2 its2.toArray) hz hTI hTO ⟨h1, p⟩ ⟨h2, p2⟩ (by simp; omega) (by simp; omega) (by simp; omega) fun h' tk hk => ⟨rfl, I.turnedL (t' := tk) (ch := [z, TI, TO, i1, i2]) (fun c o hb q =>
      hk c o (fun q' => hb (by simp [q'])) (fun q' => hb (by simp [q'])) (fun q' => hb (by simp [q'])) (fun q' => hb (by simp [q'])) q) hf⟩
  self := fun A i s Q E st h => wpAny_pyIter_zip st.1 h
def iZipK (K : PySem.W.Frag) (ta : TA) : TI := fun σ H R => ta σ H fun vs H1 => ∃ k1 k2 a b xs ys, vs = [.ref a, .ref b] ∧ SqK K H1 k1 a xs ∧ SqK K H1 k2 b ys ∧ R (ItzK K k1 k2 a b) H1
theorem pi_zipK {X : Cx} {e e2 : Expr} {ta : TA} {p pos tpos : Pos} {elts : List Expr} {kk : Nat} (hg : Gl X "zip") (hm : X.mg "zip" = none) (ha : PA X [e, e2] ta)
    (hs : starEach [e, e2] X.env = (false, eval e X.env) :: starEach [e2] X.env := by rfl) (hpl : (backTo pos (starEach [e2] X.env)).any (·.1) = false := by rfl) :
    PI X (.Tuple elts kk tpos) (.Call (.Name "zip" p) [e, e2] [] pos) (iZipK X.K ta) := by
  refine ⟨fun pins s σ H R I h => ?_⟩
  refine Call_ (ld_blt I hg hm PyProof.Rows.boot_zip (PyProof.Rows.callWith_type1 (thn (ha.run pos pins s σ H _ I h) fun us s1 ⟨vs, H1, I1, r1, q1⟩ => ?_) hs hpl))
  obtain ⟨k1, k2, a, b, xs, ys, ex, hqx, hqy, q⟩ := q1
  subst ex
  obtain ⟨va, vb, rfl, ra, rb⟩ := vals2 r1
  cases ra
  cases rb
  obtain ⟨its, rv, p1, la⟩ := seqK k1 I1 hqx
  obtain ⟨its2, rv2, p2, lb⟩ := seqK k2 I1 hqy
  refine zip_begins2 (begK k1 a its.toArray) (begK k2 b its2.toArray) p1 p2 fun h' hz hTI hTO h1 h2 hsz hk => wpAny_pyIter_zip hz ?_
  have I2 : Inv X pins σ H1 { s1 with heap := h' } := I1.kept (t' := s1.toks) hk
  refine ⟨s1.heap.objs.size + 4, [s1.heap.objs.size + 4, s1.heap.objs.size + 2, s1.heap.objs.size + 3, s1.heap.objs.size, s1.heap.objs.size + 1], _, _, H1, rfl, I2,
    turn_zipK (zip_sep2 (fp1 := [a]) (fp2 := [b]) (fun c hc => by cases List.mem_singleton.mp hc; exact la) (fun c hc => by cases List.mem_singleton.mp hc; exact lb)) (Nat.ne_of_lt la) (Nat.ne_of_lt (Nat.lt_succ_of_lt lb)), ⟨hz, hTI, ⟨_, _, hTO⟩, itK_new h1, itK_new h2⟩, fun c hcm => ?_, q⟩
  have hle : s1.heap.objs.size ≤ c := by
    simp only [List.mem_cons, List.not_mem_nil, or_false] at hcm
    rcases hcm with z | z | z | z | z <;> subst z
    · exact Nat.le_add_right _ _
    · exact Nat.le_add_right _ _
    · exact Nat.le_add_right _ _
    · exact Nat.le_refl _
    · exact Nat.le_add_right _ _
  exact I1.fpOk hle (I1.hok.fresh hle)
/-! ### over data -/
theorem SqK.tx {K : PySem.W.Frag} {M0 M : Wd} {H0 H : Hp} {b : Bool} {a : Addr} {vs : List V} {xs : List PyData} (t : TX M0 H0 M H) (l : b = true → LsV M0 H0 a vs) (s : SqK K H0 b a vs) : SqK K H b a vs := by
  cases b with
  | true => exact SqL.of ((l rfl).tx t).1
  | false => exact SqT.tx (show SqT K H0 a vs from s) t
theorem jok_zipK {K : PySem.W.Frag} {M0 : Wd} {H0 : Hp} {k1 k2 : Bool} {a b : Addr} {vs us : List V} {xs ys : List PyData} (s : ∀ M H, TX M0 H0 M H → SqK K H k1 a vs) (r : RpL K M0 H0 vs xs) (s2 : ∀ M H, TX M0 H0 M H → SqK K H k2 b us) (r2 : RpL K M0 H0 us ys) : JOk K (ItzK K k1 k2 a b) (zipL xs ys) M0 H0 := fun M H t m i => by
  have s' := s M H t
  have r' := r.tx t
  have s2' := s2 M H t
  have r2' := r2.tx t
  rw [zipL_length]
  have l1 := r'.length
  have l2 := r2'.length
  refine ⟨fun hi => ?_, fun hi => ⟨vs, us, s', s2', by omega⟩⟩
  have h1 : i < xs.length := by omega
  have h2 : i < ys.length := by omega
  obtain ⟨v, e, q⟩ := r'.get' (List.getElem?_eq_getElem h1)
  obtain ⟨u, e2, q2⟩ := r2'.get' (List.getElem?_eq_getElem h2)
  refine ⟨⟨vs, us, v, u, s', s2', e, e2⟩, fun w H' y => ?_⟩
  obtain ⟨T, v1, u1, rfl, hT, rfl, y1, y2⟩ := y
  have z1 := y1 _ s'
  have z2 := y2 _ s2'
  rw [e] at z1; cases z1
  rw [e2] at z2; cases z2
  obtain ⟨p1, p2, p3⟩ := pair_new m hT q q2
  exact ⟨_, zipL_get (List.getElem?_eq_getElem h1) (List.getElem?_eq_getElem h2), p1, p2, p3⟩
/-- zip of lists that stay, of tuples, of either -/
def iZpM (ta tb : DTE) : DTI := fun ρ M R => ta ρ M fun x M1 => tb ρ M1 fun y M2 => match x, y with
  | .d (.list xs), .d (.list ys) => R (zipL xs ys) M2
  | .d (.tuple xs), .d (.tuple ys) => R (zipL xs ys) M2
  | .d (.list xs), .d (.tuple ys) => R (zipL xs ys) M2
  | .d (.tuple xs), .d (.list ys) => R (zipL xs ys) M2
  | _, _ => False
section
variable {Φ : Ph} {X : Cx} {pos p tpos : Pos} {e e2 : Expr} {te te2 : DTE} {elts : List Expr} {kk : Nat}
theorem di_zipM (hm : X.mg "zip" = none) (ha : DA Φ X [e, e2] [te, te2]) (hg : Gl X "zip" := by rfl) (hs : starEach [e, e2] X.env = (false, eval e X.env) :: starEach [e2] X.env := by rfl) (hpl : (backTo pos (starEach [e2] X.env)).any (·.1) = false := by rfl) :
    DI Φ X (.Tuple elts kk tpos) (.Call (.Name "zip" p) [e, e2] [] pos) (iZpM te te2) := by
  refine pi_mono (pi_zipK hg hm ha hs hpl) fun σ H R ⟨ρ, M, R', S, h, k⟩ => ⟨ρ, M, _, S, h, fun x M1 v H1 q dv m tx => ⟨ρ, M1, _, S.step tx m, q, fun y M2 u H2 q2 du m2 tx2 => ?_⟩⟩
  have dv2 := dv.tx tx2
  have hL : ∀ {v : V} {xs : List PyData}, Rp X.K M2 H2 v (.list xs) → ∃ a vs, v = .ref a ∧ (∀ M H, TX M2 H2 M H → SqK X.K H true a vs) ∧ RpL X.K M2 H2 vs xs := fun r => by
    cases r with
    | lst s r => exact ⟨_, _, rfl, fun M H t => SqL.of (s.tx t).1, r⟩
  have hT : ∀ {v : V} {xs : List PyData}, Rp X.K M2 H2 v (.tuple xs) → ∃ a vs, v = .ref a ∧ (∀ M H, TX M2 H2 M H → SqK X.K H false a vs) ∧ RpL X.K M2 H2 vs xs := fun r => by
    obtain ⟨a, vs, rfl, s, r⟩ := Rp.tupI r
    exact ⟨_, _, rfl, fun M H t => SqT.tx s t, r⟩
  have fin : ∀ {k1 k2 : Bool} {xs ys : List PyData}, (∃ a vs, v = .ref a ∧ (∀ M H, TX M2 H2 M H → SqK X.K H k1 a vs) ∧ RpL X.K M2 H2 vs xs) → (∃ a vs, u = .ref a ∧ (∀ M H, TX M2 H2 M H → SqK X.K H k2 a vs) ∧ RpL X.K M2 H2 vs ys) → R' (zipL xs ys) M2.M →
      ∃ k1 k2 a b xs ys, [v, u] = [.ref a, .ref b] ∧ SqK X.K H2 k1 a xs ∧ SqK X.K H2 k2 b ys ∧ R (ItzK X.K k1 k2 a b) H2 := fun ⟨a, vs, e1, s, r⟩ ⟨b, us, e2, s2, r2⟩ q => by
    subst e1 e2
    exact ⟨_, _, a, b, vs, us, rfl, s M2 H2 TX.rfl', s2 M2 H2 TX.rfl', k _ _ _ _ q m2 (tx.trans tx2) (jok_zipK s r s2 r2)⟩
  split at q2
  · exact fin (hL dv2) (hL du) q2
  · exact fin (hT dv2) (hT du) q2
  · exact fin (hL dv2) (hT du) q2
  · exact fin (hT dv2) (hL du) q2
  · exact q2.elim
end
end BN

/-! D layer, part 8: enumerate(tuple), not in over a tuple, sorted(tuple of tuples of ints) -/
namespace PySem
open Builtin
set_option maxHeartbeats 1000000 in
theorem bn_meets_enumT {v : Value} {o : Obj} {H : Heap → Prop} (B : Begins v o H) :
    Meets (Builtin.«enumerate.__new__» ⟨[.type "enumerate", v], []⟩) (fun _ R s => H s.heap ∧
      R (.ok (.ret (.ref (s.heap.push o).objs.size))) { s with heap := (s.heap.push o).push { cls := .type "enumerate", data := .fields #[.none, .bool false, .ref s.heap.objs.size, rawInt 0, .none, .none] } }) :=
  .of_wp fun prog w A R s h => by
    obtain ⟨hp, g, d, tk, os⟩ := s
    obtain ⟨h1, h⟩ := h
    have hsub := sub_enumerate
    have q1 : ∀ {A' : Around} {E : Value → Shared → Prop} {Q : Value → Shared → Prop}, Q (.ref hp.objs.size) ⟨hp.push o, g, d, tk, os⟩ → wpAny (model prog w) A' (pyIter v) Q E ⟨hp, g, d, tk, os⟩ :=
      fun q => B.iter prog w _ _ ⟨hp, g, d, tk, os⟩ _ h1 q
    wp_walk using q1
    refine wpAny_stack_any fun st => wpAny_pure ?_
    split
    · rename_i c _ _ _ _ _
      cases (c == Value.type "enumerate") <;> (wp_walk using q1; exact ⟨_, rfl, h⟩)
    · wp_walk using q1
      exact ⟨_, rfl, h⟩
theorem bn_enum_begins {prog : Program} {w : World} {A : Around} {E : Value → Shared → Prop} {s : Shared} {v : Value} {o : Obj} {H : Heap → Prop} {Q : Value → Shared → Prop} (B : Begins v o H) (h1 : H s.heap)
    (h : ∀ h', IsEnum h' (s.heap.objs.size + 1) s.heap.objs.size 0 .none → h'.get? s.heap.objs.size = some o → h'.objs.size = s.heap.objs.size + 2 →
      (∀ b o, s.heap.get? b = some o → h'.get? b = some o) → Q (.ref (s.heap.objs.size + 1)) { s with heap := h' }) :
    wpAny (model prog w) A (call (.type "enumerate") [v]) Q E s := by
  refine callType_new F.called_enumerate (by decide) (F.typeCall_enumerate_1 _) (F.newCall_enumerate_1 _) (fun obj => F.args_object_init_2 obj _) F.entry_enumerate_new
    (bn_meets_enumT B) ⟨h1, ?_⟩
  have hz : (s.heap.push o).objs.size = s.heap.objs.size + 1 := Heap.size_push ..
  show _ ∧ _
  rw [hz]
  have g := Heap.get?_push_size (s.heap.push o) (o := { cls := .type "enumerate", data := .fields #[.none, .bool false, .ref s.heap.objs.size, rawInt 0, .none, .none] }) rfl
  rw [hz] at g
  exact ⟨⟨_, g, rfl⟩, h _ g (Heap.get?_push_of_some _ (Heap.get?_push_size _ B.free)) (by rw [Heap.size_push, hz]) fun b o x => Heap.get?_push_of_some _ (Heap.get?_push_of_some _ x)⟩
end PySem
namespace BN
open PySem PySem.Spec PyProof.Rows L2
def IteT (K : PySem.W.Frag) (a : Addr) : It :=
  ⟨fun i H => ∃ (xs : List V) (x : V), SqT K H a xs ∧ xs[i]? = some x, fun i H v H' => ∃ T x, v = .ref T ∧ H T = none ∧ H' = upd H T (.tup [.int (i : Nat), x]) ∧ ∀ xs, SqT K H a xs → xs[i]? = some x, fun i H => ∃ xs : List V, SqT K H a xs ∧ i = xs.length⟩
theorem turn_enumT {P : Program} {w : World} {K : PySem.W.Frag} {elts : List Expr} {kk : Nat} {tpos : Pos} (a e it : Addr) (n1 : a ≠ it) (n2 : a ≠ e) :
    Turn P w K (.Tuple elts kk tpos) (IteT K a) [e, it] e (fun i h => (∃ old, IsEnum h e it ((i : Nat) : Int) old) ∧ h.IsTupleIter it a i ∧ e ≠ it) where
  mem := by simp
  obj := fun i h st b hb => by
    obtain ⟨⟨old, he⟩, ⟨o, ho, hc, hd⟩, _⟩ := st
    simp only [List.mem_cons, List.not_mem_nil, or_false] at hb
    rcases hb with z | z <;> subst z
    · exact ⟨_, he, fun v q => nomatch q⟩
    · exact ⟨o, ho, fun v q => by rw [hd] at q; cases q⟩
  keep := fun i h h' ⟨⟨old, he⟩, hi, hne⟩ k => ⟨⟨old, k e (by simp) _ he⟩, hi.at fun o q => k it (by simp) o q, hne⟩
  item := by
    intro X hP hw hK hc i pins s σ H E I hf ⟨⟨old, he⟩, hit, hne⟩ ⟨xs, x, hq, hx⟩
    subst hP hw hK
    obtain ⟨its, rv, p, hz⟩ := I.tuple hq
    obtain ⟨u, hu, ru⟩ := rv.get hx
    have hel : e < s.heap.objs.size := Heap.lt_size he
    have hil : it < s.heap.objs.size := by obtain ⟨_, q, _⟩ := hit; exact Heap.lt_size q
    have b1 : i < its.toArray.size := by have := (List.getElem?_eq_some_iff.mp hu).1; simpa using this
    have g1 : its.toArray[i]? = some u := by simpa using hu
    have hd : X.A.in1.handled = none := I.ok.hd hc
    have hef : e ∉ [it, a] := by
      simp only [List.mem_cons, List.not_mem_nil, or_false, not_or]
      exact ⟨hne, Ne.symm n2⟩
    refine wpAny_pyNext_enum_itemC (Draws.tuple hd it a n1 its.toArray) he ⟨hit, p⟩ b1 hne hef fun x1 h' tk e1 ho st' hT hsz hk => ?_
    rw [g1] at e1; cases e1
    refine ⟨_, rfl, wpAny_letOwnedTupleGo_enum (s := { s with heap := h', toks := tk + 1 }) ho fun h'' he' sb => ?_⟩
    have hT2 : h''.get? s.heap.objs.size = some { cls := .type "tuple", data := .seq #[.int i tk, u] } := (sb.2 _ (Nat.ne_of_gt hel)).trans hT
    have new : ObjOk X.prog X.w (upd H s.heap.objs.size (.tup [.int (i : Nat), x])) h'' s.heap.objs.size (.tup [.int (i : Nat), x]) :=
      ⟨by show 2 ≤ sizeLine; decide, [.int i tk, u], .cons ⟨_, rfl⟩ (.cons ru .nil), ⟨_, hT2, rfl, _, rfl⟩⟩
    have I1 : Inv X pins σ (upd H s.heap.objs.size (.tup [.int (i : Nat), x])) { s with heap := h'', toks := tk + 1 } :=
      I.turnedNew (ch := [e, it]) (fun b ob hb q => (sb.2 b (fun z => hb (by simp [z]))).trans (hk b ob (fun z => hb (by simp [z])) (fun z => hb (by simp [z])) q)) hf (Nat.le_refl _) new
    refine ⟨.ref s.heap.objs.size, _, I1, rfl, ⟨_, x, rfl, I.hok.fresh (Nat.le_refl _), rfl, fun ys hy => by rw [I.tuple_inj hy hq]; exact hx⟩, ⟨⟨u, ?_⟩, st'.1.at fun o q => (sb.2 it (Ne.symm hne)).trans q, hne⟩, fun b hb => ?_⟩
    · have e1 : ((i + 1 : Nat) : Int) = (i : Int) + 1 := by omega
      rw [e1]; exact he'
    · have hb' : b < s.heap.objs.size := by
        simp only [List.mem_cons, List.not_mem_nil, or_false] at hb
        rcases hb with z | z <;> subst z
        · exact hel
        · exact hil
      rw [upd_ne (Nat.ne_of_lt hb')]
      exact (hf b hb).1
  done := by
    intro X hP hw hK hc i pins s σ H E I hf ⟨⟨old, he⟩, hit, hne⟩ ⟨xs, hq, hx⟩
    subst hP hw hK
    obtain ⟨its, rv, p, hz⟩ := I.tuple hq
    obtain ⟨f0, f1, f2, f3, f4, f5⟩ := hf it (by simp)
    have hl := rv.length
    have hd : X.A.in1.handled = none := I.ok.hd hc
    have hi : i = its.toArray.size := by simp; omega
    exact wpAny_pyNext_enum_endD (Draws.tuple hd it a n1 its.toArray) he ⟨by rw [← hi]; exact hit, p⟩ fun h' eb => ⟨rfl, I.turned (t' := s.toks) (fun b o hb q => eb b o hb q) f0 f1 f3 f4 f5⟩
  self := fun A i s Q E st h => let ⟨⟨_, he⟩, _⟩ := st; wpAny_pyIter_enum he h
def iEnumT (K : PySem.W.Frag) (ta : TA) : TI := fun σ H R => ta σ H fun vs H1 => ∃ a xs, vs = [.ref a] ∧ SqT K H1 a xs ∧ R (IteT K a) H1
theorem pi_enumT {X : Cx} {e : Expr} {ta : TA} {p pos tpos : Pos} {elts : List Expr} {kk : Nat} (hg : Gl X "enumerate") (hm : X.mg "enumerate" = none) (ha : PA X [e] ta) (hs : starEach [e] X.env = [(false, eval e X.env)] := by rfl) :
    PI X (.Tuple elts kk tpos) (.Call (.Name "enumerate" p) [e] [] pos) (iEnumT X.K ta) := by
  refine ⟨fun pins s σ H R I h => ?_⟩
  refine Call_ (ld_blt I hg hm boot_enumerate (PyProof.Rows.callWith_type1 (thn (ha.run pos pins s σ H _ I h) fun us s1 ⟨vs, H1, I1, r1, q1⟩ => ?_) hs rfl))
  obtain ⟨a, xs, ex, hq, q⟩ := q1
  subst ex
  obtain ⟨va, rfl, ra⟩ := vals1 r1
  cases ra
  obtain ⟨its, rv, p', hz⟩ := I1.tuple hq
  have la : a < s1.heap.objs.size := p'.lt
  refine bn_enum_begins (begins_tuple a its.toArray) p' fun h' he hit hsz hk => wpAny_pyIter_enum he ?_
  have I2 : Inv X pins σ H1 { s1 with heap := h' } := I1.kept (t' := s1.toks) hk
  refine ⟨s1.heap.objs.size + 1, [s1.heap.objs.size + 1, s1.heap.objs.size], _, _, H1, rfl, I2, turn_enumT a (s1.heap.objs.size + 1) s1.heap.objs.size (Nat.ne_of_lt la) (Nat.ne_of_lt (Nat.lt_succ_of_lt la)), ⟨⟨.none, he⟩, ⟨_, hit, rfl, rfl⟩, Nat.succ_ne_self _⟩, fun b hb => ?_, q⟩
  have hle : s1.heap.objs.size ≤ b := by
    simp only [List.mem_cons, List.not_mem_nil, or_false] at hb
    rcases hb with z | z <;> subst z
    · exact Nat.le_add_right _ _
    · exact Nat.le_refl _
  exact I1.fpOk hle (I1.hok.fresh hle)
theorem jok_enumT {K : PySem.W.Frag} {M0 : Wd} {H0 : Hp} {a : Addr} {vs : List V} {xs : List PyData} (s : SqT K H0 a vs) (r : RpL K M0 H0 vs xs) : JOk K (IteT K a) (enL xs) M0 H0 := fun M H t m i => by
  have s' := SqT.tx s t
  have r' := r.tx t
  rw [enL_length]
  have l1 := r'.length
  refine ⟨fun hi => ?_, fun hi => ⟨vs, s', by omega⟩⟩
  obtain ⟨v, e, q⟩ := r'.get' (List.getElem?_eq_getElem hi)
  refine ⟨⟨vs, v, s', e⟩, fun w H' y => ?_⟩
  obtain ⟨T, v1, rfl, hT, rfl, y1⟩ := y
  have z1 := y1 _ s'
  rw [e] at z1; cases z1
  obtain ⟨p1, p2, p3⟩ := pair_new m hT (.int (i : Nat)) q
  exact ⟨_, enL_get (List.getElem?_eq_getElem hi), p1, p2, p3⟩
def iEnT (ta : DTE) : DTI := fun ρ M R => ta ρ M fun x M1 => match x with
  | .d (.tuple xs) => R (enL xs) M1
  | _ => False
section
variable {Φ : Ph} {X : Cx} {pos p tpos : Pos} {e e2 a b : Expr} {te te2 ta tb : DTE} {elts : List Expr} {kk : Nat}
theorem di_enumT (hm : X.mg "enumerate" = none) (ha : DA Φ X [e] [te]) (hg : Gl X "enumerate" := by rfl) (hs : starEach [e] X.env = [(false, eval e X.env)] := by rfl) : DI Φ X (.Tuple elts kk tpos) (.Call (.Name "enumerate" p) [e] [] pos) (iEnT te) := by
  refine pi_mono (pi_enumT hg hm ha hs) fun σ H R ⟨ρ, M, R', S, h, k⟩ => ⟨ρ, M, _, S, h, fun x M1 v H1 q dv m tx => ?_⟩
  split at q
  · rename_i xs
    obtain ⟨a, vs, rfl, s, r⟩ := Rp.tupI dv
    exact ⟨_, _, rfl, s, k _ _ _ _ q m tx (jok_enumT s r)⟩
  · exact q.elim
/-! ### not in over a tuple -/
def rNotInT (K : PySem.W.Frag) : R2 := fun x y H Q => ∃ d ds, Dp K H x d ∧ Dp K H y (.tuple ds) ∧ d.canLay0 = true ∧ d.depth ≤ 60 ∧ PyData.canLayAll0 ds = true ∧ Q (.bl (!ds.any fun z => PyData.eqv z d)) H
theorem op_notInT {X : Cx} (hu : X.A.units + 64 < cLine) : OpR X (compareOp .NotIn) (rNotInT X.K) := by
  intro pins s σ H x y v u Q I rx ry h
  obtain ⟨d, ds, hd, he, cd, dd, ce, q⟩ := h
  obtain ⟨as, r1⟩ := Dp.reads I d x v hd rx
  obtain ⟨bs, r2⟩ := Dp.reads I (.tuple ds) y u he ry
  exact SeqAt.notIn_tuple_reads r2 r1 ce cd (by omega) ⟨.bl _, H, I, rfl, q⟩
def rdNotIn : DR2 := fun x y M Q => match x, y with
  | .d d, .d (.tuple ds) => d.canLay0 = true ∧ d.depth ≤ 60 ∧ PyData.canLayAll0 ds = true ∧ Q (.d (.bool (!ds.any fun z => PyData.eqv z d))) M
  | _, _ => False
theorem sim_notInT {K : PySem.W.Frag} : Sim2 K rdNotIn (rNotInT K) := by
  intro M H v u x y Q' Q m hv hu h k
  unfold rdNotIn at h
  split at h
  · exact ⟨_, _, Rp.dp hv, Rp.dp hu, h.1, h.2.1, h.2.2.1, k _ _ _ _ h.2.2.2 (Rp.bl _) m TX.rfl'⟩
  · exact h.elim
theorem dnotin (hu : X.A.units + 64 < cLine) (ha : DE Φ X a ta) (hb : DE Φ X b tb) (hm : behindInMarks .NotIn b = false := by rfl) : DE Φ X (.Compare a [.NotIn] [b] pos) (dOp rdNotIn ta tb) := dcmp (op_notInT hu) sim_notInT ha hb hm
theorem dtnotin (hu : X.A.units + 64 < cLine) (ha : DE Φ X a ta) (hb : DE Φ X b tb) (hm : behindInMarks .NotIn b = false := by rfl) : DT Φ X (.Compare a [.NotIn] [b] pos) (dTst (dOp rdNotIn ta tb)) := dtcmp (op_notInT hu) sim_notInT ha hb hm
end
end BN
namespace PySem
open Builtin PyProof.Rows
section
variable {prog : Program} {w : World} {A : Around} {E : Value → Shared → Prop} {s : Shared}
theorem bn_collect_tuple {l : Addr} {vs : List Value} {Q : List Value → Shared → Prop} (hl : s.heap.IsTuple l vs.toArray)
    (h : Q vs { s with heap := (s.heap.push (seqObj "list" #[] 0)).update s.heap.objs.size (Obj.mapSeq (· ++ vs.toArray)) }) (hsz : vs.length ≤ sizeLine) :
    wpAny (model prog w) A (collect (.ref l)) Q E s := by
  obtain ⟨o, ho, hc, n, hd⟩ := id hl
  unfold collect
  refine wpAny_bind (wpAny_runValue (codeAny_builtin entry_proto_collect' ?_))
  show wpAny _ _ (do again (.builtin "list.__iadd__" ⟨[← newList [], .ref l], []⟩)) _ _ s
  refine wpAny_bind (wpAny_newList (wpAny_pure ⟨Code.quiet_builtin _ (by decide +kernel), codeAny_builtin entry_list_iadd' ?_⟩))
  show wpAny _ _ (Builtin.List.listExtendWith (.ref s.heap.objs.size) (.ref l) (.ref s.heap.objs.size)) _ _ { s with heap := s.heap.push (seqObj "list" #[] 0) }
  unfold Builtin.List.listExtendWith
  have ho' : (s.heap.push (seqObj "list" #[] 0)).get? l = some o := Heap.get?_push_of_some _ ho
  refine wpAny_bind (wpAny_typeOf (T := "tuple") ⟨o, ho', hc⟩ ?_)
  have ht : (Value.type "tuple" == Value.type "tuple") = true := by rfl
  rw [if_pos (by rw [ht]; simp)]
  refine wpAny_bind (listItems_at ho' hd ?_)
  refine wpAny_bind (listItems_at (xs := #[]) (n := 0) (Heap.get?_push_size _ rfl) rfl ?_)
  rw [if_neg (by simp)]
  refine wpAny_bind (listUpdate_at (xs := #[]) (n := 0) (Heap.get?_push_size _ rfl) rfl ?_ (Nat.zero_le _) (by show (#[] ++ vs.toArray).size ≤ sizeLine + 1; simp only [Array.size_append, List.size_toArray, List.length_nil]; omega))
  refine wpAny_pure ?_
  show wpAny (model prog w) A (do
      let o ← load s.heap.objs.size
      match o.data with
      | .seq xs _ => pure xs.toList
      | _ => unsupported "internal:collect") Q E { s with heap := (s.heap.push (seqObj "list" #[] 0)).update s.heap.objs.size (Obj.mapSeq (· ++ vs.toArray)) }
  refine wpAny_bind (wpAny_load (get?_update_seq (Heap.get?_push_size _ rfl) _) ?_)
  show wpAny _ _ (pure ((#[] : Array Value) ++ vs.toArray).toList) Q E _
  rw [show ((#[] : Array Value) ++ vs.toArray).toList = vs by simp]
  exact wpAny_pure h
theorem bn_sorted_tup {l : Addr} {vs : List Value} {d : Nat} {B : Int} {Q : Value → Shared → Prop} (hl : s.heap.IsTuple l vs.toArray) (h64 : vs.length < 64) (hd : 1 ≤ d) (x : TS.TupsOk s.heap d B vs)
    (h : ∀ out : Array Value, out.toList.Perm vs → out.toList.Pairwise (fun u v => TS.code B (TS.intsOf s.heap u) ≤ TS.code B (TS.intsOf s.heap v)) → Q (.ref (s.heap.objs.size + 1)) { s with heap := sortedAll s.heap vs out }) :
    wpAny (model prog w) A (call (.builtin "sorted") [.ref l]) Q E s := by
  refine Calls.call_function_entry kind_sorted plain_sorted entry_sorted (args_sorted1 _) ?_
  unfold Builtin.«sorted»
  refine wpAny_bind (m := checkCount "sorted" 1 1 _) (wpAny_pure ?_)
  refine wpAny_bind (bn_collect_tuple hl ?_ (by rw [sizeLine_eq]; omega))
  refine wpAny_bind (wpAny_newList ?_ (by rw [sizeLine_eq]; omega))
  have hsz : ((s.heap.push (seqObj "list" #[] 0)).update s.heap.objs.size (Obj.mapSeq (· ++ vs.toArray))).objs.size = s.heap.objs.size + 1 := by
    rw [Heap.size_update, size_push']
  have hoL : (((s.heap.push (seqObj "list" #[] 0)).update s.heap.objs.size (Obj.mapSeq (· ++ vs.toArray))).push (seqObj "list" vs.toArray 0)).get? (s.heap.objs.size + 1) = some (seqObj "list" vs.toArray 0) := by
    rw [← hsz]; exact Heap.get?_push_size _ rfl
  have keep : ∀ b o, s.heap.get? b = some o → o.cls = .type "tuple" → (((s.heap.push (seqObj "list" #[] 0)).update s.heap.objs.size (Obj.mapSeq (· ++ vs.toArray))).push (seqObj "list" vs.toArray 0)).get? b = some o := fun b o q _ => by
    have hlt : b < s.heap.objs.size := Heap.lt_size q
    rw [Heap.get?_push_ne _ _ _ (by rw [hsz]; exact Nat.ne_of_lt (Nat.lt_succ_of_lt hlt)), Heap.get?_update_ne _ _ _ _ (Nat.ne_of_lt hlt), Heap.get?_push_ne _ _ _ (Nat.ne_of_lt hlt)]
    exact q
  show wpAny _ _ _ _ _ { s with heap := ((s.heap.push (seqObj "list" #[] 0)).update s.heap.objs.size (Obj.mapSeq (· ++ vs.toArray))).push (seqObj "list" vs.toArray 0) }
  rw [hsz]
  refine wpAny_bind (wpAny_holding (wpAny_call_entry slot_list_sort ⟨_, hoL, rfl⟩ entry_list_sort (TS.sort_tups hoL h64 hd (x.keeps keep) (fun v => TS.code B (TS.intsOf s.heap v)) (fun v hv ns t => ?_) fun out a1 a2 => ⟨_, rfl, ?_⟩) (args_list_sort _)))
  · obtain ⟨ns0, t0, _⟩ := x v hv
    have e : ns = ns0 := t.ints.symm.trans (t0.keeps keep).ints
    rw [e]
    show TS.code B (TS.intsOf s.heap v) = TS.code B ns0
    rw [t0.ints]
  · exact wpAny_pure ⟨_, rfl, h out a1 a2⟩
end
end PySem
namespace BN
open PySem PySem.Spec PyProof.Rows L2
def rSortTT (K : PySem.W.Frag) : List V → Hp → VK → Prop := fun vs H Q => ∃ (a : Addr) (xs : List V) (d : Nat) (B : Int), vs = [V.ref a] ∧ SqT K H a xs ∧ xs.length < 64 ∧ 1 ≤ d ∧ (∀ x ∈ xs, ∃ ns, TupI K H x ns ∧ ns.length = d ∧ TS.Bd B ns) ∧
  ∀ (ys : List V) (p : Addr), ys.Perm xs → ys.Pairwise (fun x y => ∀ n m, TupI K H x n → TupI K H y m → TS.code B n ≤ TS.code B m) → H p = none → Q (.ref p) (upd H p (.lst ys))
theorem cr_sortTT {X : Cx} : CallR X (.builtin "sorted") (rSortTT X.K) := by
  intro pins s σ H vs us Q I r h
  obtain ⟨a, xs, d, B, rfl, hs, h64, hd, hx, q⟩ := h
  obtain ⟨its, rv, hl, hz⟩ := I.tuple hs
  rw [Vals.ref1 r]
  obtain ⟨e1, e2⟩ := bkV_refs rv fun x m => by
    obtain ⟨ns, ⟨t, e, _⟩, _⟩ := hx x m
    exact ⟨t, e⟩
  refine PySem.bn_sorted_tup (d := d) (B := B) hl (by rw [← rv.length]; exact h64) hd (fun v hv => ?_) fun out h1 h2 => ?_
  · obtain ⟨t, rfl⟩ := e2 v hv
    have hm : V.ref t ∈ xs := by
      rw [e1]
      exact List.mem_map.mpr ⟨_, hv, rfl⟩
    obtain ⟨ns, ⟨t', e, ht⟩, hn, hb⟩ := hx _ hm
    cases e
    exact ⟨ns, tupI_raw I ht, hn, hb⟩
  · obtain ⟨ep, he'⟩ := PyProof.Rows.sortedAll_at s.heap its out
    have h3 : ∀ u ∈ out.toList, ∃ a, u = Value.ref a := fun u hu => e2 u (h1.mem_iff.mp hu)
    have hp : (out.toList.map bkV).Perm xs := by
      rw [e1]
      exact h1.map bkV
    have hlen : (out.toList.map bkV).length ≤ sizeLine := by
      rw [hp.length_eq]
      exact hz
    refine ⟨.ref _, upd H (s.heap.objs.size + 1) (.lst (out.toList.map bkV)), I.laid (t' := s.toks) (fun _ _ => PyProof.Rows.sortedAll_old) (Nat.le_succ _) ⟨hlen, out.toList, ep, bkV_vals h3, he'⟩, rfl, q _ _ hp ?_ (I.hok.fresh (Nat.le_succ _))⟩
    rw [List.pairwise_map]
    refine List.Pairwise.imp (fun {u v} huv n m hn hm => ?_) h2
    obtain ⟨t, et, ht⟩ := hn
    obtain ⟨t', et', ht'⟩ := hm
    have eu := bkV_ref et
    have ev := bkV_ref et'
    have i1 : TS.intsOf s.heap u = n := by
      rw [eu]
      exact (tupI_raw I ht).ints
    have i2 : TS.intsOf s.heap v = m := by
      rw [ev]
      exact (tupI_raw I ht').ints
    rw [← i1, ← i2]
    exact huv
/-- a tuple of ints -/
def tI (b : List Int) : PyData := .tuple (b.map PyData.int)
theorem tI_inj {b c : List Int} (h : tI b = tI c) : b = c := by
  unfold tI at h
  injection h with h
  exact List.map_inj_right (fun x y e => by injection e) |>.mp h
/-- sorted of a tuple of tuples of ints -/
def rdSorted : DRA := fun xs M Q => match xs with
  | [.d (.tuple ds)] => ∃ (bs : List (List Int)) (d : Nat) (B : Int), ds = bs.map tI ∧ bs.length < 64 ∧ 1 ≤ d ∧ (∀ b ∈ bs, b.length = d ∧ TS.Bd B b) ∧ ∀ cs : List (List Int), cs.Perm bs → cs.Pairwise (fun b c => TS.code B b ≤ TS.code B c) → Q (.d (.list (cs.map tI))) M
  | _ => False
theorem RpL.mem {K : PySem.W.Frag} {M : Wd} {H : Hp} : ∀ {vs : List V} {xs : List PyData}, RpL K M H vs xs → ∀ v ∈ vs, ∃ x ∈ xs, Rp K M H v x
  | _, _, .nil, _, h => absurd h (by simp)
  | _, _, .cons q r, v, h => by
    rcases List.mem_cons.mp h with rfl | h
    · exact ⟨_, List.mem_cons_self, q⟩
    · obtain ⟨x, hx, e⟩ := r.mem v h
      exact ⟨x, List.mem_cons_of_mem _ hx, e⟩
theorem RpL.perm {K : PySem.W.Frag} {M : Wd} {H : Hp} {vs ws : List V} (p : ws.Perm vs) : ∀ {xs : List PyData}, RpL K M H vs xs → ∃ ys, ys.Perm xs ∧ RpL K M H ws ys := by
  have : ∀ {vs ws : List V}, vs.Perm ws → ∀ {xs : List PyData}, RpL K M H vs xs → ∃ ys, ys.Perm xs ∧ RpL K M H ws ys := by
    intro vs ws p
    induction p with
    | nil => intro xs r; exact ⟨xs, .refl _, r⟩
    | cons v _ ih =>
      intro xs r
      cases r with
      | cons q r =>
        obtain ⟨ys, p, r'⟩ := ih r
        exact ⟨_, p.cons _, .cons q r'⟩
    | swap v u _ =>
      intro xs r
      cases r with
      | cons q r =>
        cases r with
        | cons q' r => exact ⟨_, .swap _ _ _, .cons q' (.cons q r)⟩
    | trans _ _ i1 i2 =>
      intro xs r
      obtain ⟨ys, p, r'⟩ := i1 r
      obtain ⟨zs, p', r''⟩ := i2 r'
      exact ⟨zs, p'.trans p, r''⟩
  exact fun {xs} r => this p.symm r
theorem RpL.intsV {K : PySem.W.Frag} {M : Wd} {H : Hp} : ∀ {vs : List V} {b : List Int}, RpL K M H vs (b.map PyData.int) → vs = b.map V.int
  | _, [], .nil => rfl
  | _, i :: b, .cons q r => by
    cases Rp.intI q
    rw [r.intsV]
    rfl
theorem tupI_of {K : PySem.W.Frag} {M : Wd} {H : Hp} {v : V} {b : List Int} (r : Rp K M H v (tI b)) : TupI K H v b := by
  obtain ⟨a, vs, rfl, s, r⟩ := Rp.tupI (show Rp K M H v (.tuple (b.map PyData.int)) from r)
  cases r.intsV
  exact ⟨a, rfl, s⟩
theorem perm_map_inv {α β : Type} (f : α → β) : ∀ {ys : List β} {xs : List α}, ys.Perm (xs.map f) → ∃ zs : List α, zs.Perm xs ∧ ys = zs.map f := by
  have : ∀ {l1 l2 : List β}, l1.Perm l2 → ∀ xs : List α, l1 = xs.map f → ∃ zs : List α, zs.Perm xs ∧ l2 = zs.map f := by
    intro l1 l2 p
    induction p with
    | nil => intro xs e; exact ⟨xs, .refl _, e⟩
    | cons a _ ih =>
      intro xs e
      cases xs with
      | nil => exact absurd e (by simp)
      | cons x xs =>
        injection e with e1 e2
        obtain ⟨zs, p, e3⟩ := ih xs e2
        exact ⟨x :: zs, p.cons _, by rw [List.map_cons, ← e1, e3]⟩
    | swap a b _ =>
      intro xs e
      match xs, e with
      | x :: y :: xs, e =>
        injection e with e1 e2
        injection e2 with e2 e3
        exact ⟨y :: x :: xs, .swap _ _ _, by rw [List.map_cons, List.map_cons, e1, e2, e3]⟩
    | trans _ _ i1 i2 =>
      intro xs e
      obtain ⟨ys, p, e1⟩ := i1 xs e
      obtain ⟨zs, p', e2⟩ := i2 ys e1
      exact ⟨zs, p'.trans p, e2⟩
  exact fun {ys xs} p => this p.symm xs rfl
theorem RpL.pairwise {K : PySem.W.Frag} {M : Wd} {H : Hp} {R : V → V → Prop} {S : PyData → PyData → Prop} (h : ∀ u v x y, Rp K M H u x → Rp K M H v y → R u v → S x y) : ∀ {vs : List V} {xs : List PyData}, RpL K M H vs xs → vs.Pairwise R → xs.Pairwise S
  | _, _, .nil, _ => .nil
  | _, _, .cons q r, p => by
    obtain ⟨p1, p2⟩ := List.pairwise_cons.mp p
    refine List.pairwise_cons.mpr ⟨fun y hy => ?_, r.pairwise h p2⟩
    obtain ⟨j, hj⟩ := List.mem_iff_getElem?.mp hy
    obtain ⟨u, e, q'⟩ := r.get' hj
    exact h _ _ _ _ q q' (p1 u (List.mem_iff_getElem?.mpr ⟨j, e⟩))
theorem sim_sorted {K : PySem.W.Frag} : SimA K rdSorted (rSortTT K) := by
  intro M H vs xs Q' Q m hd h k
  unfold rdSorted at h
  split at h
  · obtain ⟨bs, d, B, rfl, h64, h1, hb, h⟩ := h
    cases hd with
    | cons hv r =>
      cases r
      obtain ⟨a, us, rfl, s, r⟩ := Rp.tupI hv
      refine ⟨a, us, d, B, rfl, s, by rw [r.length]; simpa using h64, h1, fun x hx => ?_, fun ys p hp hw hn => ?_⟩
      · obtain ⟨z, hz, q⟩ := r.mem x hx
        obtain ⟨b, hb', rfl⟩ := List.mem_map.mp hz
        exact ⟨b, tupI_of q, hb b hb'⟩
      · obtain ⟨zs, pz, rz⟩ := RpL.perm hp r
        obtain ⟨cs, pc, rfl⟩ := perm_map_inv tI pz
        have pw : (cs.map tI).Pairwise (fun x y => ∀ b c, x = tI b → y = tI c → TS.code B b ≤ TS.code B c) := rz.pairwise (fun u v x y q1 q2 hR b c e1 e2 => by
          subst e1 e2
          exact hR b c (tupI_of q1) (tupI_of q2)) hw
        rw [List.pairwise_map] at pw
        exact k _ (M.fix p) _ _ (h cs pc (pw.imp fun {b c} q => q b c rfl rfl)) (Rp.lst ⟨upd_same, .inl rfl⟩ (rz.tx (TX.new hn))) (m.new hn) (TX.new hn)
  · exact h.elim
theorem dsorted {Φ : Ph} {X : Cx} {p pos : Pos} {e : Expr} {es : List Expr} {ts : List DTE} (hc : X.calm = true) (hm : X.mg "sorted" = none) (ha : DA Φ X (e :: es) ts) (hg : Gl X "sorted" := by rfl) (he : starEach (e :: es) X.env = (false, eval e X.env) :: starEach es X.env := by rfl) (hpl : (backTo pos (starEach es X.env)).any (·.1) = false := by rfl) :
    DE Φ X (.Call (.Name "sorted" p) (e :: es) [] pos) (dCB rdSorted ts) := dcallB cr_sortTT sim_sorted hm (by decide +kernel) ha hg (by decide) (by decide) he hpl
end BN

/-! D layer, part 9: within an except suite (an exception is handled): the ends of iterators, zip of lists, comprehensions -/
namespace PySem
open Builtin HotX
section
variable {prog : Program} {w : World} {A : Around} {s : Shared}
theorem bn_stop_hot {α : Type} {Q : α → Shared → Prop} {E : Value → Shared → Prop} {x1 : Addr} (hot : HotAt A x1 s.heap)
    (hE : ∀ h' e, (∀ b o, s.heap.get? b = some o → h'.get? b = some o) → (∃ o, h'.get? e = some o ∧ o.cls = .type "StopIteration") → E (.ref e) { s with heap := h' }) :
    wpAny (model prog w) A (newExc (.type "StopIteration") [] >>= fun e => (raiseNew e : Sem α)) Q E s := by
  obtain ⟨hh, o1, vs1, h1, d1, c1⟩ := hot
  refine wpAny_bind ?_
  simp only [newExc, newTuple]
  refine wpAny_bind (wpAny_newObj_type ?_ (by size_fits))
  refine wpAny_bind (m := firstArgMember _ _) (wpAny_of_eq (a := Value.none) (by first | rfl | (simp only [firstArgMember]; rfl)) (wpAny_newObj_type ?_ (by size_fits)))
  have g1 := Heap.get?_push_of_some { cls := .type "tuple", data := .seq ([] : List Value).toArray } h1
  refine raiseNew_hot ⟨hh, o1, vs1, Heap.get?_push_of_some _ g1, d1, c1⟩ (Nat.ne_of_lt (Heap.lt_size g1)) (Heap.get?_push_size _ rfl) rfl (by first | (simp; done) | (simp; omega) | (simp only [Array.size_append]; simp; omega)) ?_
  refine hE _ _ (fun b o e => ?_) ⟨_, Heap.get?_update_self _ (Heap.get?_push_size _ rfl) rfl, rfl⟩
  have g2 := Heap.get?_push_of_some { cls := .type "tuple", data := .seq ([] : List Value).toArray } e
  rw [Heap.get?_update_other _ _ (Nat.ne_of_gt (Heap.lt_size g2))]
  exact Heap.get?_push_of_some _ g2
theorem bn_hot_upd {x1 it : Addr} {f : Obj → Obj} {h : Heap} (hot : HotAt A x1 h) (hne : x1 ≠ it) : HotAt A x1 (h.update it f) := by
  obtain ⟨hh, o1, vs1, h1, d1, c1⟩ := hot
  exact ⟨hh, o1, vs1, by rw [Heap.get?_update_ne _ _ _ _ hne]; exact h1, d1, c1⟩
theorem bn_nextOf_list_hot {it l x1 : Addr} {i : Nat} {items : Array Value} {Q E : Value → Shared → Prop} (hot : HotAt A x1 s.heap) (hne : x1 ≠ it) (hit : s.heap.IsListIter it l i) (hl : s.heap.IsList l items) (hx : items[i]? = none)
    (hE : ∀ h' e, Heap.ExtBut it s.heap h' → (∃ o, h'.get? e = some o ∧ o.cls = .type "StopIteration") → E (.ref e) { s with heap := h' }) : wpAny (model prog w) A (Builtin.SmallTypes.nextOf (.ref it)) Q E s := by
  obtain ⟨o, ho, hc, hd⟩ := id hit
  obtain ⟨ol, hol, _, nl, hdl⟩ := hl
  unfold Builtin.SmallTypes.nextOf
  refine wpAny_bind (wpAny_callSpecial?_slot (name := Str.ofString "__next__") hit.typeIs slot_listiter_next (wpAny_call_entry slot_listiter_next hit.typeIs entry_listiter_next ?_ (args_listiter_next _)))
  show wpAny _ A.in1 (field (.ref it) 0 >>= _) _ _ s
  refine wpAny_bind (wpAny_field ho hd (x := .ref l) rfl ?_)
  show wpAny _ A.in1 (if (Value.ref l == Value.none) = true then _ else _) _ _ s
  rw [if_neg (show ¬ ((Value.ref l == Value.none) = true) from fun z => nomatch z)]
  show wpAny _ A.in1 (field (.ref it) 1 >>= _) _ _ s
  refine wpAny_bind (wpAny_field ho hd (x := .int i 0) rfl ?_)
  show wpAny _ A.in1 (seqItems? (.ref l) >>= _) _ _ s
  refine wpAny_bind (wpAny_seqItems hol hdl ?_)
  simp only [Int.toNat_natCast, hx]
  refine wpAny_bind (wpAny_rule (wpAny_bind (wpAny_setField ho hd (by simp) ?_)))
  exact bn_stop_hot (A := A.in1) (x1 := x1) (bn_hot_upd (A := A.in1) hot hne) fun h' e k c => hE h' e (fun b ob hb q => k b ob ((Heap.SameBut.update ..).extBut b ob hb q)) c
theorem bn_pyNext_tuple_hot {it t x1 : Addr} {i : Nat} {items : Array Value} {Q : Option Value → Shared → Prop} {E : Value → Shared → Prop} (hot : HotAt A x1 s.heap) (hne : x1 ≠ it) (hit : s.heap.IsTupleIter it t i) (ht : s.heap.IsTuple t items) (hx : items[i]? = none)
    (hQ : ∀ h', Heap.ExtBut it s.heap h' → Q none { s with heap := h' }) : wpAny (model prog w) A (pyNext (.ref it)) Q E s := by
  obtain ⟨o, ho, hc, hd⟩ := id hit
  obtain ⟨ol, hol, _, nl, hdl⟩ := ht
  unfold pyNext
  refine wpAny_bind (wpAny_attempt (wpAny_callSpecial?_slot (name := Str.ofString "__next__") hit.typeIs F.slot_tuple_iterator_next (wpAny_call_entry F.slot_tuple_iterator_next hit.typeIs F.entry_tuple_iterator_next ?_ (F.args_tuple_iterator_next_1 _))))
  show wpAny _ A.in1 (field (.ref it) 0 >>= _) _ _ s
  refine wpAny_bind (wpAny_field ho hd (x := .ref t) rfl ?_)
  show wpAny _ A.in1 (if (Value.ref t == Value.none) = true then _ else _) _ _ s
  rw [if_neg (show ¬ ((Value.ref t == Value.none) = true) from fun z => nomatch z)]
  show wpAny _ A.in1 (field (.ref it) 1 >>= _) _ _ s
  refine wpAny_bind (wpAny_field ho hd (x := .int i 0) rfl ?_)
  show wpAny _ A.in1 (seqItems? (.ref t) >>= _) _ _ s
  refine wpAny_bind (wpAny_seqItems hol hdl ?_)
  simp only [Int.toNat_natCast, hx]
  refine wpAny_bind (wpAny_rule (wpAny_bind (wpAny_setField ho hd (by simp) ?_)))
  refine bn_stop_hot (A := A.in1) (x1 := x1) (bn_hot_upd (A := A.in1) hot hne) fun h' e k c => ?_
  obtain ⟨oe, g, cl⟩ := c
  refine wpAny_bind (wpAny_isInstance (T := "StopIteration") (b := true) ⟨oe, g, cl⟩ isSubtype_stop ?_)
  exact wpAny_pure (hQ h' fun b ob hb q => k b ob ((Heap.SameBut.update ..).extBut b ob hb q))
theorem bn_assign_tup_hot {env : Env} {elts : List Expr} {k : Nat} {pos : Pos} {t x1 : Addr} {items : Array Value} {Q : Unit → Shared → Prop} {E : Value → Shared → Prop} (hot : HotAt A x1 s.heap) (ht : s.heap.IsTuple t items) (hn : (assignEach elts env).length = items.size) (hstar : (assignEach elts env).findIdx? (·.1) = none)
    (h : ∀ h', Heap.ExtBut s.heap.objs.size s.heap h' → wpAny (model prog w) A (assignInOrder ((assignEach elts env).map (·.2)) items.toList) Q E { s with heap := h' }) : wpAny (model prog w) A (assign (.Tuple elts k pos) env (.ref t)) Q E s := by
  obtain ⟨hh, o1, vs1, h1, d1, c1⟩ := hot
  have hlt : t < s.heap.objs.size := by
    obtain ⟨o, ho, _⟩ := ht
    exact Heap.lt_size ho
  have hx1 : x1 < s.heap.objs.size := Heap.lt_size h1
  rw [PyProof.Rows.assign_Tuple]
  refine wpAny_bind (wpAny_standAt ?_)
  unfold unpack
  rw [hn, hstar]
  refine wpAny_bind (wpAny_holding ?_)
  unfold unpackItems
  refine wpAny_bind ?_
  unfold notIterableAtAll
  refine wpAny_bind (wpAny_specialOf ht.typeIs F.slot_tuple_iter.lookup (wpAny_pure ?_))
  simp only [Bool.false_eq_true, if_false]
  refine wpAny_bind (wpAny_holding (wpAny_pyIter_tuple ht ?_))
  refine wpAny_bind (wpAny_holding (wpAny_draw_tuple (Nat.ne_of_lt hlt) items.size 0 _ _ ⟨_, Heap.get?_push_size _ rfl, rfl, rfl⟩ (ht.push _) (by omega) fun h2 i2 s2 => ?_))
  rw [show (items.toList.drop 0).take items.size = items.toList by rw [List.drop_zero]; exact List.take_of_length_le (by simp), if_neg (by simp)]
  have g1 : h2.get? x1 = some o1 := s2.extBut _ _ (Nat.ne_of_lt hx1) (Heap.get?_push_of_some _ h1)
  refine wpAny_bind (wpAny_holding (bn_pyNext_tuple_hot (x1 := x1) ⟨hh, o1, vs1, g1, d1, c1⟩ (Nat.ne_of_lt hx1) i2 ((ht.push _).extBut s2.extBut (Nat.ne_of_lt hlt)) (by simp) fun h3 e3 => ?_))
  simp only [Option.isSome_none, Bool.false_eq_true, if_false]
  exact wpAny_pure (h h3 fun b o hb e => e3 b o hb (s2.extBut b o hb (Heap.get?_push_of_some _ e)))
/-- the items of a list, in a hot place -/
theorem bn_draws_hot (it l x1 : Addr) (o1 : Obj) (vs1 : Array Value) (hh : A.handled = some (.ref x1)) (d1 : o1.data = .fields vs1) (c1 : vs1[2]? = some .none) (hne : l ≠ it) (hx : x1 ≠ it) (items : Array Value) :
    Draws prog w A it [it, l, x1] items.size (fun i v => items[i]? = some v) (fun i h => (h.IsListIter it l i ∧ h.IsList l items) ∧ h.get? x1 = some o1) where
  live := fun _ _ st => let ⟨o, ho, _⟩ := st.1.1; ⟨o, ho⟩
  frame := fun _ _ _ st hk => ⟨⟨st.1.1.at fun o e => hk it (by simp) o e, st.1.2.at fun o e => hk l (by simp) o e⟩, hk x1 (by simp) _ st.2⟩
  item := fun i s Q E hi st hQ => by
    refine wpAny_nextOf_list_item st.1.1 st.1.2 (x := items[i]) (by simp [hi]) fun h' hit' hs' => ?_
    exact hQ _ h' s.toks (by simp [hi]) ⟨⟨hit', st.1.2.extBut hs'.extBut hne⟩, hs'.extBut _ _ hx st.2⟩ hs'
  done := fun s Q E st hE => bn_nextOf_list_hot (x1 := x1) ⟨hh, o1, vs1, st.2, d1, c1⟩ hx st.1.1 st.1.2 (by simp) hE
end
end PySem

/-! D layer, part 10: zip of lists and comprehensions where an exception is handled -/
namespace BN
open PySem PySem.Spec PyProof.Rows L2 HotX L2H
/-- a walk's turns where the exception p is handled -/
structure TurnP (P : Program) (w : World) (K : PySem.W.Frag) (tg : Expr) (J : It) (fp : List Addr) (it : Addr) (tn : Nat → Heap → Prop) : Prop where
  mem : it ∈ fp
  obj : ∀ i h, tn i h → ∀ b ∈ fp, ∃ o, h.get? b = some o ∧ ∀ v, o.data ≠ .cell v
  keep : ∀ i h h', tn i h → (∀ b ∈ fp, ∀ o, h.get? b = some o → h'.get? b = some o) → tn i h'
  item : ∀ (X : Cx) (p : Addr × Obj), X.prog = P → X.w = w → X.K = K → Hot1 X.A p → ∀ (i : Nat) (pins : List (Addr × Obj)) (s : Shared) (σ : St) (H : Hp) (E : Value → Shared → Prop), p ∈ X.pn ++ pins → Inv X pins σ H s → (∀ b ∈ fp, FpOk X pins H b) → tn i s.heap → J.go i H →
    wpAny (model P w) X.A (pyNext (.ref it)) (fun r s1 => ∃ u, r = some u ∧
      wpAny (model P w) X.A (letOwnedTupleGo tg (.ref it) u) (fun _ s2 => ∃ x H', Inv X pins σ H' s2 ∧ RelV x u ∧ J.yld i H x H' ∧ tn (i + 1) s2.heap ∧ ∀ b ∈ fp, H' b = none) E s1) E s
  done : ∀ (X : Cx) (p : Addr × Obj), X.prog = P → X.w = w → X.K = K → Hot1 X.A p → ∀ (i : Nat) (pins : List (Addr × Obj)) (s : Shared) (σ : St) (H : Hp) (E : Value → Shared → Prop), p ∈ X.pn ++ pins → Inv X pins σ H s → (∀ b ∈ fp, FpOk X pins H b) → tn i s.heap → J.stop i H →
    wpAny (model P w) X.A (pyNext (.ref it)) (fun r s1 => r = none ∧ Inv X pins σ H s1) E s
  self : ∀ (A : Around) (i : Nat) (s : Shared) (Q : Value → Shared → Prop) (E : Value → Shared → Prop), tn i s.heap → Q (.ref it) s → wpAny (model P w) A (pyIter (.ref it)) Q E s
theorem sep_hot {z TI TO i1 i2 a b x : Addr} (S : ZipSep2 z TI TO i1 i2 [i1, a] [i2, b]) (h : ∀ c ∈ [z, TI, TO, i1, i2], x ≠ c) : ZipSep2 z TI TO i1 i2 [i1, a, x] [i2, b, x] := by
  have h1 := h z (by simp); have h2 := h TI (by simp); have h3 := h TO (by simp); have h4 := h i1 (by simp); have h5 := h i2 (by simp)
  have out : ∀ {c u v : Addr}, c ∉ [u, v] → x ≠ c → c ∉ [u, v, x] := fun {c u v} g n m => by
    simp only [List.mem_cons, List.not_mem_nil, or_false, not_or] at g m
    rcases m with e | e | e
    · exact g.1 e
    · exact g.2 e
    · exact n e.symm
  exact { TIz := S.TIz, TOz := S.TOz, TITO := S.TITO, TIi1 := S.TIi1, mem1 := by simp, zf1 := out S.zf1 h1, Tf1 := out S.Tf1 h3, TIi2 := S.TIi2, mem2 := by simp, zf2 := out S.zf2 h1, Tf2 := out S.Tf2 h3, sep1_2 := out S.sep1_2 h4, sep2_1 := out S.sep2_1 h5 }
theorem turn_zipH {P : Program} {w : World} {K : PySem.W.Frag} {elts : List Expr} {kk : Nat} {tpos : Pos} {a b z TI TO i1 i2 : Addr} (S0 : ZipSep2 z TI TO i1 i2 [i1, a] [i2, b]) (n1 : a ≠ i1) (n2 : b ≠ i2) :
    TurnP P w K (.Tuple elts kk tpos) (ItzK K true true a b) [z, TI, TO, i1, i2] z (fun i h => IsZip h z TI TO .none ∧ IsTupOf2 h TI (.ref i1) (.ref i2) ∧ (∃ x y, IsTupOf2 h TO x y) ∧ h.IsListIter i1 a i ∧ h.IsListIter i2 b i) where
  mem := List.mem_cons_self
  obj := (turn_zipK (P := P) (w := w) (K := K) (elts := elts) (kk := kk) (tpos := tpos) (k1 := true) (k2 := true) S0 n1 n2).obj
  keep := (turn_zipK (P := P) (w := w) (K := K) (elts := elts) (kk := kk) (tpos := tpos) (k1 := true) (k2 := true) S0 n1 n2).keep
  self := fun A i s Q E st h => wpAny_pyIter_zip st.1 h
  item := by
    intro X ⟨x1, o1⟩ hP hw hK ⟨hh, vs1, d1, c1⟩ i pins s σ H E hp I hf ⟨hz, hTI, ⟨x0, y0, hTO⟩, h1, h2⟩ ⟨xs, ys, x, y, hqx, hqy, hx, hy⟩
    subst hP hw hK
    have S := sep_hot (x := x1) S0 fun c hc => (hf c hc).2.2.2.2.2 _ hp
    have g0 := (I.pin _ hp).1
    have m1 : x1 ≠ i1 := (hf i1 (by simp)).2.2.2.2.2 _ hp
    have m2 : x1 ≠ i2 := (hf i2 (by simp)).2.2.2.2.2 _ hp
    obtain ⟨its, rv, p, _⟩ := seqK true I hqx
    obtain ⟨its2, rv2, p2, _⟩ := seqK true I hqy
    obtain ⟨u, hu, ru⟩ := rv.get hx
    obtain ⟨u2, hu2, ru2⟩ := rv2.get hy
    have zlt : z < s.heap.objs.size := Heap.lt_size hz
    have b1 : i < its.toArray.size := by have := (List.getElem?_eq_some_iff.mp hu).1; simpa using this
    have b2 : i < its2.toArray.size := by have := (List.getElem?_eq_some_iff.mp hu2).1; simpa using this
    have e1' : its.toArray[i]? = some u := by simpa using hu
    have e2' : its2.toArray[i]? = some u2 := by simpa using hu2
    refine wpAny_pyNext_zipD2_item S (bn_draws_hot (A := X.A.in1) i1 a x1 o1 vs1 hh d1 c1 n1 m1 its.toArray) (bn_draws_hot (A := X.A.in1) i2 b x1 o1 vs1 hh d1 c1 n2 m2 its2.toArray) hz hTI hTO ⟨⟨h1, p⟩, g0⟩ ⟨⟨h2, p2⟩, g0⟩ b1 b2 fun v1 v2 h' tk e1 e2 z' TO' s1 s2 hT hsz hk => ?_
    rw [e1'] at e1; cases e1
    rw [e2'] at e2; cases e2
    refine ⟨_, rfl, wpAny_letOwnedTupleGo_zip (s := { s with heap := h', toks := tk }) z' fun h'' z'' sb => ?_⟩
    have gT : h''.get? s.heap.objs.size = some { cls := .type "tuple", data := .seq #[u, u2] } := (sb.2 _ (Nat.ne_of_gt zlt)).trans hT
    have I1 : Inv X pins σ (upd H s.heap.objs.size (.tup [x, y])) { s with heap := h'', toks := tk } :=
      I.turnedNew (t' := tk) (ch := [z, TI, TO, i1, i2]) (fun c o hb q => (sb.2 c fun q' => hb (by simp [q'])).trans (hk c o (fun q' => hb (by simp [q'])) (fun q' => hb (by simp [q'])) (fun q' => hb (by simp [q'])) (fun q' => hb (by simp [q'])) q)) hf (Nat.le_refl _)
        ⟨by show 2 ≤ sizeLine; decide, [u, u2], .cons ru (.cons ru2 .nil), ⟨_, gT, rfl, _, rfl⟩⟩
    have j1 : i1 ≠ z := fun e => S.zf1 (by rw [← e]; exact S.mem1)
    have j2 : i2 ≠ z := fun e => S.zf2 (by rw [← e]; exact S.mem2)
    refine ⟨.ref s.heap.objs.size, _, I1, rfl, ⟨_, x, y, rfl, I.hok.fresh (Nat.le_refl _), rfl, fun l hl => by rw [seqK_inj true I hl hqx]; exact hx, fun l hl => by rw [seqK_inj true I hl hqy]; exact hy⟩,
      ⟨z'', (sb.2 _ S.TIz).trans (hk _ _ S.TIz S.TITO S.TIi1 S.TIi2 hTI), ⟨u, u2, (sb.2 _ S.TOz).trans TO'⟩, s1.1.1.at fun o q => (sb.2 _ j1).trans q, s2.1.1.at fun o q => (sb.2 _ j2).trans q⟩, fun c hcm => ?_⟩
    have hlt : c < s.heap.objs.size := by
      obtain ⟨o, e, _⟩ := (turn_zipK (P := X.prog) (w := X.w) (K := X.K) (elts := elts) (kk := kk) (tpos := tpos) (k1 := true) (k2 := true) S0 n1 n2).obj i s.heap ⟨hz, hTI, ⟨x0, y0, hTO⟩, h1, h2⟩ c hcm
      exact Heap.lt_size e
    rw [upd_ne (Nat.ne_of_lt hlt)]
    exact (hf c hcm).1
  done := by
    intro X ⟨x1, o1⟩ hP hw hK ⟨hh, vs1, d1, c1⟩ i pins s σ H E hp I hf ⟨hz, hTI, ⟨x0, y0, hTO⟩, h1, h2⟩ ⟨xs, ys, hqx, hqy, hend⟩
    subst hP hw hK
    have S := sep_hot (x := x1) S0 fun c hc => (hf c hc).2.2.2.2.2 _ hp
    have g0 := (I.pin _ hp).1
    have m1 : x1 ≠ i1 := (hf i1 (by simp)).2.2.2.2.2 _ hp
    have m2 : x1 ≠ i2 := (hf i2 (by simp)).2.2.2.2.2 _ hp
    obtain ⟨its, rv, p, _⟩ := seqK true I hqx
    obtain ⟨its2, rv2, p2, _⟩ := seqK true I hqy
    have l1 := rv.length
    have l2 := rv2.length
    exact wpAny_pyNext_zipD2_end S (bn_draws_hot (A := X.A.in1) i1 a x1 o1 vs1 hh d1 c1 n1 m1 its.toArray) (bn_draws_hot (A := X.A.in1) i2 b x1 o1 vs1 hh d1 c1 n2 m2 its2.toArray) hz hTI hTO ⟨⟨h1, p⟩, g0⟩ ⟨⟨h2, p2⟩, g0⟩ (by simp; omega) (by simp; omega) (by simp; omega)
      fun h' tk hk => ⟨rfl, I.turnedL (t' := tk) (ch := [z, TI, TO, i1, i2]) (fun c o hb q => hk c o (fun q' => hb (by simp [q'])) (fun q' => hb (by simp [q'])) (fun q' => hb (by simp [q'])) (fun q' => hb (by simp [q'])) q) hf⟩
def PIEP (X : Cx) (pins : List (Addr × Obj)) (σ : St) (tg : Expr) (R : It → Hp → Prop) (itv : Value) (s2 : Shared) : Prop :=
  ∃ (it : Addr) (fp : List Addr) (tn : Nat → Heap → Prop) (J : It) (H' : Hp), itv = .ref it ∧ Inv X pins σ H' s2 ∧ TurnP X.prog X.w X.K tg J fp it tn ∧ tn 0 s2.heap ∧ (∀ b ∈ fp, FpOk X pins H' b) ∧ R J H'
structure PIP (X : Cx) (tg iter : Expr) (wi : TI) : Prop where
  run : ∀ (pins : List (Addr × Obj)) (s : Shared) (σ : St) (H : Hp) (R : It → Hp → Prop), Inv X pins σ H s → wi σ H R →
    wpAny (model X.prog X.w) X.A (eval iter X.env) (fun v s1 => wpAny (model X.prog X.w) X.A (pyIter v) (PIEP X pins σ tg R) X.xe s1) X.xe s
theorem pip_mono {X : Cx} {tg iter : Expr} {wi wi' : TI} (h : PIP X tg iter wi) (w : ∀ σ H R, wi' σ H R → wi σ H R) : PIP X tg iter wi' := ⟨fun pins s σ H R I q => h.run pins s σ H R I (w _ _ _ q)⟩
def iZipH (K : PySem.W.Frag) (ta : TA) : TI := fun σ H R => ta σ H fun vs H1 => ∃ a b xs ys, vs = [.ref a, .ref b] ∧ SqK K H1 true a xs ∧ SqK K H1 true b ys ∧ R (ItzK K true true a b) H1
theorem pi_zipH {X : Cx} {e e2 : Expr} {ta : TA} {p pos tpos : Pos} {elts : List Expr} {kk : Nat} (hg : Gl X "zip") (hm : X.mg "zip" = none) (ha : PA X [e, e2] ta)
    (hs : starEach [e, e2] X.env = (false, eval e X.env) :: starEach [e2] X.env := by rfl) (hpl : (backTo pos (starEach [e2] X.env)).any (·.1) = false := by rfl) :
    PIP X (.Tuple elts kk tpos) (.Call (.Name "zip" p) [e, e2] [] pos) (iZipH X.K ta) := by
  refine ⟨fun pins s σ H R I h => Call_ (ld_blt I hg hm PyProof.Rows.boot_zip (PyProof.Rows.callWith_type1 (thn (ha.run pos pins s σ H _ I h) fun us s1 ⟨vs, H1, I1, r1, a, b, xs, ys, ex, hqx, hqy, q⟩ => ?_) hs hpl))⟩
  subst ex
  obtain ⟨va, vb, rfl, ra, rb⟩ := vals2 r1
  cases ra
  cases rb
  obtain ⟨its, rv, p1, la⟩ := seqK true I1 hqx
  obtain ⟨its2, rv2, p2, lb⟩ := seqK true I1 hqy
  refine zip_begins2 (begK true a its.toArray) (begK true b its2.toArray) p1 p2 fun h' hz hTI hTO h1 h2 hsz hk => wpAny_pyIter_zip hz ?_
  refine ⟨s1.heap.objs.size + 4, [s1.heap.objs.size + 4, s1.heap.objs.size + 2, s1.heap.objs.size + 3, s1.heap.objs.size, s1.heap.objs.size + 1], _, _, H1, rfl, I1.kept (t' := s1.toks) hk,
    turn_zipH (zip_sep2 (fp1 := [a]) (fp2 := [b]) (fun c hc => by cases List.mem_singleton.mp hc; exact la) (fun c hc => by cases List.mem_singleton.mp hc; exact lb)) (Nat.ne_of_lt la) (Nat.ne_of_lt (Nat.lt_succ_of_lt lb)), ⟨hz, hTI, ⟨_, _, hTO⟩, itK_new (b := true) h1, itK_new (b := true) h2⟩, fun c hcm => ?_, q⟩
  have hle : s1.heap.objs.size ≤ c := by
    simp only [List.mem_cons, List.not_mem_nil, or_false] at hcm
    rcases hcm with z | z | z | z | z <;> subst z <;> first | exact Nat.le_refl _ | exact Nat.le_add_right _ _
  exact I1.fpOk hle (I1.hok.fresh hle)
end BN

/-! D layer, part 11: a list comprehension where an exception is handled -/
namespace BN
open PySem PySem.Spec PyProof.Rows L2 HotX L2H
theorem lcH_core {X : Cx} {pins : List (Addr × Obj)} {s : Shared} {σ : St} {H : Hp} {Q : VK} {elt tg iter : Expr} {ifs : List Expr} {scope : Scope} {own : List (Str × Nat)} {pos pos' : Pos} {wi : TI} {g : TG} {tt : TT} {te : TE} {use : Option (Value → Sem Unit)} {Qf : Value → Shared → Prop} {p : Addr × Obj}
    (hot : Hot1 X.A p) (hpn : p ∈ X.pn) (hN : X.N.Nodup) (I : Inv X pins σ H s) (hi : PIP X tg iter wi) (ok : BlkOk X.N X.env.scope scope own)
    (hg : inBlk X scope fun Y => PG { Y with pn := [p] } tg g) (ht : inBlk X scope fun Y => PTs { Y with pn := [p] } ifs tt) (he : inBlk X scope fun Y => PE { Y with pn := [p] } elt te) (hs : ∀ x, foldedSetIterable iter X.env x = pure x) (h : tLc wi g tt te (own.map (·.2)) σ H Q)
    (fin : ∀ D C s' m H', Inv X pins σ H' s' → Q (.ref D) H' → s'.heap.Ns C m → FpOk X pins H' C → compPost (model X.prog X.w) X.A X.xe use Qf (.ref D) C (.ok .next) s') :
    wpAny (model X.prog X.w) X.A (comprehension (.ListComp elt [⟨tg, iter, ifs, 0⟩] scope pos) scope X.env pos' (newList []) false (eval iter X.env) use) Qf X.xe s := by
  have free : ∀ y ∈ scope.names, y.2 = .free → ∃ c, X.env.cells.lookup y.1 = some c := fun y hy e => (ok.free y hy e).elim (fun k => I.ok.has _ (.inl k)) fun k => I.ok.has _ (.inr k)
  refine wpAny_comprehension_free (use := use) rfl hs (closure_ok free) ok.kind (fun y hy e => by rw [ok.uniq y hy, e]) (thn (hi.run pins s σ H _ I h) fun _ s1 hx => thn hx fun itv s2 ⟨it, fp, tn, J, H2, e, I2, T, st2, f2, q⟩ => ?_)
  subst e
  refine wpAny_newObj_type (newEnv_comp ?_) (by show 0 ≤ sizeLine; decide)
  generalize hD : s2.heap.objs.size = D
  obtain ⟨W, ⟨m0, w0⟩, turn⟩ := q D (I2.hok.fresh (Nat.le_of_eq hD))
  generalize hs3 : ({ s2 with heap := s2.heap.push { cls := .type "list", data := .seq ([] : List Value).toArray } } : Shared) = s3
  have e3 : s3.heap = s2.heap.push { cls := .type "list", data := .seq ([] : List Value).toArray } := by rw [← hs3]
  have I3 : Inv X pins σ (upd H2 D (.lst [])) s3 := by
    rw [← hs3]
    exact I2.laid (t' := s2.toks) (fun b o e => Heap.get?_push_of_some _ e) (Nat.le_of_eq hD) ⟨Nat.zero_le _, [], 0, .nil, by rw [← hD]; exact Heap.get?_push_size _ rfl⟩
  have f3 : ∀ b ∈ fp, FpOk X pins (upd H2 D (.lst [])) b ∧ b < s3.heap.objs.size := fun b hb => by
    obtain ⟨o, eo, _⟩ := T.obj _ _ st2 b hb
    have hlt := Heap.lt_size eo
    exact ⟨⟨by rw [upd_ne (by rw [← hD]; exact Nat.ne_of_lt hlt)]; exact (f2 b hb).1, (f2 b hb).2⟩, by rw [e3, Heap.size_push]; exact Nat.lt_succ_of_lt hlt⟩
  have st3 : tn 0 s3.heap := T.keep _ _ _ st2 fun b _ o e => by rw [e3]; exact Heap.get?_push_of_some _ e
  have I4 := block_start I3 ok hN f3
  have P3 := I3.pin p (List.mem_append_left _ hpn)
  have pg := hg s3 (upd H2 D (.lst [])) s3.heap.objs.size (cellsFrom (s3.heap.objs.size + 1) scope.names (cloFrom X.env.cells scope.names [])) fp
  have pt := ht s3 (upd H2 D (.lst [])) s3.heap.objs.size (cellsFrom (s3.heap.objs.size + 1) scope.names (cloFrom X.env.cells scope.names [])) fp
  have pe := he s3 (upd H2 D (.lst [])) s3.heap.objs.size (cellsFrom (s3.heap.objs.size + 1) scope.names (cloFrom X.env.cells scope.names [])) fp
  show codeAny _ _ (.compStart (.ListComp elt [⟨tg, iter, ifs, 0⟩] scope pos) 0 (.ref it) (.ref D) (compEnvC scope (cellsFrom (s3.heap.objs.size + 1) scope.names (cloFrom X.env.cells scope.names [])) s3.heap.objs.size X.env)) (compPost (model X.prog X.w) X.A X.xe use Qf (.ref D) s3.heap.objs.size) { s3 with heap := pushCells (s3.heap.push { cls := .type "dict", data := .dict #[] }) scope.names }
  generalize hce : compEnvC scope (cellsFrom (s3.heap.objs.size + 1) scope.names (cloFrom X.env.cells scope.names [])) s3.heap.objs.size X.env = ce at I4 pg pt pe ⊢
  have cL : ce.locals = s3.heap.objs.size := by subst hce; rfl
  generalize hH3 : upd H2 D (.lst []) = H3 at I3 I4 pg pt pe w0 f3 P3
  have kp4 : ∀ b o, s3.heap.get? b = some o → (pushCells (s3.heap.push { cls := .type "dict", data := .dict #[] }) scope.names).get? b = some o := fun b o e => pushCells_keeps _ _ _ _ (Heap.get?_push_of_some _ e)
  generalize hs4 : ({ s3 with heap := pushCells (s3.heap.push { cls := .type "dict", data := .dict #[] }) scope.names } : Shared) = s4 at I4 ⊢
  have st4 : tn 0 s4.heap := T.keep _ _ _ st3 fun b _ o e => by rw [← hs4]; exact kp4 b o e
  -- the block's place, the handled exception pinned
  have I4p : Inv { X.blk s3 H3 scope ce fp with pn := [p] } [] (wipe σ (own.map (·.2))) H3 s4 := by
    refine ⟨⟨I4.ok.mod, I4.ok.kind, I4.ok.glob, I4.ok.blt, I4.ok.above, I4.ok.inj, I4.ok.has, I4.ok.cab, I4.ok.hd, I4.ok.frames, I4.ok.stk, I4.ok.exf, I4.ok.bs, I4.ok.bsz, I4.ok.noex, I4.ok.exfs, I4.ok.funs, I4.ok.frf⟩, I4.os, I4.bare, I4.base, I4.loc, I4.cell, I4.free, I4.freeC, fun r hr => ?_, I4.hok, I4.len⟩
    have er : r = p := by simpa using (show r ∈ [p] ++ ([] : List (Addr × Obj)) from hr)
    subst er
    refine ⟨by rw [← hs4]; exact kp4 _ _ P3.1, P3.2.1, by rw [show ({ X.blk s3 H3 scope ce fp with pn := [r] } : Cx).env.locals = ce.locals from rfl, cL]; exact Nat.ne_of_lt (Heap.lt_size P3.1), fun hm => ?_, P3.2.2.2.2⟩
    exact (List.mem_cons.mp (I3.stkSub r.1 hm)).elim P3.2.2.1 P3.2.2.2.1
  have stat : ∀ {σ' : St} {H' : Hp} {s' : Shared}, Inv { X.blk s3 H3 scope ce fp with pn := [p] } [] σ' H' s' → (∀ b ∈ fp, H' b = none) → ∀ b ∈ fp, FpOk { X.blk s3 H3 scope ce fp with pn := [p] } [] H' b := fun {σ' H' s'} I' hn b hb =>
    ⟨hn b hb, (I'.ok.exf b hb).1, I'.ok.exfs b hb, .inl hb, fun x c e => (I'.ok.exf b hb).2 x c e, fun r hr => by
      have er : r = p := by simpa using (show r ∈ [p] ++ ([] : List (Addr × Obj)) from hr)
      rw [er]
      exact (f3 b hb).1.2.2.2.2.2 p (List.mem_append_left _ hpn)⟩
  have pin0 : p ∈ ({ X.blk s3 H3 scope ce fp with pn := [p] } : Cx).pn ++ ([] : List (Addr × Obj)) := List.mem_append_left _ List.mem_cons_self
  have loop : codeAny (model X.prog X.w) X.A (.compLoop (.ListComp elt [⟨tg, iter, ifs, 0⟩] scope pos) 0 (.ref it) (.ref D) ce) (compPost (model X.prog X.w) X.A X.xe use Qf (.ref D) s3.heap.objs.size) s4 := by
    refine compLoop_any (fun n s' => ∃ i H', Inv { X.blk s3 H3 scope ce fp with pn := [p] } [] (wipe σ (own.map (·.2))) H' s' ∧ tn i s'.heap ∧ (∀ b ∈ fp, H' b = none) ∧ W i n H') ?_ m0 ⟨0, H3, I4p, st4, fun b hb => (f3 b hb).1.1, w0⟩
    rintro n s5 ⟨i, H5, I5, st5, n5, w5⟩
    rcases turn i n H5 w5 with ⟨stop, qq⟩ | ⟨go, Nx, hNx, step⟩
    · refine thnF (T.done { X.blk s3 H3 scope ce fp with pn := [p] } p rfl rfl rfl hot i [] s5 _ H5 (fun _ _ => False) pin0 I5 (stat I5 n5) st5 stop) fun r s6 ⟨hr, I6⟩ => ?_
      subst hr
      have I7 : Inv X pins σ H5 s6 := I3.call' (ch := fp) I6.os I6.base I6.hok I6.bare fun b hb => ⟨(f3 b hb).1.2.2.2.1, (f3 b hb).1.2.1, (f3 b hb).1.2.2.2.2.1, (f3 b hb).1.2.2.2.2.2⟩
      have nC : H5 ce.locals = none := I6.free
      obtain ⟨m, hn, _⟩ := I6.loc
      have hn : s6.heap.Ns ce.locals m := hn
      rw [cL] at nC hn
      exact fin D s3.heap.objs.size s6 m H5 I7 qq hn (I3.fpOk (Nat.le_refl _) nC)
    · refine thnF (T.item { X.blk s3 H3 scope ce fp with pn := [p] } p rfl rfl rfl hot i [] s5 _ H5 (fun _ _ => False) pin0 I5 (stat I5 n5) st5 go) fun r s6 ⟨u, hr, h6⟩ => ?_
      subst hr
      refine thnF h6 fun _ s7 ⟨x, H7, I7, r7, y7, st7, n7⟩ => ?_
      have I7' := I7.pinned (stat I7 n7) (T.obj _ _ st7)
      refine thnF (pg.run _ s7 _ H7 x u _ I7' r7 (step x H7 y7)) fun _ s8 ⟨σ8, H8, I8, hw8, q8⟩ => ?_
      refine thnF (pt.run _ s8 σ8 H8 _ I8 q8) fun b s9 ⟨H9, I9, q9⟩ => ?_
      have back : ∀ {s' : Shared} {H' : Hp}, Inv { X.blk s3 H3 scope ce fp with pn := [p] } ([] ++ pinsAt fp s7.heap) σ8 H' s' → Nx H' → ∃ m, m < n ∧ ∃ i H', Inv { X.blk s3 H3 scope ce fp with pn := [p] } [] (wipe σ (own.map (·.2))) H' s' ∧ tn i s'.heap ∧ (∀ b ∈ fp, H' b = none) ∧ W i m H' := fun {s' H'} I' nx => by
        obtain ⟨m', hm, w'⟩ := hNx H' nx
        have at' : ∀ b ∈ fp, ∀ o, s7.heap.get? b = some o → s'.heap.get? b = some o ∧ H' b = none := fun b hb o e =>
          let z := I'.pin (b, o) (List.mem_append_right _ (List.mem_append_right _ (mem_pinsAt hb e)))
          ⟨z.1, z.2.1⟩
        refine ⟨m', hm, i + 1, H', (I'.unpinned (pins := [])).weak (by rw [← hw8, wipe_length]) (fun j v e => ?_), T.keep _ _ _ st7 fun b hb o e => (at' b hb o e).1, fun b hb => ?_, w'⟩
        · rw [← hw8] at e
          exact (wipe_some e).1
        · obtain ⟨o, e, _⟩ := T.obj _ _ st7 b hb
          exact (at' b hb o e).2
      cases b with
      | false =>
        simp only [Bool.false_eq_true, if_false] at q9 ⊢
        exact back I9 q9
      | true =>
        simp only [if_true] at q9 ⊢
        exact thnF (pe.run _ s9 σ8 H9 _ I9 q9) fun z s10 ⟨yv, H10, I10, r10, acc, hD10, hz10, nx⟩ => app_ok (X := { X.blk s3 H3 scope ce fp with pn := [p] }) I10 hD10 hz10 r10 fun s11 I11 => back I11 nx
  exact codeAny_compStart_list loop (T.self X.A 0 _ _ _ st4 loop)
theorem pe_lcH {X : Cx} {elt tg iter : Expr} {ifs : List Expr} {scope : Scope} {own : List (Str × Nat)} {pos : Pos} {wi : TI} {g : TG} {tt : TT} {te : TE} {p : Addr × Obj} (hot : Hot1 X.A p) (hpn : p ∈ X.pn) (hN : X.N.Nodup) (hi : PIP X tg iter wi) (ok : BlkOk X.N X.env.scope scope own)
    (hg : inBlk X scope fun Y => PG { Y with pn := [p] } tg g) (ht : inBlk X scope fun Y => PTs { Y with pn := [p] } ifs tt) (he : inBlk X scope fun Y => PE { Y with pn := [p] } elt te) (hs : ∀ x, foldedSetIterable iter X.env x = pure x) :
    PE X (.ListComp elt [⟨tg, iter, ifs, 0⟩] scope pos) (tLc wi g tt te (own.map (·.2))) := by
  refine ⟨fun pins s σ H Q I h => ?_⟩
  rw [eval_ListComp]
  exact lcH_core hot hpn hN I hi ok hg ht he hs h fun D C s' m H' I' q hn f => ⟨m, hn, fun h'' sb => ⟨.ref D, H', I'.turned (t' := s'.toks) (fun b o hb e => (sb.2 b hb).trans e) f.1 f.2.1 f.2.2.2.1 f.2.2.2.2.1 f.2.2.2.2.2, rfl, q⟩⟩
end BN

/-! D layer, part 12: defs that are given the handled exception -/
namespace BN
open PySem PySem.Spec PyProof.Rows L2 HotX L2H
/-- p is the exception at a, of the class at C, none behind it -/
def IsP (a C : Addr) (p : Addr × Obj) : Prop := p.1 = a ∧ L2N.Zn (.ref C) none p.2
/-- what a def promises when it is given the handled exception at a, of the class at C -/
structure FnE (P : Program) (w : World) (K : PySem.W.Frag) (mg : Str → Option Value) (base : Heap) (k : Nat) (a C : Addr) (f : Addr) (fd : FuncData) (ps : List Str) (sp : Sp) : Prop where
  len : ∀ vs H Q E, sp vs H Q E → vs.length = ps.length
  run : ∀ (A : Around) (outer : List Env) (s : Shared) (H : Hp) (args : Args) (us : List Value) (vs : List V) (Q : VK) (E : XK) (p : Addr × Obj), RoomH k A → Hot1 A p → IsP a C p → PinOk outer H s p → Env0 P w K mg base A outer s H → BindsTo s fd args (ps.zip us) → Vals vs us → sp vs H Q E →
    codeAny (model P w) A (.call (.ref f) args) (CR CX0 outer P w H s Q E) s
section
variable {P : Program} {w : World} {K : PySem.W.Frag} {mg : Str → Option Value} {base : Heap} {x qual : Str} {st : Stmt} {f : Addr} {fd : FuncData} {N ps : List Str} {k : Nat} {a C : Addr}
theorem fn_ofE {sp : Sp} (F : Fun K x qual st f fd) (S : FnScope N ps (defScope st)) (len : ∀ vs H Q E, sp vs H Q E → vs.length = ps.length)
    (hbody : ∀ (cdv : Value) (A : Around) (outer : List Env) (s : Shared) (H : Hp) (vs : List V) (Q : VK) (E : XK) (p : Addr × Obj), Hot1 A p → IsP a C p → RoomH k (A.deeper (envOfC qual (defScope st) s.heap.objs.size f cdv)) → sp vs H Q E →
      ∃ t, PSs (cxH CX0 P w K mg base N qual (defScope st) f cdv A outer s H E p) (defBody st) t ∧ t { nx := fun _ H' => Q .non H', rt := Q } (L2.start N vs) H) : FnE P w K mg base (k + 1) a C f fd ps sp := by
  obtain ⟨oc, od, kV, doc, pm, an, cdv, ct, osl, rfl, lk, hcd⟩ := F.ex
  refine ⟨len, fun A outer s H args us vs Q E p hr hot hp hpin e0 hb r hsp => ?_⟩
  have hl := len _ _ _ _ hsp
  have kIn : K.In s.heap := e0.mod.kin.keeps fun b o e => (e0.bs b o e).1
  have kinds : ∀ y ∈ ps.zip us, (defScope st).names.lookup y.1 = some .local ∨ ((defScope st).names.lookup y.1 = some .cell ∧ ((cellsFrom (s.heap.objs.size + 1) (defScope st).names []).lookup y.1).isSome = true) := fun ⟨n, v⟩ hy =>
    (S.par n (List.of_mem_zip hy).1).elim .inl fun q => .inr ⟨q, PySem.W.cellsFrom_some _ _ _ (.inl q)⟩
  refine codeAny_call_function hr.depth (kIn _ _ lk) rfl S.co S.gen rfl (PySem.W.codeRec_of kIn hcd) (hb _ _ _ _ (wpAny_newFunctionEnv_cells S.kind kinds fun env he s1 x => ?_))
  subst he
  refine ⟨(e0.mod.nolimit.keeps fun b o e => (e0.bs b o e).1).keeps x.toInCall.keep, codeAny_func ?_⟩
  obtain ⟨t, ht, hq⟩ := hbody cdv A outer s H vs Q E p hot hp (hr.deeper _) hsp
  refine wpAny_mono (ht.run [] s1 (L2.start N vs) H _ (inv_startH S hpin e0 hl r x) hq) (fun fl s' hs => ?_) fun e s' hs => hs
  have out : ∀ {σ' : St} {H' : Hp} {v : V} {u : Value}, Inv (cxH CX0 P w K mg base N qual (defScope st) f cdv A outer s H E p) [] σ' H' s' → RelV v u → Q v H' → CE outer P w H s Q u s' := fun {σ' H' v u} J rv q => ⟨v, H', J.os, J.bare, J.base, J.hok, rv, q⟩
  cases fl with
  | ret u => obtain ⟨v, σ', H', J, rv, q⟩ := hs; exact out J rv q
  | next => obtain ⟨σ', H', J, q⟩ := hs; exact out (v := V.non) (u := Value.none) J rfl q
  | brk => obtain ⟨_, _, _, q⟩ := hs; exact False.elim q
  | cont => obtain ⟨_, _, _, q⟩ := hs; exact False.elim q
theorem okE {sp : DSp} (F : Fun K x qual st f fd) (S : FnScope N ps (defScope st)) (len : ∀ ds M Q E, sp ds M Q E → ds.length = ps.length)
    (hbody : ∀ (cdv : Value) (A : Around) (outer : List Env) (s : Shared) (H : Hp) (E : XK) (p : Addr × Obj), Hot1 A p → IsP a C p → RoomH k (A.deeper (envOfC qual (defScope st) s.heap.objs.size f cdv)) →
      ∃ t : DTS, DSs Ph.any (cxH CX0 P w K mg base N qual (defScope st) f cdv A outer s H E p) (defBody st) t ∧ ∀ ds M Q E', sp ds M Q E' → t (fnEnds Q) (startD N ds) M) : FnE P w K mg base (k + 1) a C f fd ps (toSp K sp) := by
  refine fn_ofE F S (fun vs H Q E ⟨ds, W, Q', E', dv, m, h, _⟩ => by rw [dv.length]; exact len _ _ _ _ h) fun cdv A outer s H vs Q E p hot hp hr ⟨ds, W, Q', E', dv, m, h, k1, k2⟩ => ?_
  obtain ⟨t, ht, hq⟩ := hbody cdv A outer s H E p hot hp hr
  exact ⟨_, ht, startD N ds, W, _, start_sr dv m trivial, hq _ _ _ _ h, fn_ends k1⟩
/-- under its name -/
structure FcE (P : Program) (w : World) (K : PySem.W.Frag) (mg : Str → Option Value) (base : Heap) (k : Nat) (x : Str) (a C : Addr) (sp : DSp) : Prop where
  ex : ∃ (f : Addr) (fd : FuncData) (ps : List Str), mg x = some (.ref f) ∧ FnE P w K mg base k a C f fd ps (toSp K sp) ∧ PySem.W.keepIn K (.ref f) = true ∧ Binds K fd ps []
theorem fcE {sp : DSp} (h : Dn K mg x st) (S : FnScope N ps (defScope st)) (b : BindsP x st ps) (len : ∀ ds M Q E, sp ds M Q E → ds.length = ps.length)
    (hbody : ∀ (f : Addr) (cdv : Value) (A : Around) (outer : List Env) (s : Shared) (H : Hp) (E : XK) (p : Addr × Obj), Hot1 A p → IsP a C p → RoomH k (A.deeper (envOfC x (defScope st) s.heap.objs.size f cdv)) →
      ∃ t : DTS, DSs Ph.any (cxH CX0 P w K mg base N x (defScope st) f cdv A outer s H E p) (defBody st) t ∧ ∀ ds M Q E', sp ds M Q E' → t (fnEnds Q) (startD N ds) M) : FcE P w K mg base (k + 1) x a C sp := by
  obtain ⟨f, fd, hm, F⟩ := h
  exact ⟨f, fd, ps, hm, okE F S len (hbody f), F.kp, F.binds b⟩
end
/-- the place bears the handled exception at a, of the class at C -/
structure HotX' (X : Cx) (a C : Addr) : Prop where
  ex : ∃ p : Addr × Obj, Hot1 X.A p ∧ IsP a C p ∧ p ∈ X.pn
section
variable {Φ : Ph} {X : Cx} {k j : Nat} {a C : Addr} {x : Str} {sp : DSp} {p pos : Pos} {e : Expr} {es : List Expr} {ts : List DTE}
theorem dcallE (c : FcE X.prog X.w X.K X.mg X.base k x a C sp) (hh : HotX' X a C) (hr : RoomH j X.A) (hk : k ≤ j) (ha : DA Φ X (e :: es) ts) (hg : Gl X x := by rfl)
    (hdb : (x == ("__debug__" : Str)) = false := by decide) (he : starEach (e :: es) X.env = (false, eval e X.env) :: starEach es X.env := by rfl) (hpl : (backTo pos (starEach es X.env)).any (·.1) = false := by rfl) :
    DE Φ X (.Call (.Name x p) (e :: es) [] pos) (dCall sp X0 ts) := by
  obtain ⟨f, fd, ps, hm, F, kp, hb⟩ := c.ex
  obtain ⟨q, hot, hq, hp⟩ := hh.ex
  refine ⟨fun pins s σ H Q I ⟨ρ, M, Q', S, h, k'⟩ => ?_⟩
  refine wpAny_Call_Name_kw (ld_glob I hg hm ?_ hdb)
  have h2 : VA X.K Φ ts σ H fun vs H1 => toSp X.K sp vs H1 Q fun _ _ _ => False := va_of ts S h fun xs M' vs H' q dvs m tx l => ⟨xs, M', Q', X0, dvs, m, q, k'.tx tx, fun _ _ _ z => z.elim⟩
  refine PySem.W.callWith_K (h₀ := X.base) I.ok.mod.kin kp (thn (ha.run pos pins s σ H _ I h2) fun us s1 ⟨vs, H1, I1, r, q1⟩ => ⟨I1.kIn, ?_⟩) he hpl
  have hl : us.length = ps.length := by rw [← r.length]; exact F.len _ _ _ _ q1
  have b := hb s1 us I1.kIn (by rw [List.append_nil]; exact hl)
  rw [List.append_nil] at b
  have P1 := I1.pin q (List.mem_append_left _ hp)
  have hpin : PinOk X.stack H1 s1 q := ⟨P1.1, P1.2.1, fun hm => (List.mem_cons.mp (I1.stkSub q.1 hm)).elim P1.2.2.1 P1.2.2.2.1, P1.2.2.2.2⟩
  refine wpAny_call (codeAny_mono (F.run X.A X.stack s1 H1 ⟨us, []⟩ us vs Q (fun _ _ _ => False) q (hr.mono hk) hot hq hpin I1.env0 b r q1) fun r' s' hq' => ?_)
  cases r' with
  | error e => exact False.elim hq'
  | ok fl =>
    cases fl with
    | ret u => exact I1.after hq'
    | next => exact False.elim hq'
    | brk => exact False.elim hq'
    | cont => exact False.elim hq'
end
end BN

/-! D layer, part 13: what stands in such defs; try .. except .. as e: return refusal(e) -/
namespace BN
open PySem PySem.Spec PyProof.Rows L2 HotX L2H
section
variable {Φ : Ph} {X : Cx} {a C : Addr}
/-- isinstance(e, c), e the handled exception -/
theorem call_isP (hh : HotX' X a C) (F : ExcC X.K C) : CallR X (.builtin "isinstance") (rIsE X.K C a) := by
  obtain ⟨⟨a', oe⟩, ⟨hd, vs, dv, _⟩, ⟨ea, hz⟩, hp⟩ := hh.ex
  have ea : a' = a := ea
  subst ea
  intro pins s σ H xs us Q I r ⟨c, cv, b, ex, hcv, e, q⟩
  subst ex
  obtain ⟨u1, u2, rfl, rx, rt⟩ := vals2 r
  cases rx
  cases hcv _ rt
  have g := (I.pin (a', oe) (List.mem_append.mpr (.inl hp))).1
  have J : PySem.W.InstAt s.heap a' oe C none := by
    obtain ⟨oc, od, oda, osl⟩ := oe
    obtain ⟨h1, h2, _⟩ := hz
    dsimp only at h1 h2 dv
    subst h1 h2 dv
    exact ⟨g, rfl, rfl, trivial⟩
  exact PySem.W.kia_one (PySem.W.handS_kitx_exc F.hg F.hk F.hs F.hd F.ha F.hn F.ht F.hm) I.kIn J e (fun z => nomatch z) fun tk => ⟨.bl b, H, I.kept (t' := tk) fun _ _ z => z, rfl, q⟩
/-- the class that c names: an own one (at an address), or a built-in type -/
inductive ClsN (X : Cx) (c : Str) : V → Prop where
  | own {A : Addr} (g : X.mg c = some (.ref A)) : ClsN X c (.ref A)
  | blt {T : String} (g : X.mg c = none) (b : bootBuiltins c = some (.type T)) : ClsN X c (.ty T)
/-- the handled exception's class, asked about -/
def dIsE (a : Addr) (i : Nat) (b : Bool) : DTE := fun ρ M Q => slot ρ i = some (.ref a) ∧ Q (.d (.bool b)) M
def cvOf : V → Value
  | .ref A => .ref A
  | .ty T => .type T
  | _ => .none
theorem dise {i : Nat} {x c : Str} {b : Bool} {cv : V} {p p1 p2 pos : Pos} (hh : HotX' X a C) (F : ExcC X.K C) (hm : X.mg "isinstance" = none) (hi : DE Φ X (.Name x p1) (tVarD i)) (hc : ClsN X c cv) (q : PySem.W.kitOne X.K (.ref C) (cvOf cv) = some b) (hg : Gl X "isinstance" := by rfl) (hgc : Gl X c := by rfl)
    (hd : (c == ("__debug__" : Str)) = false := by decide) (hn : c ≠ "__name__" := by decide) (he : starEach [.Name x p1, .Name c p2] X.env = (false, eval (.Name x p1) X.env) :: starEach [.Name c p2] X.env := by rfl) (hpl : (backTo pos (starEach [.Name c p2] X.env)).any (·.1) = false := by rfl)
    (he2 : starEach [.Name c p2] X.env = (false, eval (.Name c p2) X.env) :: starEach [] X.env := by rfl) : DE Φ X (.Call (.Name "isinstance" p) [.Name x p1, .Name c p2] [] pos) (dIsE a i b) := by
  have pc : PE X (.Name c p2) (fun _ H Q => Q cv H) := by
    cases hc with
    | own g => exact pe_glob hgc g rfl hd
    | blt g bt => exact pe_bltn hgc g bt (v := .ty _) rfl hn hd
  refine pe_mono (pe_callB (call_isP hh F) hg hm (by decide +kernel) (pa_cons hi (pa_cons pc pa_nil he2) he) (by decide) (by decide) he hpl) fun σ H Q ⟨ρ, M, Q', S, ⟨h1, h2⟩, k⟩ => ?_
  refine ⟨ρ, M, fun y M' => y = .ref a ∧ Q' (.d (.bool b)) M', S, ?_, fun y M' v H' ⟨e, q'⟩ dv m tx => ?_⟩
  · show (match slot ρ i with | some y => _ | none => False)
    rw [h1]
    exact ⟨rfl, h2⟩
  · subst e
    cases (show v = .ref a from dv)
    refine ⟨cv, cvOf cv, b, rfl, fun u ru => ?_, q, k _ _ _ _ q' (Rp.bl b) m tx⟩
    cases hc with
    | own g => exact ru
    | blt g bt => exact ru
/-- s.split(t) of texts -/
def dSplit (to ta : DTE) : DTE := fun ρ M Q => to ρ M fun x M1 => match x with
  | .d (.str s) => ta ρ M1 fun y M2 => match y with
    | .d (.str t) => (t.length == 0) = false ∧ s.length + 2 ≤ sizeLine ∧ Q (.d (.list ((Txt.split s t).map PyData.str))) M2
    | _ => False
  | _ => False
theorem dsplit {o e : Expr} {apos cpos : Pos} {to ta : DTE} (ho : DE Φ X o to) (ha : DE Φ X e ta) (hbase : attributeBase o "split" X.env (eval o X.env) = eval o X.env := by rfl) (hfew : Few X cpos [e] := by rfl) (hline : (apos.endLine == cpos.line) = true := by rfl)
    (hs : starEach [e] X.env = (false, eval e X.env) :: starEach [] X.env := by rfl) (hplain : (backTo cpos (starEach [] X.env)).any (·.1) = false := by rfl) : DE Φ X (.Call (.Attribute o "split" apos) [e] [] cpos) (dSplit to ta) := by
  refine pe_mono (pe_bm PySem.F.plainAttrs_str PySem.F.slot_str_split PySem.F.type_str_split mt_split ho (pa_cons ha pa_nil hs) hbase hfew hline hs hplain) fun σ H Q ⟨ρ, W, Q', S, h, k⟩ => ⟨ρ, W, _, S, h, fun x W1 v H1 q dv m tx => ?_⟩
  split at q
  · rename_i s
    cases Rp.strI dv
    refine ⟨(rfl : tyV X.K "str" (V.str s) H1), ρ, W1, _, S.step tx m, q, fun y W2 u H2 q2 du m2 tx2 => ?_⟩
    split at q2
    · rename_i t
      cases Rp.strI du
      exact ⟨s, t, rfl, rfl, q2.1, q2.2.1, fun p hp => k _ (W2.fix p) _ _ q2.2.2 (Rp.lst ⟨upd_same, .inl rfl⟩ ((RpL.of_strs _).tx (TX.new hp))) (m2.new hp) (tx.trans (tx2.trans (TX.new hp)))⟩
    · exact q2.elim
  · exact q.elim
/-- several targets from a tuple, in a hot place -/
theorem pg_tupH {es : List Expr} {k : Nat} {t : TGs} {n : Nat} {pos : Pos} {p : Addr × Obj} (hot : Hot1 X.A p) (hp : p ∈ X.pn) (h : PGs X es t) (hn : (assignEach es X.env).length = n) (hst : (assignEach es X.env).findIdx? (·.1) = none) : PG X (.Tuple es k pos) (gTup X.K n t) := by
  refine ⟨fun pins s σ H v u Q I r ⟨a, xs, e1, hq, hl, hw⟩ => ?_⟩
  subst e1
  cases r
  obtain ⟨its, rv, ht, hz⟩ := I.tuple hq
  obtain ⟨hh, vs, dv, c⟩ := hot
  refine PySem.bn_assign_tup_hot (x1 := p.1) ⟨hh, p.2, vs, (I.pin p (List.mem_append_left _ hp)).1, dv, c⟩ ht (by simp [hn, ← hl, rv.length]) hst fun h' hx => ?_
  exact h.run pins _ σ H xs _ Q (I.kept (t' := s.toks) fun b o e => hx b o (Nat.ne_of_lt (Heap.lt_size e)) e) (by simpa using rv) hw
/-! comprehensions -/
abbrev DIH (Φ : Ph) (X : Cx) (tg e : Expr) (src : DTI) : Prop := PIP X tg e (LI X.K Φ src)
/-- zip of two lists that stay -/
def iZpL (ta tb : DTE) : DTI := fun ρ M R => ta ρ M fun x M1 => tb ρ M1 fun y M2 => match x, y with
  | .d (.list xs), .d (.list ys) => R (zipL xs ys) M2
  | _, _ => False
theorem di_zipH {e e2 : Expr} {te te2 : DTE} {p pos tpos : Pos} {elts : List Expr} {kk : Nat} (hm : X.mg "zip" = none) (ha : DA Φ X [e, e2] [te, te2]) (hg : Gl X "zip" := by rfl) (hs : starEach [e, e2] X.env = (false, eval e X.env) :: starEach [e2] X.env := by rfl) (hpl : (backTo pos (starEach [e2] X.env)).any (·.1) = false := by rfl) :
    DIH Φ X (.Tuple elts kk tpos) (.Call (.Name "zip" p) [e, e2] [] pos) (iZpL te te2) := by
  refine pip_mono (pi_zipH hg hm ha hs hpl) fun σ H R ⟨ρ, M, R', S, h, k⟩ => ⟨ρ, M, _, S, h, fun x M1 v H1 q dv m tx => ⟨ρ, M1, _, S.step tx m, q, fun y M2 u H2 q2 du m2 tx2 => ?_⟩⟩
  have dv2 := dv.tx tx2
  split at q2
  · rename_i xs ys
    cases (show Rp X.K M2 H2 v (.list xs) from dv2) with
    | lst s r =>
      cases (show Rp X.K M2 H2 u (.list ys) from du) with
      | lst s2 r2 => exact ⟨_, _, _, _, rfl, SqL.of s.1, SqL.of s2.1, k _ _ _ _ q2 m2 (tx.trans tx2) (jok_zipK (k1 := true) (k2 := true) (fun M H t => SqL.of (s.tx t).1) r (fun M H t => SqL.of (s2.tx t).1) r2)⟩
  · exact q2.elim
theorem dlcH {tg iter elt : Expr} {ifs : List Expr} {scope : Scope} {own : List (Str × Nat)} {pos : Pos} {ct : CT} {src : DTI} {tt : DTT} {te : DTE} (hh : HotX' X a C) (hN : X.N.Nodup) (hi : DIH Φ X tg iter src) (ok : BlkOk X.N X.env.scope scope own)
    (hg : ∀ p, Hot1 X.A p → inBlk X scope fun Y => DC { Y with pn := [p] } tg ct) (ht : ∀ p, Hot1 X.A p → inBlk X scope fun Y => DTs Φ { Y with pn := [p] } ifs tt) (he : ∀ p, Hot1 X.A p → inBlk X scope fun Y => DE Φ { Y with pn := [p] } elt te)
    (hj : ∀ i ∈ ct.slots, i ∈ own.map (·.2) := by decide) (hs : ∀ x, foldedSetIterable iter X.env x = pure x := by intro _; rfl) : DE Φ X (.ListComp elt [⟨tg, iter, ifs, 0⟩] scope pos) (dLc ct (own.map (·.2)) src tt te) := by
  obtain ⟨p, hot, _, hp⟩ := hh.ex
  exact pe_mono (pe_lcH hot hp hN hi ok (hg p hot) (ht p hot) (he p hot) hs) (lcV_ok hj)
theorem dc_tupH {is : List Nat} {es : List Expr} {k : Nat} {pos : Pos} {p : Addr × Obj} (hot : Hot1 X.A p) (hp : p ∈ X.pn) (h : PGs X es (VGs is)) (hn : (assignEach es X.env).length = is.length := by rfl) (hst : (assignEach es X.env).findIdx? (·.1) = none := by rfl) : DC X (.Tuple es k pos) (.tup is) := pg_tupH hot hp h hn hst
/-! ### try: .. except X as e: return refusal(e) -/
/-- the words of the classes -/
abbrev Wrd := List (Addr × Str)
def spRef (a : Addr) (w : Str) : DSp := fun ds M Q _ => ds = [.ref a] ∧ Q (.d (.str w)) M
def dTry (tb : DX → DTS) (wd : Wrd) : DTS := fun D ρ M => tb (fun C M' => ∃ w, (C, w) ∈ wd ∧ D.rt (.d (.str w)) M') D ρ M
/-- what the body's derivation may use -/
structure InTry (Φ : Ph) (X : Cx) (E' : DX) : Prop where
  ex : ∃ W : WX, L2N.Takes X W ∧ ∀ C (M : Wd) H σ, E' C M.M → MR X.K M H → Φ.p M H → σ.length = X.N.length → W (.ref C) none σ H
  ps : PassesOwn (model X.prog X.w) X.A X.env X.xe
/-- a call in a try's body -/
theorem dcallT {E' : DX} {j k : Nat} {x : Str} {sp : DSp} {p pos : Pos} {e : Expr} {es : List Expr} {ts : List DTE} (it : InTry Φ X E') (c : Fc X.prog X.w X.K X.mg X.base (L2N.CX X.prog X.w) k x sp) (hr : Room j X.A) (hk : k ≤ j) (ha : DA Φ X (e :: es) ts) (hg : Gl X x := by rfl)
    (hdb : (x == ("__debug__" : Str)) = false := by decide) (he : starEach (e :: es) X.env = (false, eval e X.env) :: starEach es X.env := by rfl) (hpl : (backTo pos (starEach es X.env)).any (·.1) = false := by rfl) :
    DE Φ X (.Call (.Name x p) (e :: es) [] pos) (dCall sp E' ts) := by
  obtain ⟨f, fd, ps, hm, F, kp, hb⟩ := c.ex
  obtain ⟨W, tk, kx⟩ := it.ex
  refine pe_mono (pe_callS (E := fun σ cls d H => σ.length = X.N.length → W cls d σ H) F (hr.mono hk) hg hm kp hb (fun σ pins H s u s' I c => tk u s' (L2N.XE.of_call I (fun cls d H' h => h I.len) c)) ha hdb he hpl) fun σ H Q ⟨ρ, M, Q', S, h, k⟩ => ?_
  refine va_of ts S h fun xs M' vs H' q dvs m tx l => ?_
  exact ⟨xs, M', Q', E', dvs, m, q, k.tx tx, fun C M2 H2 q2 m2 tx2 hl => kx C M2 H2 σ q2 m2 (Φ.tx _ _ _ _ S.fr (tx.trans tx2)) hl⟩
theorem ds_try {i : Nat} {x n rf : Str} {c : Addr} {body : List Stmt} {np rp ep pos pos' rpos cpos : Pos} {tb : DX → DTS} {wd : Wrd} {j k : Nat} (hN : X.N.Nodup) (hr : Room j X.A) (hk : k ≤ j)
    (hb : ∀ (Φ' : Ph) (pn : List (Addr × Obj)) (xe : Value → Shared → Prop) (E' : DX), InTry Φ' (X.tr pn xe) E' → DSs Φ' (X.tr pn xe) body (tb E'))
    (hw : ∀ C w, (C, w) ∈ wd → PySem.W.exmOne X.K (.ref C) (.ref c) = some true ∧ ∀ a, FcE X.prog X.w X.K X.mg X.base k rf a C (spRef a w)) (gc : X.mg x = some (.ref c))
    (hs : X.stack = X.env :: X.outer := by rfl) (hf : X.env.frame = some X.env.locals := by rfl) (hi : X.N[i]? = some n := by rfl) (hln : X.env.kindOf n = some .local := by rfl) (hgx : Gl X x := by rfl) (hdx : (x == ("__debug__" : Str)) = false := by decide)
    (hgr : Gl X rf := by rfl) (hdr : (rf == ("__debug__" : Str)) = false := by decide) (hln2 : X.env.scope.names.lookup n = some .local := by rfl) (hd1 : (n == ("__debug__" : Str)) = false := by decide) (hd2 : (n == ("__classdict__" : Str)) = false := by decide)
    (he : starEach [.Name n ep] X.env = (false, eval (.Name n ep) X.env) :: starEach [] X.env := by rfl) (hpl : (backTo cpos (starEach [] X.env)).any (·.1) = false := by rfl) (tk : L2N.Takes X fun _ _ _ _ => False) :
    DS Φ X (.Try body [.ExceptHandler (some (.Name x np)) (some n) [.Return (some (.Call (.Name rf rp) [.Name n ep] [] cpos)) rpos] pos'] [] [] pos) (dTry tb wd) := by
  have hiN : i < X.N.length := (List.getElem?_eq_some_iff.mp hi).1
  refine ps_mono (L2N.ps_try_as (Wout := fun _ _ _ _ => False)
    (tb := fun W D σ H => ∃ ρ M D' E', SR X.K Φ ρ M σ H ∧ tb E' D' ρ M.M ∧ KS X.K Φ M H D' D ∧ ∀ C M' H' σ', E' C M'.M → MR X.K M' H' → TX M H M' H' → σ'.length = X.N.length → W (.ref C) none σ' H')
    (ts := fun a cls d D σ H => ∃ C w M D', cls = .ref C ∧ d = none ∧ (C, w) ∈ wd ∧ σ[i]? = some (some (.ref a)) ∧ MR X.K M H ∧ D' (.d (.str w)) M.M ∧ KE X.K M H D' D.rt) hs hf hN hi hln ⟨hgx, hdx, .inl gc⟩ tk (fun W pn xe tkW po => ?_) (fun a oe cls d pn hz hv => ?_)) fun D σ H ⟨ρ, M, D', S, h, k'⟩ => ?_
  · -- the body
    refine ⟨fun pins s σ H D I ⟨ρ, M, D', E', S, h, k', kx⟩ => ?_⟩
    exact (hb (Ph.from_ M H) pn xe E' ⟨⟨W, tkW, fun C M2 H2 σ2 e m p hl => kx C M2 H2 σ2 e m p hl⟩, po⟩).run pins s σ H D I
      ⟨ρ, M, D', ⟨S.len, S.slot, S.mem, TX.rfl'⟩, h, ⟨fun ρ' M' σ' H' q s' t => k'.nx ρ' M' σ' H' q ⟨s'.len, s'.slot, s'.mem, Φ.tx _ _ _ _ S.fr t⟩ t, k'.rt,
        fun ρ' M' σ' H' q s' t => k'.bk ρ' M' σ' H' q ⟨s'.len, s'.slot, s'.mem, Φ.tx _ _ _ _ S.fr t⟩ t, fun ρ' M' σ' H' q s' t => k'.ct ρ' M' σ' H' q ⟨s'.len, s'.slot, s'.mem, Φ.tx _ _ _ _ S.fr t⟩ t⟩⟩
  · -- the suite
    refine ⟨fun pins s σ H D I ⟨C, w, M, D', ec, ed, hwd, hσ, m, q, ke⟩ => ?_⟩
    subst ec ed
    obtain ⟨vs, hv⟩ := hv
    have hot : HotX' (X.suite a ((a, oe) :: pn)) a C := ⟨(a, oe), ⟨rfl, vs, hv, hz.2.2 vs hv⟩, ⟨rfl, hz⟩, List.mem_cons_self⟩
    have hrH : RoomH j (X.suite a ((a, oe) :: pn)).A := ⟨hr.dp, hr.un⟩
    have dn : DSs Ph.any (X.suite a ((a, oe) :: pn)) [.Return (some (.Call (.Name rf rp) [.Name n ep] [] cpos)) rpos] (dRet (dCall (spRef a w) X0 [tVarD i])) :=
      ds_one (ds_ret (dcallE ((hw C w hwd).2 a) hot hrH hk (da_cons (dv i hi (.inl hln2) hd1 hd2) da_nil he) hgr hdr he hpl))
    have hil : i < σ.length := (List.getElem?_eq_some_iff.mp hσ).1
    refine dn.run pins s σ H D I ⟨(List.replicate σ.length none).set i (some (.ref a)), M, { nx := fun _ _ => False, rt := D', bk := fun _ _ => False, ct := fun _ _ => False }, ⟨by simp, fun l y e => ?_, m, trivial⟩, ?_, ⟨fun _ _ _ _ z => z.elim, ke, fun _ _ _ _ z => z.elim, fun _ _ _ _ z => z.elim⟩⟩
    · rw [List.getElem?_set] at e
      by_cases hl : i = l
      · subst hl
        rw [if_pos rfl, if_pos (by simpa using hil)] at e
        cases e
        exact ⟨.ref a, hσ, rfl⟩
      · rw [if_neg hl, List.getElem?_replicate] at e
        split at e <;> cases e
    · have e2 : slot ((List.replicate σ.length none).set i (some (BN.D.ref a))) i = some (BN.D.ref a) := by
        have : ∀ (l : DSt) (i : Nat), i < l.length → slot (l.set i (some (BN.D.ref a))) i = some (BN.D.ref a) := fun l => by
          induction l with
          | nil => intro i h; simp at h
          | cons y l ih =>
            intro i h
            cases i with
            | zero => rfl
            | succ i => exact ih i (by simpa using h)
        exact this _ _ (by simpa using hil)
      show (match slot ((List.replicate σ.length none).set i (some (BN.D.ref a))) i with | some y => _ | none => False)
      rw [e2]
      exact ⟨rfl, q⟩
  · -- the whole
    refine ⟨ρ, M, D', _, S, h, k', fun C M2 H2 σ2 ⟨w, hwd, q⟩ m2 t2 hl => ?_⟩
    refine ⟨true, (hw C w hwd).1, fun _ a na => ⟨C, w, M2, D'.rt, rfl, rfl, hwd, ?_, m2, q, k'.rt.tx t2⟩, fun z => nomatch z⟩
    rw [List.getElem?_set, if_pos rfl, if_pos (by omega)]
end
end BN

/-! D layer, part 14: a list that stays from here on -/
namespace BN
open PySem PySem.Spec PyProof.Rows L2
def dGhost (i : Nat) (t : DTS) : DTS := fun D ρ M => ∃ l ds M2, slot ρ i = some (.ref l) ∧ M l = some (.lst ds) ∧ Sub M2 M ∧ M2 l = none ∧ t D (ρ.set i (some (.d (.list ds)))) M2
theorem ds_ghost {Φ : Ph} {X : Cx} {sts : List Stmt} {t : DTS} {i : Nat} (h : DSs Φ X sts t) : DSs Φ X sts (dGhost i t) := by
  refine pss_mono h fun D σ H ⟨ρ, W, D', S, ⟨l, ds, M2, e1, e2, s, n, q⟩, k⟩ => ?_
  obtain ⟨v, ev, dv⟩ := S.slot i _ (slot_get e1)
  obtain ⟨W2, rfl, d2, m2, t2⟩ := (Fz.lst (M := W.M) l ds M2 e2 s n).go dv S.mem
  refine ⟨ρ.set i (some (.d (.list ds))), W2, D', ?_, q, k.tx t2⟩
  have S2 : SR X.K Φ ρ W2 σ H := S.step t2 m2
  have S3 := S2.set i d2
  have e : σ.set i (some v) = σ := by
    refine List.ext_getElem? fun j => ?_
    rw [List.getElem?_set]
    by_cases h : i = j
    · subst h
      rw [if_pos rfl, ev, if_pos (List.getElem?_eq_some_iff.mp ev).1]
    · rw [if_neg h]
  rw [e] at S3
  exact S3
def dRaiseW (C : Addr) (E' : DX) : DTS := fun _ _ M => ∃ M2, Sub M2 M ∧ E' C M2
theorem ds_raiseW {Φ : Ph} {X : Cx} {pos : Pos} {E : XK} {E' : DX} {C : Addr} {x m : Str} {j : Nat} {p p2 pos2 : Pos} (k : ExcK X.K X.mg x C) (hc : X.calm = true) (tk : L2N.Takes X fun cls d _ H => E cls d H)
    (kx : ∀ C (W : Wd) H, E' C W.M → MR X.K W H → Φ.p W H → E (.ref C) none H) (hg : Gl X x := by rfl) (hdb : (x == ("__debug__" : Str)) = false := by decide) :
    DS Φ X (.Raise (some (.Call (.Name x p) [.Constant (.str m) j p2] [] pos2)) none pos) (dRaiseW C E') := by
  refine ps_mono (L2N.ps_raise hc tk (L2N.pmk_own PySem.F.excBase_ValueError k.ex k.g k.kp (raises_own k.b k.t) hg hdb)) fun D σ H ⟨ρ, W, D', S, ⟨M2, s, h⟩, kk⟩ => ?_
  have t : TX W H ⟨M2, W.F⟩ H := TX.less s (fun _ h => h) fun _ h _ => h
  exact kx C ⟨M2, W.F⟩ H h (S.mem.less s (fun _ h => h) fun _ h => .inl h) (Φ.tx _ _ _ _ S.fr t)
end BN

/-! D layer, part 15: [f, g, ..][i](e, ..) in a try's body -/
namespace BN
open PySem PySem.Spec PyProof.Rows L2
section
variable {X : Cx} {CX : CXT} {E : St → XK} {fe e : Expr} {es : List Expr} {tf : TE} {t : TA} {pos : Pos}
/-- the call of a value that is a def -/
theorem pe_callV {ok : Addr → Sp → Prop} (hf : PE X fe tf) (F : ∀ a sp, ok a sp → ∃ k fd ps, Room k X.A ∧ FnOk X.prog X.w X.K X.mg X.base CX k a fd ps sp ∧ PySem.W.keepIn X.K (.ref a) = true ∧ Binds X.K fd ps [])
    (hx : ∀ σ, PassesAt CX X σ (E σ)) (ha : PA X (e :: es) t)
    (ht : eval (.Call fe (e :: es) [] pos) X.env = (do callWith pos (← eval fe X.env) [] (backTo pos (starEach (e :: es) X.env)) (backToKw pos (keywordEach [] X.env))) := by rfl)
    (he : starEach (e :: es) X.env = (false, eval e X.env) :: starEach es X.env := by rfl) (hpl : (backTo pos (starEach es X.env)).any (·.1) = false := by rfl) :
    PE X (.Call fe (e :: es) [] pos) (fun σ H Q => tf σ H fun y H1 => ∃ a sp, y = .ref a ∧ ok a sp ∧ t σ H1 fun vs H2 => sp vs H2 Q (E σ)) := by
  refine ⟨fun pins s σ H Q I h => ?_⟩
  refine Call_ (thn (hf.run pins s σ H _ I h) fun u s1 ⟨y, H1, I1, ry, a, sp, ey, o, q⟩ => ?_) ht
  subst ey
  obtain rfl : u = Value.ref a := ry
  obtain ⟨k, fd, ps, hr, F, hk, hb⟩ := F a sp o
  refine PySem.W.callWith_K (h₀ := X.base) I.ok.mod.kin hk (thn (ha.run pos pins s1 σ H1 _ I1 q) fun us s2 ⟨vs, H2, I2, r, q2⟩ => ⟨I2.kIn, ?_⟩) he hpl
  exact run_fnS F hr hb (hx σ) I2 r q2
end
section
variable {Φ : Ph} {X : Cx}
/-- names of defs, with their promises -/
structure FA (X : Cx) (j : Nat) (es : List Expr) (sps : List DSp) : Prop where
  ex : ∃ fs : List Addr, PA X es (fun _ H Q => Q (fs.map V.ref) H) ∧ fs.length = sps.length ∧ ∀ (i : Nat) f sp, fs[i]? = some f → sps[i]? = some sp → ∃ k fd ps, k ≤ j ∧ FnOk X.prog X.w X.K X.mg X.base (L2N.CX X.prog X.w) k f fd ps (toSp X.K sp) ∧ PySem.W.keepIn X.K (.ref f) = true ∧ Binds X.K fd ps []
theorem FA.nil {j : Nat} : FA X j [] [] := ⟨[], pa_nil, rfl, fun i f sp h => by simp at h⟩
theorem FA.cons {j k : Nat} {x : Str} {sp : DSp} {p : Pos} {es : List Expr} {sps : List DSp} (c : Fc X.prog X.w X.K X.mg X.base (L2N.CX X.prog X.w) k x sp) (hk : k ≤ j) (r : FA X j es sps) (hg : Gl X x := by rfl) (hd : (x == ("__debug__" : Str)) = false := by decide)
    (hs : starEach (.Name x p :: es) X.env = (false, eval (.Name x p) X.env) :: starEach es X.env := by rfl) : FA X j (.Name x p :: es) (sp :: sps) := by
  obtain ⟨f, fd, ps, hm, F, kp, hb⟩ := c.ex
  obtain ⟨fs, h1, h2, h3⟩ := r.ex
  refine ⟨f :: fs, pa_cons (pe_glob hg hm (v := .ref f) rfl hd) h1 hs, by simp [h2], fun i g sp' e1 e2 => ?_⟩
  cases i with
  | zero =>
    simp at e1 e2
    subst e1 e2
    exact ⟨k, fd, ps, hk, F, kp, hb⟩
  | succ i => exact h3 i g sp' (by simpa using e1) (by simpa using e2)
def dCallIx (sps : List DSp) (E' : DX) (tw : DTE) (ts : List DTE) : DTE := fun ρ M Q => tw ρ M fun y M1 => ∃ (i : Nat) (sp : DSp), y = .d (.int i) ∧ sps[i]? = some sp ∧ aL ts ρ M1 fun xs M2 => sp xs M2 Q E'
theorem dcallIxT {E' : DX} {j : Nat} {sps : List DSp} {p0 p1 pos : Pos} {ns : List Expr} {b e : Expr} {es : List Expr} {tw : DTE} {ts : List DTE} (it : InTry Φ X E') (fa : FA X j ns sps) (hr : Room j X.A) (hw : DE Φ X b tw) (ha : DA Φ X (e :: es) ts) (hz : Nat.ble sps.length 1000 = true := by rfl) (hs : PlainIx b := by exact fun _ _ => rfl)
    (ht : eval (.Call (.Subscript (.List ns p0) b p1) (e :: es) [] pos) X.env = (do callWith pos (← eval (.Subscript (.List ns p0) b p1) X.env) [] (backTo pos (starEach (e :: es) X.env)) (backToKw pos (keywordEach [] X.env))) := by rfl)
    (he : starEach (e :: es) X.env = (false, eval e X.env) :: starEach es X.env := by rfl) (hpl : (backTo pos (starEach es X.env)).any (·.1) = false := by rfl) :
    DE Φ X (.Call (.Subscript (.List ns p0) b p1) (e :: es) [] pos) (dCallIx sps E' tw ts) := by
  obtain ⟨fs, hpa, hl, hf⟩ := fa.ex
  obtain ⟨W, tk, kx⟩ := it.ex
  have hfe : PE X (.Subscript (.List ns p0) b p1) (tOp (rIxL X.K) (tLst (fun _ H Q => Q (fs.map V.ref) H)) (LE X.K Φ tw)) := pe_ix ix_list (pe_lst hpa) hw hs
  refine pe_mono (pe_callV (X := X) (CX := L2N.CX X.prog X.w) (E := fun σ cls d H => σ.length = X.N.length → W cls d σ H) (ok := fun a sp => ∃ (i : Nat) (dsp : DSp), fs[i]? = some a ∧ sps[i]? = some dsp ∧ sp = toSp X.K dsp) hfe (fun a sp ⟨i, dsp, e1, e2, e3⟩ => ?_)
    (fun σ pins H s u s' I c => tk u s' (L2N.XE.of_call I (fun cls d H' h => h I.len) c)) ha ht he hpl) fun σ H Q ⟨ρ, M, Q', S, h, k⟩ => ?_
  · subst e3
    obtain ⟨k, fd, ps, hk, F, kp, hb⟩ := hf i a dsp e1 e2
    exact ⟨k, fd, ps, hr.mono hk, F, kp, hb⟩
  · refine ⟨by rw [List.length_map, hl]; exact small_of hz, fun p hp => ⟨ρ, M.fix p, _, S.step (TX.new hp) (S.mem.new hp), h, fun y M1 v H1 q dv m tx => ?_⟩⟩
    obtain ⟨i, sp, rfl, e, q⟩ := q
    cases Rp.intI dv
    have il : i < fs.length := by rw [hl]; exact (List.getElem?_eq_some_iff.mp e).1
    have ef : fs[i]? = some fs[i] := List.getElem?_eq_getElem il
    refine ⟨p, fs.map V.ref, i, .ref fs[i], rfl, rfl, SqL.of (tx.val _ _ (.inl rfl) upd_same), atI_nat (by rw [List.getElem?_map, ef]; rfl), fs[i], toSp X.K sp, rfl, ⟨i, sp, ef, e, rfl⟩, ?_⟩
    refine va_of ts (S.step ((TX.new hp).trans tx) m) q fun xs M' vs H' q dvs m2 tx2 l => ?_
    exact ⟨xs, M', Q', E', dvs, m2, q, k.tx (((TX.new hp).trans tx).trans tx2), fun C M2 H2 q2 m3 tx3 hl => kx C M2 H2 σ q2 m3 (Φ.tx _ _ _ _ S.fr ((((TX.new hp).trans tx).trans tx2).trans tx3)) hl⟩
end
end BN

/-! D layer, part 16: t[::-1] of a tuple -/
namespace BN
open PySem PySem.Spec PyProof.Rows L2
section
variable {prog : Program} {w : World} {A : Around} {E : Value → Shared → Prop} {s : Shared}
theorem adjust_back (n : Nat) : Builtin.Slice.sliceAdjust none none (-1) (n : Int) = ((n : Int) - 1, -1) := by
  unfold Builtin.Slice.sliceAdjust
  rfl
theorem places_back (n : Nat) : Builtin.Slice.slicePlaces ((n : Int) - 1) (-1) (-1) = n := by
  unfold Builtin.Slice.slicePlaces
  have h1 : ¬ ((-1 : Int) > 0) := by omega
  simp only [h1, if_false, Int.neg_neg, Int.ediv_one]
  split <;> omega
theorem back_pick : ∀ (l : List Value), (List.range l.length).filterMap (fun (k : Nat) => l[((l.length : Int) - 1 + (k : Int) * (-1)).toNat]?) = l.reverse
  | [] => rfl
  | a :: r => by
    rw [List.length_cons, List.range_succ, List.filterMap_append, List.reverse_cons, ← back_pick r]
    congr 1
    · have key : ∀ ks : List Nat, (∀ k ∈ ks, k < r.length) → ks.filterMap (fun (k : Nat) => (a :: r)[(((r.length + 1 : Nat) : Int) - 1 + (k : Int) * (-1)).toNat]?) = ks.filterMap (fun (k : Nat) => r[((r.length : Int) - 1 + (k : Int) * (-1)).toNat]?) := by
        intro ks
        induction ks with
        | nil => intro _; rfl
        | cons k ks ih =>
          intro h
          have hk : k < r.length := h k List.mem_cons_self
          have e1 : (((r.length + 1 : Nat) : Int) - 1 + (k : Int) * (-1)).toNat = (r.length - 1 - k) + 1 := by omega
          have e2 : ((r.length : Int) - 1 + (k : Int) * (-1)).toNat = r.length - 1 - k := by omega
          rw [List.filterMap_cons, List.filterMap_cons, ih fun z hz => h z (List.mem_cons_of_mem _ hz), e1, e2, List.getElem?_cons_succ]
      exact key _ fun k hk => List.mem_range.mp hk
    · have e1 : (((r.length + 1 : Nat) : Int) - 1 + ((r.length : Nat) : Int) * (-1)).toNat = 0 := by omega
      rw [List.filterMap_cons, e1]
      rfl
theorem sliceApplied_back {sl : Addr} {n : Nat} {u : Tok} {Q : Int × Int × Nat → Shared → Prop} (hs : s.heap.IsSliceOf sl .none .none (.int (-1) u)) (h : Q ((n : Int) - 1, -1, n) s) :
    wpAny (model prog w) A (Builtin.Slice.sliceApplied (.ref sl) (pure (n : Int))) Q E s := by
  obtain ⟨os, hos, hcs, hds⟩ := id hs
  unfold Builtin.Slice.sliceApplied Builtin.Slice.sliceFields
  refine wpAny_bind (wpAny_bind (wpAny_field hos hds (x := .none) rfl (wpAny_bind (wpAny_field hos hds (x := .none) rfl (wpAny_bind (wpAny_field hos hds (x := .int (-1) u) rfl (wpAny_pure ?_)))))))
  refine wpAny_bind (slicePart_int ?_)
  show wpAny _ _ (if ((-1 : Int) == 0) = true then _ else _) _ _ s
  rw [if_neg (by decide)]
  refine wpAny_bind (slicePart_none (wpAny_bind (slicePart_none (wpAny_bind (wpAny_pure ?_)))))
  show wpAny _ _ (match Builtin.Slice.sliceAdjust none none (-1) (n : Int) with | (lo, hi) => pure (lo, (-1 : Int), Builtin.Slice.slicePlaces lo hi (-1))) _ _ s
  rw [adjust_back n]
  show wpAny _ _ (pure ((n : Int) - 1, (-1 : Int), Builtin.Slice.slicePlaces ((n : Int) - 1) (-1) (-1))) _ _ s
  rw [places_back n]
  exact wpAny_pure h
theorem getItem_tuple_back {t sl : Addr} {items : Array Value} {u : Tok} {Q : Value → Shared → Prop} (ht : IsTup s.heap t items) (hs : s.heap.IsSliceOf sl .none .none (.int (-1) u))
    (h : Q (.ref s.heap.objs.size) { s with heap := s.heap.push { cls := .type "tuple", data := .seq items.toList.reverse.toArray } })
    (hsz : items.size ≤ sizeLine) : wpAny (model prog w) A (getItem (.ref t) (.ref sl)) Q E s := by
  have hdrop : sizeOk (.seq items.toList.reverse.toArray) := by
    show items.toList.reverse.toArray.size ≤ sizeLine
    rw [List.size_toArray, List.length_reverse, Array.length_toList]
    omega
  obtain ⟨os, hos, hcs, hds⟩ := id hs
  have hTs : s.TypeIs (.ref sl) "slice" := ⟨os, hos, hcs⟩
  unfold getItem
  try with_reducible refine wpAny_holding ?_
  first | refine wpAny_bind (wpAny_pure ?_) | skip
  refine wpAny_bind (wpAny_sequenceKey ht.typeIs (by decide) ?_)
  refine wpAny_bind (wpAny_callSpecial?_slot (name := Str.ofString "__getitem__") ht.typeIs slot_tuple_getitem
    (wpAny_call_entry slot_tuple_getitem ht.typeIs entry_tuple_getitem ?_ (args_tuple_getitem _ _)))
  show wpAny _ _ (Builtin.Tuple.tupleItemsOf (.ref t) >>= _) _ _ s
  refine wpAny_bind (tupleItemsOf_ ht ?_)
  refine wpAny_bind (wpAny_typeOf hTs ?_)
  rw [if_pos (by decide)]
  refine wpAny_bind (sliceApplied_back hs ?_)
  have hno : ¬ ((((items.size : Int) - 1) == 0 && ((-1) : Int) == 1 && items.size == items.size) = true) := by
    have : (((-1) : Int) == 1) = false := by decide
    rw [this]; simp
  show wpAny _ _ (if (((items.size : Int) - 1) == 0 && ((-1) : Int) == 1 && items.size == items.size) = true then _ else _) _ _ s
  have hp : ((List.range items.size).filterMap fun (k : Nat) => items[((items.size : Int) - 1 + (k : Int) * (-1)).toNat]?).toArray = items.toList.reverse.toArray := by
    have e := back_pick items.toList
    rw [Array.length_toList] at e
    rw [← e]
    simp only [Array.getElem?_toList]
  rw [if_neg hno, hp]
  first
    | exact wpAny_bind (m := Builtin.Tuple.tupleExact _) (wpAny_newObj_type (wpAny_pure ⟨_, rfl, wpAny_pure h⟩) hdrop)
    | exact wpAny_bind (m := Builtin.Tuple.tupleExact _) (wpAny_newObj_type (wpAny_bind (wpAny_pure (wpAny_pure ⟨_, rfl, wpAny_pure h⟩))) hdrop)
    | exact wpAny_bind (wpAny_bind (m := Builtin.Tuple.tupleExact _) (wpAny_newObj_type (wpAny_pure (wpAny_pure ⟨_, rfl, wpAny_pure h⟩)) hdrop))
    | exact wpAny_bind (wpAny_bind (m := Builtin.Tuple.tupleExact _) (wpAny_newObj_type (wpAny_pure ⟨_, rfl, wpAny_pure h⟩) hdrop))
end
section
variable {Φ : Ph} {X : Cx} {pos : Pos} {a : Expr} {ta : DTE}
def tRevT (K : PySem.W.Frag) (te : TE) : TE := fun σ H Q => te σ H fun x H1 => ∃ a xs, x = .ref a ∧ SqT K H1 a xs ∧ ∀ p, H1 p = none → Q (.ref p) (upd H1 p (.tup xs.reverse))
theorem pe_revT {e : Expr} {te : TE} {k : Nat} {p1 p2 p3 pos : Pos} (he : PE X e te) : PE X (.Subscript e (.Slice none none (some (.UnaryOp .USub (.Constant (.int 1) k p1) p2)) p3) pos) (tRevT X.K te) := by
  refine ⟨fun pins s σ H Q I h => ?_⟩
  refine Subscript_ (thn (he.run pins s σ H _ I h) fun v s1 ⟨x, H1, I1, r1, q1⟩ => ?_)
  obtain ⟨a, xs, ex, hx, q⟩ := q1
  subst ex
  cases r1
  have hst : PO X (some (.UnaryOp .USub (.Constant (.int 1) k p1) p2)) (tPart (tUn (rU fun i => .int (-i)) (tC (.int 1)))) := po_some (pe_un un_neg pe_int)
  refine wpAny_Slice (thn (po_none.run pins s1 σ H1 (fun o H2 => o = none ∧ H2 = H1) I1 ⟨rfl, rfl⟩) fun vl s2 ⟨l, H2, I2, pl, el, e2⟩ => ?_)
  subst el e2
  refine thn (po_none.run pins s2 σ H2 (fun o H3 => o = none ∧ H3 = H2) I2 ⟨rfl, rfl⟩) fun vu s3 ⟨u, H3, I3, pu, eu, e3⟩ => ?_
  subst eu e3
  refine thn (hst.run pins s3 σ H3 (fun o H4 => o = some (-1) ∧ H4 = H3) I3 ⟨1, rfl, -1, rfl, rfl, rfl⟩) fun vs s4 ⟨o, H4, I4, ps, eo, e4⟩ => ?_
  subst eo e4
  have I5 : Inv X pins σ H4 { s4 with heap := s4.heap.push { cls := .type "slice", data := .fields #[vl, vu, vs] } } := I4.kept (t' := s4.toks) fun b ob q => Heap.get?_push_of_some _ q
  obtain ⟨its, r, ht, hz⟩ := I5.tuple hx
  have hlen := r.length
  have evl : vl = .none := by cases pl; rfl
  have evu : vu = .none := by cases pu; rfl
  obtain ⟨tk, evs⟩ : ∃ tk, vs = .int (-1) tk := by cases ps with | int i t => exact ⟨t, rfl⟩
  subst evl evu evs
  show wpAny (model X.prog X.w) X.A (subscriptTail e (.Slice none none (some (.UnaryOp .USub (.Constant (.int 1) k p1) p2)) p3) (.ref a) (.ref s4.heap.objs.size)) (EP X pins σ Q) X.xe { s4 with heap := s4.heap.push { cls := .type "slice", data := .fields #[.none, .none, .int (-1) tk] } }
  refine tail_any (ops := [.ref a, .ref s4.heap.objs.size]) ht.typeIs (PyProof.Rows.slot_tuple_getitem.lookup) ?_ (by with_unfolding_all rfl)
  refine getItem_tuple_back ht (Heap.IsSliceOf.new _ .none .none (.int (-1) tk)) ?_ (by rw [List.size_toArray]; omega)
  refine ⟨.ref _, _, I5.laid (t' := s4.toks) (o := .tup xs.reverse) (fun b ob q => Heap.get?_push_of_some _ q) (Nat.le_refl _) ?_, rfl, q _ (I5.hok.fresh (Nat.le_refl _))⟩
  exact ⟨by rw [List.length_reverse]; exact hz, _, r.reverse, IsTup.new _ _⟩
def rdRevT : DR1 := fun x M Q => ∃ ds, x = .d (.tuple ds) ∧ Q (.d (.tuple ds.reverse)) M
theorem drevT {k : Nat} {p1 p2 p3 : Pos} (ha : DE Φ X a ta) : DE Φ X (.Subscript a (.Slice none none (some (.UnaryOp .USub (.Constant (.int 1) k p1) p2)) p3) pos) (dUn rdRevT ta) := by
  refine pe_mono (pe_revT ha) fun σ H Q ⟨ρ, M, Q', S, h, k⟩ => ⟨ρ, M, _, S, h, fun x M1 v H1 q dv m tx => ?_⟩
  obtain ⟨ds, rfl, q⟩ := q
  obtain ⟨p, vs, rfl, s, r⟩ := Rp.tupI dv
  exact ⟨p, vs, rfl, s, fun p hp => k _ M1 _ _ q (Rp.tup (SqT.of upd_same) (r.reverse.tx (TX.newT hp))) (m.newT hp) (tx.trans (TX.newT hp))⟩
end
end BN

set_option exponentiation.threshold 20000
/-! numbers: fractions as Rat, bowls; the small defs -/
namespace BN
open PySem PySem.Spec PyProof.Rows L2
/-- a fraction as data -/
def fr (q : Rat) : PyData := .tuple [.int q.num, .int q.den]
structure Bowl where
  b : Int
  t : Int
  h : Int
  deriving DecidableEq
structure Bowl.Ok (x : Bowl) : Prop where
  b1 : 1 ≤ x.b
  bt : x.b < x.t
  t1 : x.t ≤ 100
  h1 : 1 ≤ x.h
  h2 : x.h ≤ 100
def Bowl.p (x : Bowl) : PyData := .tuple [.int x.b, .int x.t, .int x.h]
/-- small top and bottom -/
def Sz (n : Nat) (q : Rat) : Prop := q.num.natAbs < 2 ^ n ∧ q.den < 2 ^ n
theorem Sz.mono {n m : Nat} {q : Rat} (h : Sz n q) (l : n ≤ m) : Sz m q :=
  ⟨Nat.lt_of_lt_of_le h.1 (Nat.pow_le_pow_right (by decide) l), Nat.lt_of_lt_of_le h.2 (Nat.pow_le_pow_right (by decide) l)⟩
theorem cmul {i j : Int} (hi : i.natAbs < 2 ^ 9000) (hj : j.natAbs < 2 ^ 9000) : CMulW i j := wide_mul hi hj (by decide) (by decide) (by decide)
theorem up {i : Int} {n : Nat} (h : i.natAbs < 2 ^ n) (l : n ≤ 9000 := by decide) : i.natAbs < 2 ^ 9000 := Nat.lt_of_lt_of_le h (Nat.pow_le_pow_right (by decide) l)
theorem upto {i : Int} {n m : Nat} (h : i.natAbs < 2 ^ n) (l : n ≤ m := by decide) : i.natAbs < 2 ^ m := Nat.lt_of_lt_of_le h (Nat.pow_le_pow_right (by decide) l)
theorem small9 {i : Int} (h : i.natAbs < 1000000000) : i.natAbs < 2 ^ 9000 := up (n := 30) (by omega)
theorem Sz.n9 {q : Rat} (h : Sz 4000 q) : q.num.natAbs < 2 ^ 9000 := up h.1
theorem Sz.d' {q : Rat} {n : Nat} (h : Sz n q) : ((q.den : Nat) : Int).natAbs < 2 ^ n := by simpa using h.2
theorem Sz.d9 {q : Rat} (h : Sz 4000 q) : ((q.den : Nat) : Int).natAbs < 2 ^ 9000 := up h.d'
theorem mul_lt {i j : Int} {n m : Nat} (hi : i.natAbs < 2 ^ n) (hj : j.natAbs < 2 ^ m) : (i * j).natAbs < 2 ^ (n + m) := wide_lt hi hj
theorem add_lt {i j : Int} {n : Nat} (hi : i.natAbs < 2 ^ n) (hj : j.natAbs < 2 ^ n) : (i + j).natAbs < 2 ^ (n + 1) := by
  rw [Nat.pow_succ]; omega
theorem sub_lt {i j : Int} {n : Nat} (hi : i.natAbs < 2 ^ n) (hj : j.natAbs < 2 ^ n) : (i - j).natAbs < 2 ^ (n + 1) := by
  rw [Nat.pow_succ]; omega
theorem den_pos (q : Rat) : (0 : Int) < (q.den : Nat) := by
  have := q.den_pos
  omega
theorem den_ne (q : Rat) : ((q.den : Nat) : Rat) ≠ 0 := by
  have := q.den_nz
  intro h
  exact this (by exact_mod_cast h)
/-- q is its top by its bottom -/
theorem rat_eq (q : Rat) : q = (q.num : Rat) / ((q.den : Nat) : Rat) := by
  have h := Rat.num_divInt_den q
  rw [Rat.divInt_eq_div] at h
  exact h.symm
/-- fractions are equal as data just where they are equal -/
theorem eqv_int (a b : Int) : PyData.eqv (.int a) (.int b) = decide (a = b) := by
  simp [PyData.eqv, BEq.beq, decide_eq_decide]
theorem fr_eqv (p q : Rat) : PyData.eqv (fr p) (fr q) = decide (p = q) := by
  unfold fr
  simp only [PyData.eqv, PyData.eqvAll, Bool.and_true]
  rw [Bool.eq_iff_iff]
  simp only [Bool.and_eq_true, beq_iff_eq, decide_eq_true_eq]
  constructor
  · rintro ⟨h1, h2⟩
    exact Rat.ext h1 (by omega)
  · rintro rfl
    exact ⟨rfl, rfl⟩
theorem fr_shaped (q : Rat) : SeqAt.shaped (fr q) = true := by rfl
/-! what the readings compute -/
theorem rdIx_t {xs : List PyData} {i : Int} {M : DM} {Q : DQ} : rdIx (.d (.tuple xs)) (.d (.int i)) M Q ↔ ∃ z, ixD xs i = some z ∧ Q (.d z) M := by
  constructor
  · rintro ⟨a, w, h⟩
    cases (show a = _ from w)
    exact h
  · exact fun h => ⟨_, rfl, h⟩
/-! ### the promises -/
def sp_divisor : DSp := fun ds M Q _ => ∃ a b : Int, ds = [.d (.int a), .d (.int b)] ∧ 0 ≤ a ∧ 0 ≤ b ∧ Q (.d (.int (Int.gcd a b))) M
theorem len_divisor {ds M Q E} (h : sp_divisor ds M Q E) : ds.length = 2 := by obtain ⟨a, b, rfl, _⟩ := h; rfl
def sp_fraction : DSp := fun ds M Q _ => ∃ a b : Int, ds = [.d (.int a), .d (.int b)] ∧ 0 < b ∧ a.natAbs < 2 ^ 8900 ∧ b.natAbs < 2 ^ 8900 ∧ Q (.d (fr ((a : Rat) / (b : Rat)))) M
theorem len_fraction {ds M Q E} (h : sp_fraction ds M Q E) : ds.length = 2 := by obtain ⟨a, b, rfl, _⟩ := h; rfl
def sp_arith (f : Rat → Rat → Rat) : DSp := fun ds M Q _ => ∃ p q : Rat, ds = [.d (fr p), .d (fr q)] ∧ Sz 4000 p ∧ Sz 4000 q ∧ Q (.d (fr (f p q))) M
theorem len_arith {f ds M Q E} (h : sp_arith f ds M Q E) : ds.length = 2 := by obtain ⟨a, b, rfl, _⟩ := h; rfl
abbrev sp_plus := sp_arith (· + ·)
abbrev sp_minus := sp_arith (· - ·)
abbrev sp_times := sp_arith (· * ·)
theorem len_plus {ds M Q E} (h : sp_plus ds M Q E) : ds.length = 2 := len_arith h
theorem len_minus {ds M Q E} (h : sp_minus ds M Q E) : ds.length = 2 := len_arith h
theorem len_times {ds M Q E} (h : sp_times ds M Q E) : ds.length = 2 := len_arith h
def sp_is_less : DSp := fun ds M Q _ => ∃ p q : Rat, ds = [.d (fr p), .d (fr q)] ∧ Sz 4000 p ∧ Sz 4000 q ∧ Q (.d (.bool (decide (p < q)))) M
theorem len_is_less {ds M Q E} (h : sp_is_less ds M Q E) : ds.length = 2 := by obtain ⟨a, b, rfl, _⟩ := h; rfl
/-- whether a thing is a whole number between two -/
def isWh (x : PyData) (lo hi : Int) : Bool := match x with
  | .int i => decide (lo ≤ i) && decide (i ≤ hi)
  | _ => false
def sp_is_whole : DSp := fun ds M Q _ => ∃ (x : PyData) (lo hi : Int), ds = [.d x, .d (.int lo), .d (.int hi)] ∧ Q (.d (.bool (isWh x lo hi))) M
theorem len_is_whole {ds M Q E} (h : sp_is_whole ds M Q E) : ds.length = 3 := by obtain ⟨x, a, b, rfl, _⟩ := h; rfl
/-- whether a thing is a bowl -/
def isBw (x : PyData) : Bool := match x with
  | .tuple [.int b, .int t, .int h] => (isWh (.int b) 1 100 && isWh (.int t) 1 100 && isWh (.int h) 1 100) && decide (b < t)
  | _ => false
theorem isBw_ok {x : PyData} (h : isBw x = true) : ∃ y : Bowl, y.Ok ∧ x = y.p := by
  unfold isBw at h
  split at h
  · rename_i b t hh
    simp only [isWh, Bool.and_eq_true, decide_eq_true_eq] at h
    exact ⟨⟨b, t, hh⟩, ⟨by show 1 ≤ b; omega, by show b < t; omega, by show t ≤ 100; omega, by show 1 ≤ hh; omega, by show hh ≤ 100; omega⟩, rfl⟩
  · cases h
theorem isBw_p {y : Bowl} (h : y.Ok) : isBw y.p = true := by
  have h1 := h.b1; have h2 := h.bt; have h3 := h.t1; have h4 := h.h1; have h5 := h.h2
  simp only [isBw, Bowl.p, isWh, Bool.and_eq_true, decide_eq_true_eq]
  omega
def sp_is_bowl : DSp := fun ds M Q _ => ∃ x : PyData, ds = [.d x] ∧ (∀ xs, x = .tuple xs → xs.length ≤ 1000) ∧ Q (.d (.bool (isBw x))) M
theorem len_is_bowl {ds M Q E} (h : sp_is_bowl ds M Q E) : ds.length = 1 := by obtain ⟨x, rfl, _⟩ := h; rfl
def sp_need_bowl (c_NoBowl : Addr) : DSp := fun ds M Q E => ∃ x : PyData, ds = [.d x] ∧ (∀ xs, x = .tuple xs → xs.length ≤ 1000) ∧ (isBw x = true → Q (.d .none) M) ∧ (isBw x = false → E c_NoBowl M)
theorem len_need_bowl {c ds M Q E} (h : sp_need_bowl c ds M Q E) : ds.length = 1 := by obtain ⟨x, rfl, _⟩ := h; rfl
/-- the greatest of fractions -/
def gst (q : Rat) (qs : List Rat) : Rat := qs.foldl (fun f x => if f < x then x else f) q
def sp_greatest : DSp := fun ds M Q _ => ∃ (q : Rat) (qs : List Rat), ds = [.d (.list ((q :: qs).map fr))] ∧ (∀ z ∈ q :: qs, Sz 4000 z) ∧ Q (.d (fr (gst q qs))) M
theorem len_greatest {ds M Q E} (h : sp_greatest ds M Q E) : ds.length = 1 := by obtain ⟨q, qs, rfl, _⟩ := h; rfl
/-- the rest of y in x -/
def rst (x y : Bowl) : Rat :=
  if y.b ≥ x.t then x.h else
    gst 0 [((x.h * (y.b - x.b) : Int) : Rat) / ((x.t - x.b : Int) : Rat),
      if y.t ≤ x.t then ((x.h * (y.t - x.b) : Int) : Rat) / ((x.t - x.b : Int) : Rat) - (y.h : Rat) else (x.h : Rat) - ((y.h * (x.t - y.b) : Int) : Rat) / ((y.t - y.b : Int) : Rat)]
def sp_rest_of : DSp := fun ds M Q _ => ∃ x y : Bowl, ds = [.d x.p, .d y.p] ∧ x.Ok ∧ y.Ok ∧ Q (.d (fr (rst x y))) M
theorem len_rest_of {ds M Q E} (h : sp_rest_of ds M Q E) : ds.length = 2 := by obtain ⟨x, q, rfl, _⟩ := h; rfl
/-- data of a bounded size that stands where a bowl is asked -/
def Fit (x : PyData) : Prop := ∀ xs, x = .tuple xs → xs.length ≤ 1000
theorem Bowl.fit (x : Bowl) : Fit x.p := fun xs e => by cases e; exact Nat.le_of_ble_eq_true rfl
def sp_rest (c_NoBowl : Addr) : DSp := fun ds M Q E => ∃ x y : PyData, ds = [.d x, .d y] ∧ Fit x ∧ Fit y ∧ (∀ a b : Bowl, a.Ok → b.Ok → x = a.p → y = b.p → Q (.d (fr (rst a b))) M) ∧ (isBw x = false ∨ isBw y = false → E c_NoBowl M)
theorem len_rest {c ds M Q E} (h : sp_rest c ds M Q E) : ds.length = 2 := by obtain ⟨x, q, rfl, _⟩ := h; rfl
abbrev c_NOUGHT : D := .d (fr 0)
abbrev c_MOST : D := .d (.int 100)
abbrev c_MOST_BOWLS : D := .d (.int 8)
abbrev c_MOST_ORDERED : D := .d (.int 6)
abbrev n_divisor : List Str := ["one", "other"]
def t_divisor : DTS :=
  (dSeq (dWhile (dTst (dNe (tVarD 1) (tCD (.d (.int 0))))) (dPar 0 1 (tVarD 1) (dMod (tVarD 0) (tVarD 1))))
    (dRet (tVarD 0)))
abbrev n_fraction : List Str := ["top", "bottom", "by"]
def t_fraction : DTS :=
  (dSeq (dAsg (dMul (dCall sp_divisor X0 [(dCB rdAbs [(tVarD 0)]), (dCB rdAbs [(tVarD 1)])]) (dIf (dTst (dGt (tVarD 1) (tCD (.d (.int 0))))) (tCD (.d (.int 1))) (dUn rdNeg (tCD (.d (.int 1)))))) (gNm 2))
    (dRet (dTup [(dFdiv (tVarD 0) (tVarD 2)), (dFdiv (tVarD 1) (tVarD 2))])))
abbrev n_plus : List Str := ["one", "other"]
def t_plus : DTS :=
  (dRet (dCall sp_fraction X0 [(dAdd (dMul (dIx (tVarD 0) (tCD (.d (.int 0)))) (dIx (tVarD 1) (tCD (.d (.int 1))))) (dMul (dIx (tVarD 1) (tCD (.d (.int 0)))) (dIx (tVarD 0) (tCD (.d (.int 1)))))), (dMul (dIx (tVarD 0) (tCD (.d (.int 1)))) (dIx (tVarD 1) (tCD (.d (.int 1)))))]))
abbrev n_minus : List Str := ["one", "other"]
def t_minus : DTS :=
  (dRet (dCall sp_fraction X0 [(dSub (dMul (dIx (tVarD 0) (tCD (.d (.int 0)))) (dIx (tVarD 1) (tCD (.d (.int 1))))) (dMul (dIx (tVarD 1) (tCD (.d (.int 0)))) (dIx (tVarD 0) (tCD (.d (.int 1)))))), (dMul (dIx (tVarD 0) (tCD (.d (.int 1)))) (dIx (tVarD 1) (tCD (.d (.int 1)))))]))
theorem gcd_step {a b : Int} (ha : 0 ≤ a) (hb : 0 < b) : Int.gcd b (a % b) = Int.gcd a b := by
  have e : (a % b).natAbs = a.natAbs % b.natAbs := by
    have : a % b = ((a.natAbs % b.natAbs : Nat) : Int) := by
      rw [Int.natCast_emod, Int.natAbs_of_nonneg ha, Int.natAbs_of_nonneg (by omega)]
    rw [this]
    rfl
  show Nat.gcd b.natAbs (a % b).natAbs = Nat.gcd a.natAbs b.natAbs
  rw [e, Nat.gcd_comm, ← Nat.gcd_rec, Nat.gcd_comm]
theorem rd_divisor {ds M Q E'} (h : sp_divisor ds M Q E') : t_divisor (fnEnds Q) (startD n_divisor ds) M := by
  obtain ⟨a, b, rfl, ha, hb, k⟩ := h
  refine ⟨fun n ρ M' => ∃ a' b' : Int, ρ = [some (.d (.int a')), some (.d (.int b'))] ∧ M' = M ∧ 0 ≤ a' ∧ 0 ≤ b' ∧ n = b'.toNat ∧ Int.gcd a' b' = Int.gcd a b, ⟨b.toNat, a, b, rfl, rfl, ha, hb, rfl, rfl⟩, ?_⟩
  rintro n ρ M' ⟨a', b', rfl, rfl, ha', hb', rfl, e⟩
  refine ⟨_, _, rfl, rfl, ⟨rfl, rfl⟩, fun h => ?_, fun h => ?_⟩
  · rw [eqv_int] at h
    have h0 : b' ≠ 0 := by simpa using h
    have h1 : 0 ≤ a' % b' := Int.emod_nonneg _ h0
    have h2 : a' % b' < b' := Int.emod_lt_of_pos _ (by omega)
    refine ⟨by show (0 : Int) < b'; omega, (a' % b').toNat, by omega, b', a' % b', rfl, rfl, hb', h1, rfl, ?_⟩
    rw [← e]
    exact gcd_step ha' (by omega)
  · rw [eqv_int] at h
    have h0 : b' = 0 := by simpa using h
    subst h0
    refine ⟨M', _, .same _ _ Sub.rfl', ?_⟩
    rw [← e] at k
    have e2 : ((Int.gcd a' 0 : Nat) : Int) = a' := by rw [Int.gcd_zero_right]; omega
    rw [e2] at k
    exact k
theorem frac_num {a b : Int} (hb : 0 < b) : ((a : Rat) / (b : Rat)).num = a / (Int.gcd a b : Nat) ∧ ((((a : Rat) / (b : Rat)).den : Nat) : Int) = b / (Int.gcd a b : Nat) := by
  rw [← Rat.divInt_eq_div, Rat.num_divInt, Rat.den_divInt, if_neg (by omega), Int.sign_eq_one_of_pos hb, Int.one_mul, Int.gcd_comm]
  refine ⟨rfl, ?_⟩
  rw [Int.natCast_ediv, Int.natAbs_of_nonneg (by omega)]
theorem rd_fraction {ds M Q E'} (h : sp_fraction ds M Q E') : t_fraction (fnEnds Q) (startD n_fraction ds) M := by
  obtain ⟨a, b, rfl, hb, sa, sb, k⟩ := h
  have hg : (0 : Int) < (Int.gcd a b : Nat) := by
    have := Int.gcd_pos_of_ne_zero_right a (show b ≠ 0 by omega)
    omega
  have hgb : ((Int.gcd a b : Nat) : Int) ≤ b := Int.le_of_dvd hb (Int.gcd_dvd_right ..)
  have e1 : Int.gcd ((a.natAbs : Nat) : Int) ((b.natAbs : Nat) : Int) = Int.gcd a b := by simp [Int.gcd]
  have sg : ((Int.gcd a b : Nat) : Int).natAbs < 2 ^ 8900 := by omega
  refine ⟨_, _, rfl, by omega, by omega, ⟨fun _ => ?_, fun h => ?_⟩⟩
  · refine ⟨cmul (by rw [e1]; exact up sg) (by decide), ?_⟩
    rw [e1, Int.mul_one]
    have w : CDivW a (Int.gcd a b : Nat) := wide_div hg sg (by decide) (by decide)
    have w2 : CDivW b (Int.gcd a b : Nat) := wide_div hg sg (by decide) (by decide)
    refine ⟨w, w2, M, _, .same _ _ Sub.rfl', ?_⟩
    obtain ⟨f1, f2⟩ := frac_num (a := a) hb
    unfold fr at k
    rw [f1, f2] at k
    exact k
  · have h : decide ((0 : Int) < b) = false := h
    have := of_decide_eq_false h
    omega
theorem rd_plus {ds M Q E'} (h : sp_plus ds M Q E') : t_plus (fnEnds Q) (startD n_plus ds) M := by
  obtain ⟨p, q, rfl, hp, hq, k⟩ := h
  refine ⟨_, rfl, _, rfl, _, rfl, _, rfl, cmul hp.n9 hq.d9, _, rfl, _, rfl, _, rfl, _, rfl, cmul hq.n9 hp.d9, _, rfl, _, rfl, _, rfl, _, rfl, cmul hp.d9 hq.d9, _, _, rfl, ?_, ?_, ?_, M, _, .same _ _ Sub.rfl', ?_⟩
  · exact Int.mul_pos (den_pos p) (den_pos q)
  · exact upto (add_lt (mul_lt hp.1 hq.d') (mul_lt hq.1 hp.d'))
  · exact upto (mul_lt hp.d' hq.d')
  · have e : ((p.num * (q.den : Nat) + q.num * (p.den : Nat) : Int) : Rat) / ((((p.den : Nat) : Int) * (q.den : Nat) : Int) : Rat) = p + q := by
      have h1 := den_ne p
      have h2 := den_ne q
      conv => rhs; rw [rat_eq p, rat_eq q]
      push_cast
      grind
    rw [e]
    exact k
theorem rd_minus {ds M Q E'} (h : sp_minus ds M Q E') : t_minus (fnEnds Q) (startD n_minus ds) M := by
  obtain ⟨p, q, rfl, hp, hq, k⟩ := h
  refine ⟨_, rfl, _, rfl, _, rfl, _, rfl, cmul hp.n9 hq.d9, _, rfl, _, rfl, _, rfl, _, rfl, cmul hq.n9 hp.d9, _, rfl, _, rfl, _, rfl, _, rfl, cmul hp.d9 hq.d9, _, _, rfl, ?_, ?_, ?_, M, _, .same _ _ Sub.rfl', ?_⟩
  · exact Int.mul_pos (den_pos p) (den_pos q)
  · exact upto (sub_lt (mul_lt hp.1 hq.d') (mul_lt hq.1 hp.d'))
  · exact upto (mul_lt hp.d' hq.d')
  · have e : ((p.num * (q.den : Nat) - q.num * (p.den : Nat) : Int) : Rat) / ((((p.den : Nat) : Int) * (q.den : Nat) : Int) : Rat) = p - q := by
      have h1 := den_ne p
      have h2 := den_ne q
      conv => rhs; rw [rat_eq p, rat_eq q]
      push_cast
      grind
    rw [e]
    exact k
end BN

namespace BN
open PySem PySem.Spec PyProof.Rows L2
abbrev n_is_less : List Str := ["one", "other"]
def t_is_less : DTS :=
  (dRet (dLt (dMul (dIx (tVarD 0) (tCD (.d (.int 0)))) (dIx (tVarD 1) (tCD (.d (.int 1))))) (dMul (dIx (tVarD 1) (tCD (.d (.int 0)))) (dIx (tVarD 0) (tCD (.d (.int 1)))))))
abbrev n_is_whole : List Str := ["thing", "low", "high"]
def t_is_whole : DTS :=
  (dRet (dAndV (dCB (rdIsi .int) [(tVarD 0), tCD (.ty (KTy.s .int))]) (dAndV (dUn rdNot (dCB (rdIsi .bool) [(tVarD 0), tCD (.ty (KTy.s .bool))])) (dChn rdLe rdLe (tVarD 1) (tVarD 0) (tVarD 2)))))
abbrev n_is_bowl : List Str := ["thing", "one"]
def t_is_bowl : DTS :=
  (dSeq (dIfS (dOr (dNot (dTst (dCB (rdIsi .tuple) [(tVarD 0), tCD (.ty (KTy.s .tuple))]))) (dOr (dTst (dNe (dCB rdLen [(tVarD 0)]) (tCD (.d (.int 3))))) (dNot (dTst (dCB rdAll [(dLc (.one 1) [1] (iTp (tVarD 0)) dYes (dCall sp_is_whole X0 [(tVarD 1), (tCD (.d (.int 1))), (tCD c_MOST)]))]))))) (dRet (tCD (.d (.bool false)))) dNext)
    (dRet (dLt (dIx (tVarD 0) (tCD (.d (.int 0)))) (dIx (tVarD 0) (tCD (.d (.int 1)))))))
abbrev n_need_bowl : List Str := ["thing"]
def t_need_bowl (c_NoBowl : Addr) (E' : DX) : DTS :=
  (dIfS (dNot (dTst (dCall sp_is_bowl X0 [(tVarD 0)]))) (dRaise c_NoBowl E') dNext)
abbrev n_greatest : List Str := ["some", "found", "one"]
def t_greatest : DTS :=
  (dSeq (dAsg (dIx (tVarD 0) (tCD (.d (.int 0)))) (gNm 1))
    (dSeq (dFor (iLs (tVarD 0)) (gNm 2)
    (dAsg (dIf (dTst (dCall sp_is_less X0 [(tVarD 1), (tVarD 2)])) (tVarD 2) (tVarD 1)) (gNm 1)))
    (dRet (tVarD 1))))
theorem sameQ {Q : DQ} {M : DM} {x : D} (h : Q x M) : wk Q x M := ⟨M, x, .same _ _ Sub.rfl', h⟩
theorem rd_is_less {ds M Q E'} (h : sp_is_less ds M Q E') : t_is_less (fnEnds Q) (startD n_is_less ds) M := by
  obtain ⟨p, q, rfl, hp, hq, k⟩ := h
  refine ⟨_, rfl, _, rfl, _, rfl, _, rfl, cmul hp.n9 hq.d9, _, rfl, _, rfl, _, rfl, _, rfl, cmul hq.n9 hp.d9, sameQ ?_⟩
  rw [decide_eq_decide.mpr (Rat.lt_iff p q)] at k
  exact k
theorem rd_is_whole {ds M Q E'} (h : sp_is_whole ds M Q E') : t_is_whole (fnEnds Q) (startD n_is_whole ds) M := by
  obtain ⟨x, lo, hi, rfl, k⟩ := h
  cases x with
  | int i =>
    refine ⟨rfl, fun _ => ⟨rfl, fun _ => ⟨fun h => sameQ ?_, fun h => sameQ ?_⟩, fun h => nomatch h⟩, fun h => nomatch h⟩
    · have h : decide (lo ≤ i) = true := h
      simp only [isWh, h, Bool.true_and] at k
      exact k
    · have h : decide (lo ≤ i) = false := h
      simp only [isWh, h, Bool.false_and] at k
      exact k
  | bool b => exact ⟨rfl, fun _ => ⟨rfl, fun h => (nomatch h), fun _ => sameQ k⟩, fun h => nomatch h⟩
  | _ => exact ⟨rfl, fun h => (nomatch h), fun _ => sameQ k⟩
theorem rd_is_bowl {ds M Q E'} (h : sp_is_bowl ds M Q E') : t_is_bowl (fnEnds Q) (startD n_is_bowl ds) M := by
  obtain ⟨x, rfl, fit, k⟩ := h
  cases x with
  | tuple xs =>
    have hl := fit xs rfl
    refine ⟨rfl, ⟨fun h => (nomatch h), fun _ => ⟨_, rfl, _, _, rfl, rfl, ⟨rfl, rfl⟩, fun h => ⟨fun _ => sameQ ?_, fun h => (nomatch h)⟩, fun h => ?_⟩⟩⟩
    · rw [eqv_int] at h
      have h3 : xs.length ≠ 3 := by
        have h : (!decide (((xs.length : Nat) : Int) = 3)) = true := h
        simp at h
        omega
      have e : isBw (.tuple xs) = false := by
        cases e : isBw (.tuple xs) with
        | false => rfl
        | true =>
          obtain ⟨y, _, e2⟩ := isBw_ok e
          cases e2
          exact absurd rfl h3
      rw [e] at k
      exact k
    · rw [eqv_int] at h
      have h33 : xs.length = 3 := by
        have h : (!decide (((xs.length : Nat) : Int) = 3)) = false := h
        simp at h
        omega
      obtain ⟨a, b, c, rfl⟩ : ∃ a b c, xs = [a, b, c] := by
        match xs, h33 with
        | [a, b, c], _ => exact ⟨a, b, c, rfl⟩
      refine ⟨fun i acc M' => M' = M ∧ acc = (([a, b, c] : List PyData).take i).map fun z => .bool (isWh z 1 100), ⟨rfl, rfl⟩, ?_, ?_⟩
      · rintro i z acc M' hz ⟨rfl, rfl⟩
        refine ⟨fun _ => ⟨z, 1, 100, rfl, ?_, rfl, ?_⟩, fun h => (nomatch h)⟩
        · rw [List.length_map, List.length_take]
          simp
          omega
        · rw [List.take_add_one, hz]
          simp
      · rintro acc M' ⟨rfl, rfl⟩
        refine ⟨[isWh a 1 100, isWh b 1 100, isWh c 1 100], rfl, fun h => ?_, fun h => ?_⟩
        · refine sameQ ?_
          have h : (!([isWh a 1 100, isWh b 1 100, isWh c 1 100].all id)) = true := h
          have e : isBw (.tuple [a, b, c]) = false := by
            cases e : isBw (.tuple [a, b, c]) with
            | false => rfl
            | true =>
              obtain ⟨y, hy, e2⟩ := isBw_ok e
              cases e2
              have h1 := hy.b1; have h2 := hy.bt; have h3 := hy.t1; have h4 := hy.h1; have h5 := hy.h2
              simp [isWh] at h
              omega
          rw [e] at k
          exact k
        · have h : (!([isWh a 1 100, isWh b 1 100, isWh c 1 100].all id)) = false := h
          simp only [List.all_cons, List.all_nil, id, Bool.and_true, Bool.not_eq_false', Bool.and_eq_true] at h
          obtain ⟨h1, h2, h3⟩ := h
          unfold isWh at h1 h2 h3
          split at h1
          · split at h2
            · split at h3
              · rename_i i _ j _ l _ _
                refine ⟨_, rfl, _, rfl, _, rfl, _, rfl, sameQ ?_⟩
                have e : isBw (.tuple [.int i, .int j, .int l]) = decide (i < j) := by
                  simp only [isBw, isWh, h1, h2, h3, Bool.true_and]
                rw [e] at k
                exact k
              · cases h3
            · cases h2
          · cases h1
  | _ => exact ⟨rfl, ⟨fun _ => ⟨fun _ => sameQ k, fun h => (nomatch h)⟩, fun h => (nomatch h)⟩⟩
theorem rd_need_bowl {c ds M Q E'} (h : sp_need_bowl c ds M Q E') : t_need_bowl c E' (fnEnds Q) (startD n_need_bowl ds) M := by
  obtain ⟨x, rfl, fit, k1, k2⟩ := h
  refine ⟨x, rfl, fit, fun h => ?_, fun h => ?_⟩
  · exact k2 (by simpa using h)
  · exact k1 (by simpa using h)
theorem gst_sz {n : Nat} : ∀ (qs : List Rat) (q : Rat), (∀ z ∈ q :: qs, Sz n z) → Sz n (gst q qs)
  | [], q, h => h q (List.mem_singleton.mpr rfl)
  | x :: r, q, h => by
    show Sz n (gst (if q < x then x else q) r)
    refine gst_sz r _ fun z hz => ?_
    rcases List.mem_cons.mp hz with e | hz
    · rw [e]
      by_cases hq : q < x
      · rw [if_pos hq]; exact h x (List.mem_cons_of_mem _ List.mem_cons_self)
      · rw [if_neg hq]; exact h q List.mem_cons_self
    · exact h z (List.mem_cons_of_mem _ (List.mem_cons_of_mem _ hz))
theorem rd_greatest {ds M Q E'} (h : sp_greatest ds M Q E') : t_greatest (fnEnds Q) (startD n_greatest ds) M := by
  obtain ⟨q, qs, rfl, sz, k⟩ := h
  refine ⟨_, rfl, _, rfl, fun i ρ M' => ∃ o, ρ = [some (.d (.list ((q :: qs).map fr))), some (.d (fr (((q :: qs).take i).foldl (fun f x => if f < x then x else f) q))), o] ∧ M' = M, ⟨_, rfl, rfl⟩, ?_, ?_⟩
  · rintro i x ρ M' hx ⟨o, rfl, rfl⟩
    rw [List.getElem?_map] at hx
    obtain ⟨z, hz, rfl⟩ := Option.map_eq_some_iff.mp hx
    have s1 : Sz 4000 (((q :: qs).take i).foldl (fun f x => if f < x then x else f) q) := gst_sz _ q fun y hy => by
      rcases List.mem_cons.mp hy with e | hy
      · rw [e]; exact sz q List.mem_cons_self
      · exact sz y (List.mem_of_mem_take hy)
    have s2 : Sz 4000 z := sz z (List.mem_of_getElem? hz)
    have e : ((q :: qs).take (i + 1)).foldl (fun f x => if f < x then x else f) q = if ((q :: qs).take i).foldl (fun f x => if f < x then x else f) q < z then z else ((q :: qs).take i).foldl (fun f x => if f < x then x else f) q := by
      rw [List.take_add_one, hz, List.foldl_append]
      rfl
    refine ⟨_, _, rfl, s1, s2, fun h => ⟨some (.d (fr z)), ?_, rfl⟩, fun h => ⟨some (.d (fr z)), ?_, rfl⟩⟩
    · rw [e, if_pos (of_decide_eq_true h)]
      rfl
    · rw [e, if_neg (of_decide_eq_false h)]
      rfl
  · rintro ρ M' ⟨o, rfl, rfl⟩
    refine sameQ ?_
    have e : (q :: qs).take ((q :: qs).map fr).length = q :: qs := by rw [List.length_map]; exact List.take_length
    rw [e, List.foldl_cons, if_neg (by exact Rat.lt_irrefl)]
    exact k
end BN

namespace BN
open PySem PySem.Spec PyProof.Rows L2
abbrev n_rest_of : List Str := ["one", "other", "bottom", "top", "high", "low", "wide", "tall", "found"]
def t_rest_of : DTS :=
  (dSeq (dAsg (tVarD 0) (gTp [2, 3, 4]))
    (dSeq (dAsg (tVarD 1) (gTp [5, 6, 7]))
    (dSeq (dIfS (dTst (dGe (tVarD 5) (tVarD 3))) (dRet (dTup [(tVarD 4), (tCD (.d (.int 1)))])) dNext)
    (dSeq (dAsg (dLstM [(tCD c_NOUGHT), (dCall sp_fraction X0 [(dMul (tVarD 4) (dSub (tVarD 5) (tVarD 2))), (dSub (tVarD 3) (tVarD 2))])]) (gNm 8))
    (dSeq (dIfS (dTst (dLe (tVarD 6) (tVarD 3))) (dDrop (dApp (tVarD 8) (dCall sp_minus X0 [(dCall sp_fraction X0 [(dMul (tVarD 4) (dSub (tVarD 6) (tVarD 2))), (dSub (tVarD 3) (tVarD 2))]), (dTup [(tVarD 7), (tCD (.d (.int 1)))])]))) (dDrop (dApp (tVarD 8) (dCall sp_minus X0 [(dTup [(tVarD 4), (tCD (.d (.int 1)))]), (dCall sp_fraction X0 [(dMul (tVarD 7) (dSub (tVarD 3) (tVarD 5))), (dSub (tVarD 6) (tVarD 5))])]))))
    (dRet (dCall sp_greatest X0 [dFrz (tVarD 8)])))))))
abbrev n_rest : List Str := ["one", "other"]
def t_rest (c_NoBowl : Addr) (E' : DX) : DTS :=
  (dSeq (dDrop (dCall (sp_need_bowl c_NoBowl) E' [(tVarD 0)]))
    (dSeq (dDrop (dCall (sp_need_bowl c_NoBowl) E' [(tVarD 1)]))
    (dRet (dCall sp_rest_of X0 [(tVarD 0), (tVarD 1)]))))
theorem sz_div {a b : Int} {n : Nat} (hb : 0 < b) (ha : a.natAbs < 2 ^ n) (hb2 : b.natAbs < 2 ^ n) : Sz n ((a : Rat) / (b : Rat)) := by
  obtain ⟨f1, f2⟩ := frac_num (a := a) hb
  have hg : 0 < Int.gcd a b := Int.gcd_pos_of_ne_zero_right a (show b ≠ 0 by omega)
  refine ⟨?_, ?_⟩
  · rw [f1]
    have e : (a / ((Int.gcd a b : Nat) : Int)).natAbs ≤ a.natAbs := Int.natAbs_ediv_le_natAbs _ _
    omega
  · have e : ((((a : Rat) / (b : Rat)).den : Nat) : Int) ≤ b := by
      rw [f2]
      exact Int.ediv_le_self _ (by omega)
    omega
theorem sz_add {n m : Nat} {p q : Rat} (hp : Sz n p) (hq : Sz m q) : Sz (n + m + 1) (p + q) := by
  have e : p + q = ((p.num * (q.den : Nat) + q.num * (p.den : Nat) : Int) : Rat) / ((((p.den : Nat) : Int) * (q.den : Nat) : Int) : Rat) := by
    have h1 := den_ne p
    have h2 := den_ne q
    conv => lhs; rw [rat_eq p, rat_eq q]
    push_cast
    grind
  rw [e]
  have a1 := mul_lt hp.1 hq.d'
  have a2 := mul_lt hq.1 hp.d'
  have a3 := mul_lt hp.d' hq.d'
  rw [Nat.add_comm m n] at a2
  exact sz_div (Int.mul_pos (den_pos p) (den_pos q)) (add_lt a1 a2) (upto a3 (Nat.le_succ _))
theorem sz_sub {n m : Nat} {p q : Rat} (hp : Sz n p) (hq : Sz m q) : Sz (n + m + 1) (p - q) := by
  have e : p - q = ((p.num * (q.den : Nat) - q.num * (p.den : Nat) : Int) : Rat) / ((((p.den : Nat) : Int) * (q.den : Nat) : Int) : Rat) := by
    have h1 := den_ne p
    have h2 := den_ne q
    conv => lhs; rw [rat_eq p, rat_eq q]
    push_cast
    grind
  rw [e]
  have a1 := mul_lt hp.1 hq.d'
  have a2 := mul_lt hq.1 hp.d'
  have a3 := mul_lt hp.d' hq.d'
  rw [Nat.add_comm m n] at a2
  exact sz_div (Int.mul_pos (den_pos p) (den_pos q)) (sub_lt a1 a2) (upto a3 (Nat.le_succ _))
theorem sz_int {a : Int} {n : Nat} (h : a.natAbs < 2 ^ n) (h0 : 0 < n) : Sz n (a : Rat) := by
  refine ⟨h, ?_⟩
  show 1 < 2 ^ n
  exact Nat.one_lt_two_pow (by omega)
theorem sz_zero {n : Nat} (h0 : 0 < n) : Sz n 0 := ⟨by show 0 < 2 ^ n; exact Nat.two_pow_pos n, by show 1 < 2 ^ n; exact Nat.one_lt_two_pow (by omega)⟩
theorem fr_int (a : Int) : fr (a : Rat) = .tuple [.int a, .int 1] := rfl
/-- the two candidates -/
def rA (x y : Bowl) : Rat := ((x.h * (y.b - x.b) : Int) : Rat) / ((x.t - x.b : Int) : Rat)
def rB1 (x y : Bowl) : Rat := ((x.h * (y.t - x.b) : Int) : Rat) / ((x.t - x.b : Int) : Rat)
def rB2 (x y : Bowl) : Rat := ((y.h * (x.t - y.b) : Int) : Rat) / ((y.t - y.b : Int) : Rat)
theorem rst_eq (x y : Bowl) : rst x y = if y.b ≥ x.t then (x.h : Rat) else gst 0 [rA x y, if y.t ≤ x.t then rB1 x y - (y.h : Rat) else (x.h : Rat) - rB2 x y] := rfl
/-- a whole number below so many -/
theorem int_small {i : Int} {n : Nat} (m : Nat) (h1 : -m ≤ i) (h2 : i ≤ m) (h3 : m < 2 ^ n := by decide) : i.natAbs < 2 ^ n := by omega
theorem mul_small {i j : Int} (h1 : 0 ≤ i) (h2 : i ≤ 100) (h3 : -100 ≤ j) (h4 : j ≤ 100) : (i * j).natAbs < 2 ^ 14 := mul_lt (n := 7) (m := 7) (by omega) (by omega)
section
variable {x y : Bowl} (hx : x.Ok) (hy : y.Ok)
include hx hy
theorem sz_rA : Sz 14 (rA x y) := by
  have h1 := hx.b1; have h2 := hx.bt; have h3 := hx.t1; have h4 := hx.h1; have h5 := hx.h2
  have g1 := hy.b1; have g2 := hy.bt; have g3 := hy.t1; have g4 := hy.h1; have g5 := hy.h2
  exact sz_div (by omega) (mul_small (by omega) (by omega) (by omega) (by omega)) (int_small 100 (by omega) (by omega))
theorem sz_rB1 : Sz 14 (rB1 x y) := by
  have h1 := hx.b1; have h2 := hx.bt; have h3 := hx.t1; have h4 := hx.h1; have h5 := hx.h2
  have g1 := hy.b1; have g2 := hy.bt; have g3 := hy.t1; have g4 := hy.h1; have g5 := hy.h2
  exact sz_div (by omega) (mul_small (by omega) (by omega) (by omega) (by omega)) (int_small 100 (by omega) (by omega))
theorem sz_rB2 : Sz 14 (rB2 x y) := by
  have h1 := hx.b1; have h2 := hx.bt; have h3 := hx.t1; have h4 := hx.h1; have h5 := hx.h2
  have g1 := hy.b1; have g2 := hy.bt; have g3 := hy.t1; have g4 := hy.h1; have g5 := hy.h2
  exact sz_div (by omega) (mul_small (by omega) (by omega) (by omega) (by omega)) (int_small 100 (by omega) (by omega))
theorem sz_h : Sz 14 (x.h : Rat) := by
  have h4 := hx.h1; have h5 := hx.h2
  exact sz_int (int_small 100 (by omega) (by omega)) (by decide)
theorem sz_rst : Sz 30 (rst x y) := by
  rw [rst_eq]
  by_cases h : y.b ≥ x.t
  · rw [if_pos h]; exact (sz_h hx hy).mono (by decide)
  · rw [if_neg h]
    refine gst_sz _ _ fun z hz => ?_
    rcases List.mem_cons.mp hz with e | hz
    · rw [e]; exact sz_zero (by decide)
    rcases List.mem_cons.mp hz with e | hz
    · rw [e]; exact (sz_rA hx hy).mono (by decide)
    rcases List.mem_cons.mp hz with e | hz
    · rw [e]
      by_cases h2 : y.t ≤ x.t
      · rw [if_pos h2]; exact (sz_sub (sz_rB1 hx hy) (sz_h hy hx)).mono (by decide)
      · rw [if_neg h2]; exact (sz_sub (sz_h hx hy) (sz_rB2 hx hy)).mono (by decide)
    · cases hz
end
theorem rd_rest_of {ds M Q E'} (h : sp_rest_of ds M Q E') : t_rest_of (fnEnds Q) (startD n_rest_of ds) M := by
  obtain ⟨x, y, rfl, hx, hy, k⟩ := h
  have h1 := hx.b1; have h2 := hx.bt; have h3 := hx.t1; have h4 := hx.h1; have h5 := hx.h2
  have g1 := hy.b1; have g2 := hy.bt; have g3 := hy.t1; have g4 := hy.h1; have g5 := hy.h2
  rw [rst_eq] at k
  refine ⟨rfl, rfl, fun h => ?_, fun h => ?_⟩
  · have h : y.b ≥ x.t := of_decide_eq_true h
    rw [if_pos h] at k
    exact sameQ k
  · have h : ¬ y.b ≥ x.t := of_decide_eq_false h
    rw [if_neg h] at k
    refine ⟨cmul (small9 (by omega)) (small9 (by omega)), _, _, rfl, by omega, upto (mul_small (by omega) (by omega) (by omega) (by omega)), upto (int_small (n := 14) 100 (by omega) (by omega)), fun p hp => ?_⟩
    refine ⟨fun h => ?_, fun h => ?_⟩
    · have h : y.t ≤ x.t := of_decide_eq_true h
      rw [if_pos h] at k
      refine ⟨⟨_, put_same⟩, cmul (small9 (by omega)) (small9 (by omega)), _, _, rfl, by omega, upto (mul_small (by omega) (by omega) (by omega) (by omega)), upto (int_small (n := 14) 100 (by omega) (by omega)), rB1 x y, (y.h : Rat), rfl, (sz_rB1 hx hy).mono (by decide), (sz_h hy hx).mono (by decide), ?_⟩
      refine ⟨_, put_same, by show 2 < 1000; decide, _, M, put_same, ?_, hp, 0, [rA x y, rB1 x y - (y.h : Rat)], rfl, ?_, sameQ k⟩
      · rw [put_put]; exact Sub.rfl'.put hp
      · intro z hz
        rcases List.mem_cons.mp hz with e | hz
        · rw [e]; exact sz_zero (by decide)
        rcases List.mem_cons.mp hz with e | hz
        · rw [e]; exact (sz_rA hx hy).mono (by decide)
        rw [List.mem_singleton.mp hz]
        exact (sz_sub (sz_rB1 hx hy) (sz_h hy hx)).mono (by decide)
    · have h : ¬ y.t ≤ x.t := of_decide_eq_false h
      rw [if_neg h] at k
      refine ⟨⟨_, put_same⟩, cmul (small9 (by omega)) (small9 (by omega)), _, _, rfl, by omega, upto (mul_small (by omega) (by omega) (by omega) (by omega)), upto (int_small (n := 14) 100 (by omega) (by omega)), (x.h : Rat), rB2 x y, rfl, (sz_h hx hy).mono (by decide), (sz_rB2 hx hy).mono (by decide), ?_⟩
      refine ⟨_, put_same, by show 2 < 1000; decide, _, M, put_same, ?_, hp, 0, [rA x y, (x.h : Rat) - rB2 x y], rfl, ?_, sameQ k⟩
      · rw [put_put]; exact Sub.rfl'.put hp
      · intro z hz
        rcases List.mem_cons.mp hz with e | hz
        · rw [e]; exact sz_zero (by decide)
        rcases List.mem_cons.mp hz with e | hz
        · rw [e]; exact (sz_rA hx hy).mono (by decide)
        rw [List.mem_singleton.mp hz]
        exact (sz_sub (sz_h hx hy) (sz_rB2 hx hy)).mono (by decide)
theorem rd_rest {c ds M Q E'} (h : sp_rest c ds M Q E') : t_rest c E' (fnEnds Q) (startD n_rest ds) M := by
  obtain ⟨x, y, rfl, fx, fy, k1, k2⟩ := h
  refine ⟨x, rfl, fx, fun hx => ⟨y, rfl, fy, fun hy => ?_, fun hy => k2 (.inr hy)⟩, fun hx => k2 (.inl hx)⟩
  obtain ⟨a, ha, rfl⟩ := isBw_ok hx
  obtain ⟨b, hb, rfl⟩ := isBw_ok hy
  exact ⟨a, b, rfl, ha, hb, sameQ (k1 a b ha hb rfl rfl)⟩
end BN

namespace BN
open PySem PySem.Spec PyProof.Rows L2
/-- how wide a bowl is at a height -/
def wAt (x : Bowl) (q : Rat) : Rat := (x.b : Rat) + ((x.t - x.b : Int) : Rat) * q / (x.h : Rat)
def widthP (x : Bowl) (q : Rat) : PyData := if q < 0 ∨ (x.h : Rat) < q then .none else fr (wAt x q)
def sp_width_at : DSp := fun ds M Q _ => ∃ (x : Bowl) (q : Rat), ds = [.d x.p, .d (fr q)] ∧ x.Ok ∧ Sz 1000 q ∧ Q (.d (widthP x q)) M
theorem len_width_at {ds M Q E} (h : sp_width_at ds M Q E) : ds.length = 2 := by obtain ⟨x, q, rfl, _⟩ := h; rfl
def wEq (x : Bowl) (q : Rat) (c : Int) : Bool := decide (0 ≤ q ∧ q ≤ (x.h : Rat) ∧ wAt x q = (c : Rat))
theorem num_neg_iff (q : Rat) : q.num < 0 ↔ q < 0 := by
  rw [← Int.not_le, Rat.num_nonneg, Rat.not_le]
theorem widthP_eqv (x : Bowl) (q : Rat) (c : Int) : PyData.eqv (widthP x q) (fr (c : Rat)) = wEq x q c := by
  unfold widthP wEq
  by_cases h : q < 0 ∨ (x.h : Rat) < q
  · rw [if_pos h, decide_eq_false]
    · rfl
    · rintro ⟨h1, h2, _⟩
      rcases h with h | h
      · exact Rat.not_lt.mpr h1 h
      · exact Rat.not_lt.mpr h2 h
  · rw [if_neg h, fr_eqv, decide_eq_decide]
    have h1 : 0 ≤ q := Rat.not_lt.mp fun z => h (.inl z)
    have h2 : q ≤ (x.h : Rat) := Rat.not_lt.mp fun z => h (.inr z)
    exact ⟨fun e => ⟨h1, h2, e⟩, fun e => e.2.2⟩
theorem widthP_shaped (x : Bowl) (q : Rat) : SeqAt.shaped (widthP x q) = true := by
  unfold widthP
  split <;> rfl
theorem frac_mul {a c d : Int} {q : Rat} (hc : c ≠ 0) : (((a * q.num : Int) : Rat) / ((c * (q.den : Nat) : Int) : Rat)) = (a : Rat) * q / (c : Rat) := by
  have h1 := den_ne q
  have h2 : (c : Rat) ≠ 0 := by exact_mod_cast hc
  conv => rhs; rw [rat_eq q]
  push_cast
  grind
/-- where two bowls touch -/
def tchL (x y : Bowl) : List PyData :=
  ((((if wEq x (rst x y) y.b = true then [PyData.str "bottom"] else []) ++ (if decide (rst x y = 0) = true then [PyData.str "floor"] else [])) ++ (if decide (x.t < y.b) = true then [PyData.str "mouth"] else [])) ++
    (if wEq y ((x.h : Rat) - rst x y) x.t = true then [PyData.str "rim"] else [])) ++ (if wEq x (rst x y + (y.h : Rat)) y.t = true then [PyData.str "top"] else [])
def sp_touches (c_NoBowl : Addr) : DSp := fun ds M Q E => ∃ x y : PyData, ds = [.d x, .d y] ∧ Fit x ∧ Fit y ∧ (∀ a b : Bowl, a.Ok → b.Ok → x = a.p → y = b.p → Q (.d (.list (tchL a b))) M) ∧ (isBw x = false ∨ isBw y = false → E c_NoBowl M)
theorem len_touches {c ds M Q E} (h : sp_touches c ds M Q E) : ds.length = 2 := by obtain ⟨x, q, rfl, _⟩ := h; rfl
abbrev n_width_at : List Str := ["bowl", "height", "bottom", "top", "high"]
def t_width_at : DTS :=
  (dSeq (dAsg (tVarD 0) (gTp [2, 3, 4]))
    (dSeq (dIfS (dOr (dTst (dLt (dIx (tVarD 1) (tCD (.d (.int 0)))) (tCD (.d (.int 0))))) (dTst (dCall sp_is_less X0 [(dTup [(tVarD 4), (tCD (.d (.int 1)))]), (tVarD 1)]))) (dRet (tCD (.d .none))) dNext)
    (dRet (dCall sp_plus X0 [(dTup [(tVarD 2), (tCD (.d (.int 1)))]), (dCall sp_fraction X0 [(dMul (dSub (tVarD 3) (tVarD 2)) (dIx (tVarD 1) (tCD (.d (.int 0))))), (dMul (tVarD 4) (dIx (tVarD 1) (tCD (.d (.int 1)))))])]))))
abbrev n_touches : List Str := ["one", "other", "far", "found"]
def t_touches (c_NoBowl : Addr) (E' : DX) : DTS :=
  (dSeq (dPar 2 3 (dCall (sp_rest c_NoBowl) E' [(tVarD 0), (tVarD 1)]) (dLstM []))
    (dSeq (dIfS (dTst (dEq (dCall sp_width_at X0 [(tVarD 0), (tVarD 2)]) (dTup [(dIx (tVarD 1) (tCD (.d (.int 0)))), (tCD (.d (.int 1)))]))) (dDrop (dApp (tVarD 3) (tCD (.d (.str "bottom"))))) dNext)
    (dSeq (dIfS (dTst (dEq (tVarD 2) (tCD c_NOUGHT))) (dDrop (dApp (tVarD 3) (tCD (.d (.str "floor"))))) dNext)
    (dSeq (dIfS (dTst (dGt (dIx (tVarD 1) (tCD (.d (.int 0)))) (dIx (tVarD 0) (tCD (.d (.int 1)))))) (dDrop (dApp (tVarD 3) (tCD (.d (.str "mouth"))))) dNext)
    (dSeq (dIfS (dTst (dEq (dCall sp_width_at X0 [(tVarD 1), (dCall sp_minus X0 [(dTup [(dIx (tVarD 0) (tCD (.d (.int 2)))), (tCD (.d (.int 1)))]), (tVarD 2)])]) (dTup [(dIx (tVarD 0) (tCD (.d (.int 1)))), (tCD (.d (.int 1)))]))) (dDrop (dApp (tVarD 3) (tCD (.d (.str "rim"))))) dNext)
    (dSeq (dIfS (dTst (dEq (dCall sp_width_at X0 [(tVarD 0), (dCall sp_plus X0 [(tVarD 2), (dTup [(dIx (tVarD 1) (tCD (.d (.int 2)))), (tCD (.d (.int 1)))])])]) (dTup [(dIx (tVarD 1) (tCD (.d (.int 1)))), (tCD (.d (.int 1)))]))) (dDrop (dApp (tVarD 3) (tCD (.d (.str "top"))))) dNext)
    (dRet (tVarD 3))))))))
theorem rd_width_at {ds M Q E'} (h : sp_width_at ds M Q E') : t_width_at (fnEnds Q) (startD n_width_at ds) M := by
  obtain ⟨x, q, rfl, hx, hq, k⟩ := h
  have h1 := hx.b1; have h2 := hx.bt; have h3 := hx.t1; have h4 := hx.h1; have h5 := hx.h2
  have hq4 : Sz 4000 q := hq.mono (by decide)
  have a1 : ((x.t - x.b) * q.num).natAbs < 2 ^ (7 + 1000) := mul_lt (by omega) hq.1
  have a2 : (x.h * (q.den : Nat)).natAbs < 2 ^ (7 + 1000) := mul_lt (by omega) hq.d'
  have a3 : 0 < x.h * ((q.den : Nat) : Int) := Int.mul_pos (by omega) (den_pos q)
  refine ⟨rfl, _, rfl, _, rfl, fun h => ⟨fun _ => ?_, fun h => (nomatch h)⟩, fun h => ⟨(x.h : Rat), q, rfl, sz_int (int_small 100 (by omega) (by omega) (Nat.lt_of_lt_of_le (by decide : 100 < 2 ^ 7) (Nat.pow_le_pow_right (by decide) (by decide)))) (by decide), hq4, fun h2 => ?_, fun h2 => ?_⟩⟩
  · have h : q.num < 0 := of_decide_eq_true h
    unfold widthP at k
    rw [if_pos (.inl ((num_neg_iff q).mp h))] at k
    exact sameQ k
  · unfold widthP at k
    rw [if_pos (.inr (of_decide_eq_true h2))] at k
    exact sameQ k
  · have h : ¬ q.num < 0 := of_decide_eq_false h
    unfold widthP at k
    rw [if_neg (by
      rintro (z | z)
      · exact h ((num_neg_iff q).mpr z)
      · exact of_decide_eq_false h2 z)] at k
    refine ⟨_, rfl, _, rfl, cmul (small9 (by omega)) hq4.n9, _, rfl, _, rfl, cmul (small9 (by omega)) hq4.d9, _, _, rfl, a3, upto a1, upto a2, (x.b : Rat), ((x.t - x.b : Int) : Rat) * q / (x.h : Rat), ?_, ?_, ?_, sameQ k⟩
    · rw [← frac_mul (d := 0) (show x.h ≠ 0 by omega)]
      rfl
    · exact (sz_int (n := 7) (int_small 100 (by omega) (by omega)) (by decide)).mono (by decide)
    · rw [← frac_mul (d := 0) (show x.h ≠ 0 by omega)]
      exact (sz_div a3 a1 a2).mono (by decide)
/-- an append under a test -/
theorem if_app {D : DEnds} {ρ : DSt} {M0 M : DM} {l : Addr} {acc : List PyData} {b : Bool} {i : Nat} {z : PyData} (hM : M = put M0 l (.lst acc)) (hs : slot ρ i = some (.ref l)) (hl : acc.length < 1000)
    (k : D.nx ρ (put M0 l (.lst (acc ++ if b = true then [z] else [])))) : (b = true → dDrop (dApp (tVarD i) (tCD (.d z))) D ρ M) ∧ (b = false → dNext D ρ M) := by
  subst hM
  refine ⟨fun h => ?_, fun h => ?_⟩
  · show match slot ρ i with | some x => _ | none => False
    rw [hs]
    refine ⟨⟨_, put_same⟩, acc, put_same, hl, ?_⟩
    rw [put_put]
    rw [if_pos h] at k
    exact k
  · rw [if_neg (by rw [h]; exact Bool.false_ne_true), List.append_nil] at k
    exact k
theorem ite_len {c : Prop} [Decidable c] {z : PyData} : (if c then [z] else []).length ≤ 1 := by split <;> simp
theorem rd_touches {c ds M Q E'} (h : sp_touches c ds M Q E') : t_touches c E' (fnEnds Q) (startD n_touches ds) M := by
  obtain ⟨x, y, rfl, fx, fy, k1, k2⟩ := h
  refine ⟨x, y, rfl, fx, fy, fun a b ha hb ea eb => ?_, k2⟩
  subst ea
  subst eb
  have k := k1 a b ha hb rfl rfl
  have h4 := ha.h1; have h5 := ha.h2
  have g1 := hb.b1; have g2 := hb.bt; have g3 := hb.t1; have g4 := hb.h1; have g5 := hb.h2
  have sr := sz_rst ha hb
  have sh := sz_h ha hb
  have sg := sz_h hb ha
  refine fun p hp => ⟨a, rst a b, rfl, ha, sr.mono (by decide), _, rfl, _, rfl, _, _, rfl, rfl, ⟨widthP_shaped _ _, rfl⟩, ?_⟩
  refine if_app (M0 := M) (l := p) (acc := []) rfl rfl (by decide) ?_
  have l1 := @ite_len (wEq a (rst a b) b.b = true) _ (.str "bottom")
  have l2 := @ite_len (decide (rst a b = 0) = true) _ (.str "floor")
  have l3 := @ite_len (decide (a.t < b.b) = true) _ (.str "mouth")
  have l4 := @ite_len (wEq b ((a.h : Rat) - rst a b) a.t = true) _ (.str "rim")
  rw [show (PyData.tuple [PyData.int b.b, PyData.int 1]) = fr (b.b : Rat) from rfl, widthP_eqv]
  refine ⟨_, _, rfl, rfl, ⟨rfl, rfl⟩, ?_⟩
  refine if_app (M0 := M) (l := p) rfl rfl (by simp only [List.nil_append]; omega) ?_
  rw [fr_eqv]
  refine ⟨_, rfl, _, rfl, _, rfl, _, rfl, ?_⟩
  refine if_app (M0 := M) (l := p) rfl rfl (by simp only [List.length_append, List.nil_append]; omega) ?_
  refine ⟨_, rfl, _, rfl, (a.h : Rat), rst a b, rfl, sh.mono (by decide), sr.mono (by decide), b, _, rfl, hb, (sz_sub sh sr).mono (by decide), _, rfl, _, rfl, _, _, rfl, rfl, ⟨widthP_shaped _ _, rfl⟩, ?_⟩
  refine if_app (M0 := M) (l := p) rfl rfl (by simp only [List.length_append, List.nil_append]; omega) ?_
  rw [show (PyData.tuple [PyData.int a.t, PyData.int 1]) = fr (a.t : Rat) from rfl, widthP_eqv]
  refine ⟨_, rfl, _, rfl, rst a b, (b.h : Rat), rfl, sr.mono (by decide), sg.mono (by decide), a, _, rfl, ha, (sz_add sr sg).mono (by decide), _, rfl, _, rfl, _, _, rfl, rfl, ⟨widthP_shaped _ _, rfl⟩, ?_⟩
  refine if_app (M0 := M) (l := p) rfl rfl (by simp only [List.length_append, List.nil_append]; omega) ?_
  rw [show (PyData.tuple [PyData.int b.t, PyData.int 1]) = fr (b.t : Rat) from rfl, widthP_eqv]
  exact ⟨M, _, .lst p _ M put_same (Sub.rfl'.put hp) hp, k⟩
end BN

namespace BN
open PySem PySem.Spec PyProof.Rows L2
/-- what the draws keep -/
structure WellOk (w : List PyData) : Prop where
  ex : ∃ c s p : Int, w = [.int c, .int s, .int p] ∧ 0 ≤ c ∧ 0 ≤ s ∧ s < 2 ^ 32 ∧ 0 < p ∧ p < 2 ^ 31
def sp__law_well : DSp := fun ds M Q _ => ∃ (ns : List Int) (k : Int), ds = [.scr ns, .d (.int k)] ∧ 0 ≤ k ∧ k < 100 ∧ ∀ p w, WellOk w → M p = none → Q (.ref p) (put M p (.lst w))
theorem len__law_well {ds M Q E} (h : sp__law_well ds M Q E) : ds.length = 2 := by obtain ⟨x, q, rfl, _⟩ := h; rfl
def sp__law_take : DSp := fun ds M Q _ => ∃ (p : Addr) (w : List PyData) (many : Int), ds = [.ref p, .d (.int many)] ∧ M p = some (.lst w) ∧ WellOk w ∧ 0 < many ∧ many ≤ 1000000 ∧
  ∀ w' r, WellOk w' → 0 ≤ r → r < many → Q (.d (.int r)) (put M p (.lst w'))
theorem len__law_take {ds M Q E} (h : sp__law_take ds M Q E) : ds.length = 2 := by obtain ⟨x, q, _, rfl, _⟩ := h; rfl
def sp__law_bowl : DSp := fun ds M Q _ => ∃ (p : Addr) (w : List PyData), ds = [.ref p] ∧ M p = some (.lst w) ∧ WellOk w ∧ ∀ w' (b : Bowl), WellOk w' → b.Ok → Q (.d b.p) (put M p (.lst w'))
theorem len__law_bowl {ds M Q E} (h : sp__law_bowl ds M Q E) : ds.length = 1 := by obtain ⟨x, q, rfl, _⟩ := h; rfl
def sp__law_stack : DSp := fun ds M Q _ => ∃ (p : Addr) (w : List PyData) (most : Int), ds = [.ref p, .d (.int most)] ∧ M p = some (.lst w) ∧ WellOk w ∧ 0 < most ∧ most ≤ 100 ∧
  ∀ w' (bs : List Bowl), WellOk w' → bs ≠ [] → (bs.length : Int) ≤ most → (∀ b ∈ bs, b.Ok) → Q (.d (.tuple (bs.map Bowl.p))) (put M p (.lst w'))
theorem len__law_stack {ds M Q E} (h : sp__law_stack ds M Q E) : ds.length = 2 := by obtain ⟨x, q, _, rfl, _⟩ := h; rfl
abbrev n__law_well : List Str := ["script", "k", "cell", "primes", "seed"]
def t__law_well : DTS :=
  (dSeq (dAsg (tCD (.d (.int 0))) (gNm 2))
    (dCut (dIfS (dTst (dLt (tVarD 1) (dCB rdLen [(tVarD 0)]))) (dAsg (dIx (tVarD 0) (tVarD 1)) (gNm 2)) dNext)
    (dSeq (dAsg (dLst [(tCD (.d (.int 2147483647))), (tCD (.d (.int 2147483629))), (tCD (.d (.int 2147483587))), (tCD (.d (.int 2147483579))), (tCD (.d (.int 2147483563))), (tCD (.d (.int 2147483549))), (tCD (.d (.int 2147483543))), (tCD (.d (.int 2147483497)))]) (gNm 3))
    (dSeq (dAsg (dMod (dMul (dAdd (dMod (tVarD 2) (tCD (.d (.int 2147483489)))) (tCD (.d (.int 1)))) (dAdd (tCD (.d (.int 48271))) (dMul (tCD (.d (.int 2))) (tVarD 1)))) (tCD (.d (.int 2147483489)))) (gNm 4))
    (dSeq (dAsg (dAdd (dAdd (dMod (dMul (tVarD 4) (tVarD 4)) (tCD (.d (.int 2147483477)))) (tVarD 1)) (tCD (.d (.int 1)))) (gNm 4))
    (dSeq (dIfS (dTst (dGe (tVarD 2) (dPow (tCD (.d (.int 10))) (tCD (.d (.int 18)))))) (dRet (dLstM [(tVarD 2), (tVarD 4), (dIx (tVarD 3) (dMod (tVarD 1) (tCD (.d (.int 8)))))])) dNext)
    (dRet (dLstM [(tCD (.d (.int 0))), (tVarD 4), (dIx (tVarD 3) (dMod (tVarD 1) (tCD (.d (.int 8)))))]))))))))
abbrev n__law_take : List Str := ["well", "many", "drew"]
def t__law_take : DTS :=
  (dSeq (dIfS (dTst (dGt (dIx (tVarD 0) (tCD (.d (.int 0)))) (tCD (.d (.int 0))))) (dSeq (dAsg (dMod (dIx (tVarD 0) (tCD (.d (.int 0)))) (tVarD 1)) (gNm 2))
    (dSeq (dAsg (dFdiv (dIx (tVarD 0) (tCD (.d (.int 0)))) (tVarD 1)) (gSb (tVarD 0) (tCD (.d (.int 0)))))
    (dRet (tVarD 2)))) dNext)
    (dSeq (dAsg (dAdd (dMod (dMul (dIx (tVarD 0) (tCD (.d (.int 1)))) (tCD (.d (.int 48271)))) (dIx (tVarD 0) (tCD (.d (.int 2))))) (tCD (.d (.int 1)))) (gSb (tVarD 0) (tCD (.d (.int 1)))))
    (dRet (dMod (dFdiv (dMod (dMul (dIx (tVarD 0) (tCD (.d (.int 1)))) (dIx (tVarD 0) (tCD (.d (.int 1))))) (tCD (.d (.int 2147483423)))) (tCD (.d (.int 7)))) (tVarD 1)))))
abbrev n__law_bowl : List Str := ["well", "wide", "bottom", "top"]
def t__law_bowl : DTS :=
  (dSeq (dAsg (dIx (dLst [(tCD (.d (.int 4))), (tCD (.d (.int 12))), (tCD (.d (.int 99)))]) (dCall sp__law_take X0 [(tVarD 0), (tCD (.d (.int 3)))])) (gNm 1))
    (dSeq (dAsg (dAdd (tCD (.d (.int 1))) (dCall sp__law_take X0 [(tVarD 0), (tVarD 1)])) (gNm 2))
    (dSeq (dAsg (dCB rdMin [(tCD (.d (.int 100))), (dAdd (dAdd (tVarD 2) (tCD (.d (.int 1)))) (dCall sp__law_take X0 [(tVarD 0), (dIx (dLst [(tCD (.d (.int 2))), (tCD (.d (.int 9))), (tCD (.d (.int 99)))]) (dCall sp__law_take X0 [(tVarD 0), (tCD (.d (.int 3)))]))]))]) (gNm 3))
    (dRet (dTup [(dCB rdMin [(tVarD 2), (tCD (.d (.int 99)))]), (dCB rdMax [(tVarD 3), (dAdd (dCB rdMin [(tVarD 2), (tCD (.d (.int 99)))]) (tCD (.d (.int 1))))]), (dAdd (tCD (.d (.int 1))) (dCall sp__law_take X0 [(tVarD 0), (dIx (dLst [(tCD (.d (.int 4))), (tCD (.d (.int 12))), (tCD (.d (.int 100)))]) (dCall sp__law_take X0 [(tVarD 0), (tCD (.d (.int 3)))]))]))])))))
theorem ixD_mem {α : Type} {xs : List α} {i : Int} (h0 : 0 ≤ i) (h1 : i < (xs.length : Nat)) : ∃ z, ixD xs i = some z ∧ z ∈ xs := by
  obtain ⟨n, rfl⟩ := Int.eq_ofNat_of_zero_le h0
  have hn : n < xs.length := by omega
  exact ⟨xs[n], by rw [ixD_nat]; exact List.getElem?_eq_getElem hn, List.getElem_mem hn⟩
/-- an item of a written list of whole numbers -/
theorem menu (xs : List Int) {i : Int} (h0 : 0 ≤ i) (h1 : i < (xs.length : Nat)) : ∃ z, ixD (xs.map PyData.int) i = some (.int z) ∧ z ∈ xs := by
  obtain ⟨z, e, hz⟩ := ixD_mem (xs := xs.map PyData.int) h0 (by simpa using h1)
  obtain ⟨n, hn, rfl⟩ := List.mem_map.mp hz
  exact ⟨n, e, hn⟩
theorem cmul2 {i j : Int} {a b : Nat} (hi : i.natAbs < 2 ^ a) (hj : j.natAbs < 2 ^ b) (ha : a ≤ 9000 := by decide) (hb : b ≤ 9000 := by decide) : CMulW i j := cmul (up hi ha) (up hj hb)
theorem posI {j : Int} (h : 0 < j) : 0 < j := h
theorem emod_b (a : Int) {b : Int} (h : 0 < b) : 0 ≤ a % b ∧ a % b < b := ⟨Int.emod_nonneg _ (by omega), Int.emod_lt_of_pos _ h⟩
theorem rd__law_well {ds M Q E'} (h : sp__law_well ds M Q E') : t__law_well (fnEnds Q) (startD n__law_well ds) M := by
  obtain ⟨ns, k, rfl, hk0, hk, kk⟩ := h
  refine ⟨fun ρ M' => ∃ c : Int, ρ = [some (.scr ns), some (.d (.int k)), some (.d (.int c)), none, none] ∧ M' = M, ⟨_, rfl, fun h => ?_, fun h => ?_⟩, ?_⟩
  · have h : k < ((ns.map PyData.int).length : Nat) := of_decide_eq_true h
    obtain ⟨z, e, _⟩ := menu ns hk0 (by simpa using h)
    exact ⟨_, rfl, _, e, z, rfl, rfl⟩
  · exact ⟨0, rfl, rfl⟩
  · rintro ρ M' ⟨c, rfl, rfl⟩
    obtain ⟨a1, a2⟩ := emod_b c (b := 2147483489) (by decide)
    have b1 : (c % 2147483489 + 1).natAbs < 2 ^ 32 := by omega
    have b2 : (48271 + 2 * k).natAbs < 2 ^ 32 := by omega
    obtain ⟨c1, c2⟩ := emod_b ((c % 2147483489 + 1) * (48271 + 2 * k)) (b := 2147483489) (by decide)
    have d1 : ((c % 2147483489 + 1) * (48271 + 2 * k) % 2147483489).natAbs < 2 ^ 32 := by omega
    obtain ⟨e1, e2⟩ := emod_b ((c % 2147483489 + 1) * (48271 + 2 * k) % 2147483489 * ((c % 2147483489 + 1) * (48271 + 2 * k) % 2147483489)) (b := 2147483477) (by decide)
    obtain ⟨f1, f2⟩ := emod_b k (b := 8) (by decide)
    obtain ⟨z, ez, hz⟩ := menu [2147483647, 2147483629, 2147483587, 2147483579, 2147483563, 2147483549, 2147483543, 2147483497] f1 f2
    have hz2 : 0 < z ∧ z < 2 ^ 31 := by
      simp at hz
      omega
    refine ⟨posI (by decide), cmul2 (a := 40) (b := 40) (by omega) (by omega), cmul2 b1 b2, posI (by decide), cmul2 d1 d1, posI (by decide), ⟨by decide, by decide, by decide⟩, fun h => ?_, fun h => ?_⟩
    · have h : (10 : Int) ^ (18 : Int).toNat ≤ c := of_decide_eq_true h
      have h0 : 0 ≤ c := Int.le_trans (by decide) h
      exact ⟨posI (by decide), _, rfl, _, ez, fun p hp => sameQ (kk p _ ⟨_, _, _, rfl, h0, by omega, by omega, hz2.1, hz2.2⟩ hp)⟩
    · exact ⟨posI (by decide), _, rfl, _, ez, fun p hp => sameQ (kk p _ ⟨_, _, _, rfl, by decide, by omega, by omega, hz2.1, hz2.2⟩ hp)⟩
theorem rd__law_take {ds M Q E'} (h : sp__law_take ds M Q E') : t__law_take (fnEnds Q) (startD n__law_take ds) M := by
  obtain ⟨p, w, many, rfl, hM, ⟨c, s, q, rfl, hc, hs, hs2, hq, hq2⟩, hm, hm2, k⟩ := h
  refine ⟨_, ⟨_, hM, rfl⟩, _, rfl, fun h => ?_, fun h => ?_⟩
  · have h : 0 < c := of_decide_eq_true h
    obtain ⟨a1, a2⟩ := emod_b c hm
    have hw : CDivW c many := wide_div (b := 40) hm (by omega) (by decide) (by decide)
    refine ⟨_, ⟨_, hM, rfl⟩, _, rfl, hm, _, ⟨_, hM, rfl⟩, _, rfl, hw, _, 0, hM, rfl, sameQ (k _ _ ⟨_, _, _, rfl, Int.ediv_nonneg hc (by omega), hs, hs2, hq, hq2⟩ a1 a2)⟩
  · obtain ⟨a1, a2⟩ := emod_b (s * 48271) hq
    refine ⟨_, ⟨_, hM, rfl⟩, _, rfl, cmul2 (a := 40) (b := 40) (by omega) (by omega), _, ⟨_, hM, rfl⟩, _, rfl, hq, _, 1, hM, rfl, ?_⟩
    have b1 : (s * 48271 % q + 1).natAbs < 2 ^ 32 := by omega
    obtain ⟨c1, c2⟩ := emod_b ((s * 48271 % q + 1) * (s * 48271 % q + 1)) (b := 2147483423) (by decide)
    obtain ⟨d1, d2⟩ := emod_b ((s * 48271 % q + 1) * (s * 48271 % q + 1) % 2147483423 / 7) hm
    exact ⟨_, ⟨_, put_same, rfl⟩, _, rfl, _, ⟨_, put_same, rfl⟩, _, rfl, cmul2 b1 b1, posI (by decide), ⟨by decide, by decide +kernel⟩, hm, sameQ (k _ _ ⟨_, _, _, rfl, hc, by omega, by omega, hq, hq2⟩ d1 d2)⟩
theorem rd__law_bowl {ds M Q E'} (h : sp__law_bowl ds M Q E') : t__law_bowl (fnEnds Q) (startD n__law_bowl ds) M := by
  obtain ⟨p, w, rfl, hM, hw, k⟩ := h
  refine ⟨p, w, 3, rfl, hM, hw, by decide, by decide, fun w1 r1 hw1 a1 b1 => ?_⟩
  obtain ⟨z1, e1, m1⟩ := menu [4, 12, 99] a1 b1
  have m1' : 4 ≤ z1 ∧ z1 ≤ 99 := by simp at m1; omega
  refine ⟨_, rfl, _, e1, p, w1, z1, rfl, put_same, hw1, by omega, by omega, fun w2 r2 hw2 a2 b2 => ?_⟩
  refine ⟨p, w2, 3, rfl, put_same, hw2, by decide, by decide, fun w3 r3 hw3 a3 b3 => ?_⟩
  obtain ⟨z3, e3, m3⟩ := menu [2, 9, 99] a3 b3
  have m3' : 2 ≤ z3 ∧ z3 ≤ 99 := by simp at m3; omega
  refine ⟨_, rfl, _, e3, p, w3, z3, rfl, put_same, hw3, by omega, by omega, fun w4 r4 hw4 a4 b4 => ?_⟩
  refine ⟨p, w4, 3, rfl, put_same, hw4, by decide, by decide, fun w5 r5 hw5 a5 b5 => ?_⟩
  obtain ⟨z5, e5, m5⟩ := menu [4, 12, 100] a5 b5
  have m5' : 4 ≤ z5 ∧ z5 ≤ 100 := by simp at m5; omega
  refine ⟨_, rfl, _, e5, p, w5, z5, rfl, put_same, hw5, by omega, by omega, fun w6 r6 hw6 a6 b6 => sameQ ?_⟩
  have kk := k w6 ⟨min (1 + r2) 99, max (min 100 (1 + r2 + 1 + r4)) (min (1 + r2) 99 + 1), 1 + r6⟩ hw6 ⟨by show 1 ≤ min (1 + r2) 99; omega, by show min (1 + r2) 99 < max _ _; omega, by show max _ _ ≤ 100; omega, by show 1 ≤ 1 + r6; omega, by show 1 + r6 ≤ 100; omega⟩
  simp only [put_put]
  exact kk
end BN

namespace BN
open PySem PySem.Spec PyProof.Rows L2
abbrev n__law_stack : List Str := ["well", "most", "found", "turn"]
def t__law_stack : DTS :=
  (dSeq (dAsg (dLcM (.one 3) [3] (iRg1 (dAdd (tCD (.d (.int 1))) (dCall sp__law_take X0 [(tVarD 0), (tVarD 1)]))) dYes (dCall sp__law_bowl X0 [(tVarD 0)])) (gNm 2))
    (dCut (dIfS (dAnd (dTst (dGt (dCB rdLen [(tVarD 2)]) (tCD (.d (.int 1))))) (dTst (dEq (dCall sp__law_take X0 [(tVarD 0), (tCD (.d (.int 3)))]) (tCD (.d (.int 0)))))) (dAsg (dIx (tVarD 2) (tCD (.d (.int 0)))) (gSb (tVarD 2) (dUn rdNeg (tCD (.d (.int 1)))))) dNext)
    (dRet (dCB rdTuple [(tVarD 2)]))))
theorem put_comm {M : DM} {p q : Addr} {a b : MO} (h : p ≠ q) : put (put M p a) q b = put (put M q b) p a := by
  funext x
  unfold put
  by_cases h1 : x = p <;> by_cases h2 : x = q <;> simp_all
theorem ixN_last {n : Nat} (h : 0 < n) : ixN n (-1) = some (n - 1) := by
  unfold ixN
  rw [if_neg (by decide), if_pos (by omega)]
  congr 1
  omega
theorem ixN_nat {n k : Nat} (h : k < n) : ixN n (k : Int) = some k := by
  unfold ixN
  rw [if_pos (by omega), if_pos (by omega)]
  rfl
theorem put_free {M : DM} {p q : Addr} {a : MO} (h : put M p a q = none) : q ≠ p ∧ M q = none := by
  by_cases e : q = p
  · subst e
    rw [put_same] at h; cases h
  · rw [put_ne e] at h
    exact ⟨e, h⟩
theorem rd__law_stack {ds M Q E'} (h : sp__law_stack ds M Q E') : t__law_stack (fnEnds Q) (startD n__law_stack ds) M := by
  obtain ⟨p, w, most, rfl, hM, hw, h0, h1, k⟩ := h
  refine ⟨p, w, most, rfl, hM, hw, h0, by omega, fun w1 r hw1 a1 b1 => ⟨⟨by omega, by omega⟩, ?_⟩⟩
  refine ⟨fun i acc M' => ∃ w' bs, M' = put M p (.lst w') ∧ WellOk w' ∧ acc = (bs : List Bowl).map Bowl.p ∧ bs.length = i ∧ ∀ b ∈ bs, b.Ok, ⟨w1, [], rfl, hw1, rfl, rfl, by simp⟩, ?_, ?_⟩
  · rintro i x acc M' hx ⟨w', bs, rfl, hw', rfl, hl, hb⟩
    obtain ⟨hi, rfl⟩ := rgL_get hx
    refine ⟨fun _ => ⟨p, w', rfl, put_same, hw', fun w2 b hw2 hb2 => ⟨by rw [List.length_map]; omega, w2, bs ++ [b], put_put, hw2, by rw [List.map_append]; rfl, by simp [hl], fun z hz => ?_⟩⟩, fun h => (nomatch h)⟩
    rcases List.mem_append.mp hz with hz | hz
    · exact hb z hz
    · rw [List.mem_singleton.mp hz]; exact hb2
  · rintro acc M' ⟨w2, bs, rfl, hw2, rfl, hl, hb⟩ q hq
    rw [rgL_length] at hl
    obtain ⟨hqp, hq0⟩ := put_free hq
    have hne : bs ≠ [] := fun e => by rw [e] at hl; simp at hl; omega
    refine ⟨fun ρ M' => ∃ w' bs' o, ρ = [some (.ref p), some (.d (.int most)), some (.ref q), o] ∧ M' = put (put M p (.lst w')) q (.lst ((bs' : List Bowl).map Bowl.p)) ∧ WellOk w' ∧ bs'.length = bs.length ∧ ∀ b ∈ bs', b.Ok, ?_, ?_⟩
    · refine ⟨_, ⟨_, put_same, rfl⟩, fun h => ⟨p, w2, 3, rfl, by rw [put_ne (Ne.symm hqp)]; exact put_same, hw2, by decide, by decide, fun w3 r3 hw3 a3 b3 => ⟨_, _, rfl, rfl, ⟨rfl, rfl⟩, fun h3 => ?_, fun h3 => ?_⟩⟩, fun h => ⟨fun h => (nomatch h), fun _ => ⟨w2, bs, _, rfl, rfl, hw2, rfl, hb⟩⟩⟩
      · obtain ⟨b0, br, rfl⟩ : ∃ b0 br, bs = b0 :: br := by
          cases bs with
          | nil => exact absurd rfl hne
          | cons a r => exact ⟨a, r, rfl⟩
        have e1 : put (put (put M p (.lst w2)) q (.lst ((b0 :: br).map Bowl.p))) p (.lst w3) = put (put M p (.lst w3)) q (.lst ((b0 :: br).map Bowl.p)) := by
          rw [put_comm hqp, put_put]
        rw [e1]
        refine ⟨_, ⟨_, put_same, rfl⟩, b0.p, rfl, _, _, put_same, ixN_last (by simp), w3, (b0 :: br).set (((b0 :: br).map Bowl.p).length - 1) b0, _, rfl, ?_, hw3, by simp, fun z hz => ?_⟩
        · rw [put_put, List.map_set]
        · rcases List.mem_or_eq_of_mem_set hz with hz | hz
          · exact hb z hz
          · rw [hz]; exact hb b0 List.mem_cons_self
      · refine ⟨w3, bs, _, rfl, ?_, hw3, rfl, hb⟩
        rw [put_comm hqp, put_put]
    · rintro ρ M' ⟨w', bs', o, rfl, rfl, hw', hl', hb'⟩
      refine ⟨_, ⟨_, put_same, rfl⟩, put M p (.lst w'), _, .same _ _ (Sub.rfl'.put (by rw [put_ne hqp]; exact hq0)), ?_⟩
      exact k w' bs' hw' (fun e => by rw [e] at hl'; simp at hl'; exact hne (List.length_eq_zero_iff.mp hl'.symm)) (by omega) hb'
end BN

namespace BN
open PySem PySem.Spec PyProof.Rows L2
theorem ixD_lt {α : Type} {xs : List α} {n : Nat} {z : α} (h : xs[n]? = some z) : ixD xs (n : Int) = some z := by rw [ixD_nat]; exact h
/-- what a bowl at place n wants of those beneath -/
def wnt (bs : List Bowl) (fs : List Rat) (y : Bowl) : List Rat := List.zipWith (fun b f => f + rst b y) bs fs
def dB : Bowl := ⟨1, 2, 1⟩
/-- the heights of the first n -/
def hN (bs : List Bowl) : Nat → List Rat
  | 0 => []
  | n + 1 => hN bs n ++ [gst 0 (wnt bs (hN bs n) (bs.getD n dB))]
def hts (bs : List Bowl) : List Rat := hN bs bs.length
theorem hN_length (bs : List Bowl) : ∀ n, (hN bs n).length = n
  | 0 => rfl
  | n + 1 => by rw [hN, List.length_append, hN_length bs n]; rfl
theorem hts_length (bs : List Bowl) : (hts bs).length = bs.length := hN_length bs _
theorem wnt_length (bs : List Bowl) (fs : List Rat) (y : Bowl) : (wnt bs fs y).length = min bs.length fs.length := by simp [wnt]
def OkL (bs : List Bowl) : Prop := ∀ b ∈ bs, b.Ok
theorem OkL.get {bs : List Bowl} (h : OkL bs) {n : Nat} (hn : n < bs.length) : (bs.getD n dB).Ok ∧ bs[n]? = some (bs.getD n dB) := by
  rw [List.getD_eq_getElem?_getD, List.getElem?_eq_getElem hn]
  exact ⟨h _ (List.getElem_mem hn), rfl⟩
theorem wnt_sz {bs : List Bowl} {fs : List Rat} {y : Bowl} {n : Nat} (h : OkL bs) (hy : y.Ok) (hf : ∀ f ∈ fs, Sz n f) : ∀ z ∈ wnt bs fs y, Sz (n + 31) z := by
  intro z hz
  obtain ⟨i, hi⟩ := List.mem_iff_getElem?.mp hz
  unfold wnt at hi
  rw [List.getElem?_zipWith] at hi
  cases hb : bs[i]? with
  | none => rw [hb] at hi; cases hi
  | some b =>
    cases hf' : fs[i]? with
    | none => rw [hb, hf'] at hi; cases hi
    | some f =>
      rw [hb, hf'] at hi
      have hi : some (f + rst b y) = some z := hi
      cases hi
      exact sz_add (hf f (List.mem_of_getElem? hf')) (sz_rst (h b (List.mem_of_getElem? hb)) hy)
theorem hN_sz {bs : List Bowl} (h : OkL bs) : ∀ n, n ≤ bs.length → ∀ z ∈ hN bs n, Sz (n * 31 + 1) z
  | 0, _, z, hz => nomatch hz
  | n + 1, hn, z, hz => by
    have ih := hN_sz h n (by omega)
    rcases List.mem_append.mp hz with hz | hz
    · exact (ih z hz).mono (by omega)
    · rw [List.mem_singleton.mp hz]
      refine gst_sz _ _ fun u hu => ?_
      rcases List.mem_cons.mp hu with e | hu
      · rw [e]; exact sz_zero (by omega)
      · exact (wnt_sz h (h.get (show n < bs.length by omega)).1 ih u hu).mono (by omega)
theorem hts_sz {bs : List Bowl} (h : OkL bs) (hl : bs.length ≤ 20) : ∀ z ∈ hts bs, Sz 700 z := fun z hz => (hN_sz h _ (Nat.le_refl _) z hz).mono (by omega)
def sp_wants : DSp := fun ds M Q _ => ∃ (bs : List Bowl) (x : D) (fs : List Rat) (n : Nat), ds = [.d (.tuple (bs.map Bowl.p)), x, .d (.int (n : Nat))] ∧ Vw M x (.list (fs.map fr)) ∧ OkL bs ∧ (∀ f ∈ fs, Sz 3000 f) ∧ n < bs.length ∧ n ≤ fs.length ∧ bs.length ≤ 100 ∧
  Q (.d (.list ((wnt bs (fs.take n) (bs.getD n dB)).map fr))) M
theorem len_wants {ds M Q E} (h : sp_wants ds M Q E) : ds.length = 3 := by obtain ⟨bs, x, fs, n, rfl, _⟩ := h; rfl
def sp_heights_of : DSp := fun ds M Q _ => ∃ (bs : List Bowl), ds = [.d (.tuple (bs.map Bowl.p))] ∧ OkL bs ∧ bs.length ≤ 20 ∧ ∀ p, M p = none → Q (.ref p) (put M p (.lst ((hts bs).map fr)))
theorem len_heights_of {ds M Q E} (h : sp_heights_of ds M Q E) : ds.length = 1 := by obtain ⟨bs, rfl, _⟩ := h; rfl
abbrev n_wants : List Str := ["stack", "found", "at", "to"]
def t_wants : DTS :=
  (dRet (dLc (.one 3) [3] (iRg1 (tVarD 2)) dYes (dCall sp_plus X0 [(dIx (tVarD 1) (tVarD 3)), (dCall sp_rest_of X0 [(dIx (tVarD 0) (tVarD 3)), (dIx (tVarD 0) (tVarD 2))])])))
abbrev n_heights_of : List Str := ["stack", "found", "at"]
def t_heights_of : DTS :=
  (dSeq (dAsg (dLstM []) (gNm 1))
    (dSeq (dFor (iRg1 (dCB rdLen [(tVarD 0)])) (gNm 2)
    (dDrop (dApp (tVarD 1) (dCall sp_greatest X0 [(dAdd (dLst [(tCD c_NOUGHT)]) (dCall sp_wants X0 [(tVarD 0), (tVarD 1), (tVarD 2)]))]))))
    (dRet (tVarD 1))))
theorem wnt_succ {bs : List Bowl} {fs : List Rat} {y b : Bowl} {f : Rat} {i : Nat} (hb : bs[i]? = some b) (hf : fs[i]? = some f) : wnt bs (fs.take (i + 1)) y = wnt bs (fs.take i) y ++ [f + rst b y] := by
  refine List.ext_getElem? fun j => ?_
  unfold wnt
  have hbi := (List.getElem?_eq_some_iff.mp hb).1
  have hfi := (List.getElem?_eq_some_iff.mp hf).1
  rw [List.getElem?_zipWith]
  rcases Nat.lt_trichotomy j i with h | h | h
  · rw [List.getElem?_append_left (by simp; omega), List.getElem?_zipWith, List.getElem?_take_of_lt (by omega), List.getElem?_take_of_lt h]
  · subst h
    rw [List.getElem?_append_right (by rw [List.length_zipWith, List.length_take]; omega), List.getElem?_take_of_lt (by omega), hb, hf]
    have e : j - (List.zipWith (fun b f => f + rst b y) bs (fs.take j)).length = 0 := by
      rw [List.length_zipWith, List.length_take]
      omega
    rw [e]
    rfl
  · rw [List.getElem?_append_right (by simp; omega), List.getElem?_take, if_neg (by omega)]
    have e : [f + rst b y][j - (List.zipWith (fun b f => f + rst b y) bs (fs.take i)).length]? = none := by
      refine List.getElem?_eq_none ?_
      simp
      omega
    rw [e]
    cases bs[j]? <;> rfl
theorem rd_wants {ds M Q E'} (h : sp_wants ds M Q E') : t_wants (fnEnds Q) (startD n_wants ds) M := by
  obtain ⟨bs, x, fs, n, rfl, hv, ho, hs, hn, hf, hl, k⟩ := h
  have hy := ho.get hn
  refine ⟨⟨by omega, by omega⟩, fun i acc M' => M' = M ∧ acc = (wnt bs (fs.take i) (bs.getD n dB)).map fr, ⟨rfl, by simp [wnt]⟩, ?_, ?_⟩
  · rintro i z acc M' hz ⟨rfl, rfl⟩
    obtain ⟨hi, rfl⟩ := rgL_get hz
    have hi : i < n := by simpa using hi
    have hb := ho.get (show i < bs.length by omega)
    have hfi : fs[i]? = some fs[i] := List.getElem?_eq_getElem (by omega)
    refine ⟨fun _ => ?_, fun h => (nomatch h)⟩
    refine ⟨_, hv, fr fs[i], by
      show ixD _ ((0 : Int) + (i : Nat)) = _
      rw [Int.zero_add, ixD_lt]
      rw [List.getElem?_map, hfi]; rfl, _, rfl, _, by
      show ixD _ ((0 : Int) + (i : Nat)) = some (bs.getD i dB).p
      rw [Int.zero_add, ixD_lt]
      rw [List.getElem?_map, hb.2]; rfl, _, rfl, (bs.getD n dB).p, ixD_lt (by rw [List.getElem?_map, hy.2]; rfl), _, _, rfl, hb.1, hy.1, fs[i], _, rfl, (hs _ (List.getElem_mem _)).mono (by decide), (sz_rst hb.1 hy.1).mono (by decide), ?_⟩
    refine ⟨?_, rfl, ?_⟩
    · rw [List.length_map, wnt_length, List.length_take]; omega
    · rw [wnt_succ hb.2 hfi, List.map_append]
      rfl
  · rintro acc M' ⟨rfl, rfl⟩
    refine sameQ ?_
    simp only [rgL_length, Int.toNat_natCast]
    exact k
theorem rd_heights_of {ds M Q E'} (h : sp_heights_of ds M Q E') : t_heights_of (fnEnds Q) (startD n_heights_of ds) M := by
  obtain ⟨bs, rfl, ho, hl, k⟩ := h
  refine fun p hp => ?_
  have e : ((bs.map Bowl.p).length : Nat) = bs.length := List.length_map _
  refine ⟨_, rfl, ⟨by show -(2 ^ 62) ≤ (((bs.map Bowl.p).length : Nat) : Int); omega, by show (((bs.map Bowl.p).length : Nat) : Int) < 2 ^ 62; omega⟩, ?_⟩
  refine ⟨fun i ρ M' => ∃ o, ρ = [some (.d (.tuple (bs.map Bowl.p))), some (.ref p), o] ∧ M' = put M p (.lst ((hN bs i).map fr)), ⟨_, rfl, rfl⟩, ?_, ?_⟩
  · rintro i x ρ M' hx ⟨o, rfl, rfl⟩
    obtain ⟨hi, rfl⟩ := rgL_get hx
    have hi : i < bs.length := by simpa using hi
    have hb := ho.get hi
    have hlN := hN_length bs i
    have hsz : ∀ z ∈ hN bs i, Sz 3000 z := fun z hz => (hN_sz ho i (by omega) z hz).mono (by omega)
    have hlw : ((wnt bs ((hN bs i).take i) (bs.getD i dB)).map fr).length ≤ 900 := by rw [List.length_map, wnt_length]; omega
    refine ⟨⟨_, put_same⟩, bs, .ref p, hN bs i, i, by
      show [D.d _, D.ref p, D.d (.int ((0 : Int) + (i : Nat)))] = _
      rw [Int.zero_add], ⟨_, put_same, rfl⟩, ho, hsz, hi, by omega, by omega, by
      show 1 + _ ≤ 1000
      omega, 0, wnt bs (hN bs i) (bs.getD i dB), ?_, ?_, ?_⟩
    · rw [List.take_of_length_le (by omega)]
      rfl
    · intro z hz
      rcases List.mem_cons.mp hz with e | hz
      · rw [e]; exact sz_zero (by decide)
      · exact (wnt_sz ho hb.1 hsz z hz).mono (by decide)
    · refine ⟨_, put_same, by rw [List.length_map]; omega, ?_⟩
      refine ⟨_, rfl, ?_⟩
      rw [put_put, hN, List.map_append]
      rfl
  · rintro ρ M' ⟨o, rfl, rfl⟩
    refine sameQ ?_
    simp only [rgL_length, Int.toNat_natCast, List.length_map]
    exact k p hp
end BN

namespace BN
open PySem PySem.Spec PyProof.Rows L2
theorem cutD_map {α β : Type} (f : α → β) (xs : List α) (lo hi : Option Int) : cutD (xs.map f) lo hi = (cutD xs lo hi).map f := by
  unfold cutD
  rw [List.length_map, List.map_take, List.map_drop]
theorem cutD_take {α : Type} (xs : List α) {k : Nat} (h : k ≤ xs.length) : cutD xs none (some (k : Int)) = xs.take k := by
  unfold cutD
  rw [HT.sIx_nat, Nat.min_eq_left h]
  simp [HT.sIx]
theorem cutD_drop {α : Type} (xs : List α) {k : Nat} (h : k ≤ xs.length) : cutD xs (some (k : Int)) none = xs.drop k := by
  unfold cutD
  rw [HT.sIx_nat, Nat.min_eq_left h]
  simp [HT.sIx, List.take_of_length_le]
/-- a stack as data -/
abbrev stP (bs : List Bowl) : PyData := .tuple (bs.map Bowl.p)
def isSt (x : PyData) (most : Int) : Bool := match x with
  | .tuple xs => (decide (1 ≤ ((xs.length : Nat) : Int)) && decide (((xs.length : Nat) : Int) ≤ most)) && xs.all isBw
  | _ => false
def FitS (x : PyData) : Prop := ∀ xs, x = .tuple xs → ∀ y ∈ xs, Fit y
theorem fit_st (bs : List Bowl) : FitS (stP bs) := fun xs e y hy => by
  cases e
  obtain ⟨b, _, rfl⟩ := List.mem_map.mp hy
  exact b.fit
theorem allBw {xs : List PyData} (h : xs.all isBw = true) : ∃ bs : List Bowl, OkL bs ∧ xs = bs.map Bowl.p := by
  induction xs with
  | nil => exact ⟨[], fun _ h => absurd h (by simp), rfl⟩
  | cons x r ih =>
    rw [List.all_cons, Bool.and_eq_true] at h
    obtain ⟨b, hb, rfl⟩ := isBw_ok h.1
    obtain ⟨bs, hbs, rfl⟩ := ih h.2
    refine ⟨b :: bs, fun z hz => ?_, rfl⟩
    rcases List.mem_cons.mp hz with e | hz
    · rw [e]; exact hb
    · exact hbs z hz
theorem isSt_ok {x : PyData} {m : Int} (h : isSt x m = true) : ∃ bs : List Bowl, OkL bs ∧ 1 ≤ bs.length ∧ ((bs.length : Nat) : Int) ≤ m ∧ x = stP bs := by
  unfold isSt at h
  split at h
  · rename_i xs
    simp only [Bool.and_eq_true, decide_eq_true_eq] at h
    obtain ⟨bs, ho, rfl⟩ := allBw h.2
    rw [List.length_map] at h
    exact ⟨bs, ho, by omega, h.1.2, rfl⟩
  · cases h
theorem isSt_p {bs : List Bowl} {m : Int} (ho : OkL bs) (h1 : 1 ≤ bs.length) (h2 : ((bs.length : Nat) : Int) ≤ m) : isSt (stP bs) m = true := by
  simp only [isSt, stP, List.length_map, Bool.and_eq_true, decide_eq_true_eq]
  refine ⟨⟨by omega, h2⟩, List.all_eq_true.mpr fun x hx => ?_⟩
  obtain ⟨b, hb, rfl⟩ := List.mem_map.mp hx
  exact isBw_p (ho b hb)
theorem stP_inj {a b : List Bowl} (h : stP a = stP b) : a = b := by
  have h : PyData.tuple (a.map Bowl.p) = PyData.tuple (b.map Bowl.p) := h
  injection h with h
  refine List.map_inj_right (fun x y e => ?_) |>.mp h
  obtain ⟨_, _, _⟩ := x
  obtain ⟨_, _, _⟩ := y
  unfold Bowl.p at e
  simp at e
  simp [e]
def sp_is_stack : DSp := fun ds M Q _ => ∃ (x : PyData) (most : Int), ds = [.d x, .d (.int most)] ∧ FitS x ∧ most ≤ 900 ∧ Q (.d (.bool (isSt x most))) M
theorem len_is_stack {ds M Q E} (h : sp_is_stack ds M Q E) : ds.length = 2 := by obtain ⟨bs, _, rfl, _⟩ := h; rfl
def sp_need_stack (c_NoStack : Addr) : DSp := fun ds M Q E => ∃ (x : PyData), ds = [.d x] ∧ FitS x ∧ (isSt x 8 = true → Q (.d .none) M) ∧ (isSt x 8 = false → E c_NoStack M)
theorem len_need_stack {c ds M Q E} (h : sp_need_stack c ds M Q E) : ds.length = 1 := by obtain ⟨bs, rfl, _⟩ := h; rfl
/-- a stack of up to 8 -/
structure St8 (bs : List Bowl) : Prop where
  ok : OkL bs
  l1 : 1 ≤ bs.length
  l8 : bs.length ≤ 8
theorem isSt8 {x : PyData} (h : isSt x 8 = true) : ∃ bs, St8 bs ∧ x = stP bs := by
  obtain ⟨bs, h1, h2, h3, h4⟩ := isSt_ok h
  exact ⟨bs, ⟨h1, h2, by omega⟩, h4⟩
theorem St8.is {bs : List Bowl} (h : St8 bs) : isSt (stP bs) 8 = true := isSt_p h.ok h.l1 (by have := h.l8; omega)
def sp_heights (c_NoStack : Addr) : DSp := fun ds M Q E => ∃ (x : PyData), ds = [.d x] ∧ FitS x ∧ (∀ bs, St8 bs → x = stP bs → ∀ p, M p = none → Q (.ref p) (put M p (.lst ((hts bs).map fr)))) ∧ (isSt x 8 = false → E c_NoStack M)
theorem len_heights {c ds M Q E} (h : sp_heights c ds M Q E) : ds.length = 1 := by obtain ⟨bs, rfl, _⟩ := h; rfl
/-- how high a stack is -/
def hgh (bs : List Bowl) : Rat := gst 0 (List.zipWith (fun f b => f + (Bowl.h b : Rat)) (hts bs) bs)
theorem hgh_sz {bs : List Bowl} (ho : OkL bs) (hl : bs.length ≤ 20) : (∀ z ∈ List.zipWith (fun f b => f + (Bowl.h b : Rat)) (hts bs) bs, Sz 720 z) ∧ Sz 720 (hgh bs) := by
  have a : ∀ z ∈ List.zipWith (fun f b => f + (Bowl.h b : Rat)) (hts bs) bs, Sz 720 z := fun z hz => by
    obtain ⟨i, hi⟩ := List.mem_iff_getElem?.mp hz
    rw [List.getElem?_zipWith] at hi
    cases hf : (hts bs)[i]? with
    | none => rw [hf] at hi; cases hi
    | some f =>
      cases hb : bs[i]? with
      | none => rw [hf, hb] at hi; cases hi
      | some b =>
        rw [hf, hb] at hi
        have hi : some (f + (b.h : Rat)) = some z := hi
        cases hi
        have hb := ho b (List.mem_of_getElem? hb)
        exact (sz_add (hts_sz ho hl f (List.mem_of_getElem? hf)) (sz_h hb hb)).mono (by decide)
  refine ⟨a, gst_sz _ _ fun z hz => ?_⟩
  rcases List.mem_cons.mp hz with e | hz
  · rw [e]; exact sz_zero (by decide)
  · exact a z hz
def sp_high_of : DSp := fun ds M Q _ => ∃ (bs : List Bowl), ds = [.d (stP bs)] ∧ OkL bs ∧ bs.length ≤ 20 ∧ Q (.d (fr (hgh bs))) M
theorem len_high_of {ds M Q E} (h : sp_high_of ds M Q E) : ds.length = 1 := by obtain ⟨bs, rfl, _⟩ := h; rfl
def sp_high (c_NoStack : Addr) : DSp := fun ds M Q E => ∃ (x : PyData), ds = [.d x] ∧ FitS x ∧ (∀ bs, St8 bs → x = stP bs → Q (.d (fr (hgh bs))) M) ∧ (isSt x 8 = false → E c_NoStack M)
theorem len_high {c ds M Q E} (h : sp_high c ds M Q E) : ds.length = 1 := by obtain ⟨bs, rfl, _⟩ := h; rfl
/-- the places of those that want just f -/
def hldA (ws : List Rat) (f : Rat) : List PyData := (ws.zipIdx.filter fun z => decide (z.1 = f)).map fun z => .int (z.2 : Nat)
def hld (bs : List Bowl) : List PyData := (List.range bs.length).map fun n => .list (hldA (wnt bs ((hts bs).take n) (bs.getD n dB)) ((hts bs).getD n 0))
def sp_held_by (c_NoStack : Addr) : DSp := fun ds M Q E => ∃ (x : PyData), ds = [.d x] ∧ FitS x ∧ (∀ bs, St8 bs → x = stP bs → ∀ p, M p = none → Q (.ref p) (put M p (.lst (hld bs)))) ∧ (isSt x 8 = false → E c_NoStack M)
theorem len_held_by {c ds M Q E} (h : sp_held_by c ds M Q E) : ds.length = 1 := by obtain ⟨bs, rfl, _⟩ := h; rfl
def sp_need_place (c_NoPlace : Addr) : DSp := fun ds M Q E => ∃ (xs : List PyData) (y : PyData), ds = [.d (.tuple xs), .d y] ∧ (isWh y 0 ((xs.length : Nat) - 1) = true → Q (.d .none) M) ∧ (isWh y 0 ((xs.length : Nat) - 1) = false → E c_NoPlace M)
theorem len_need_place {c ds M Q E} (h : sp_need_place c ds M Q E) : ds.length = 2 := by obtain ⟨bs, _, rfl, _⟩ := h; rfl
theorem isWh_nat {y : PyData} {n : Nat} (h : isWh y 0 ((n : Int) - 1) = true) : ∃ k : Nat, y = .int (k : Nat) ∧ k < n := by
  unfold isWh at h
  split at h
  · rename_i i
    simp only [Bool.and_eq_true, decide_eq_true_eq] at h
    exact ⟨i.toNat, by congr 1; omega, by omega⟩
  · cases h
theorem isWh_lt {k n : Nat} (h : k < n) : isWh (.int (k : Nat)) 0 ((n : Int) - 1) = true := by
  simp only [isWh, Bool.and_eq_true, decide_eq_true_eq]
  omega
/-- the others when one is drawn out -/
def outOf {α : Type} (bs : List α) (k : Nat) : List α := bs.take k ++ bs.drop (k + 1)
theorem outOf_len {α : Type} (bs : List α) {k : Nat} (h : k < bs.length) : (outOf bs k).length = bs.length - 1 := by
  unfold outOf
  rw [List.length_append, List.length_take, List.length_drop]
  omega
theorem outOf_ok {bs : List Bowl} (h : OkL bs) (k : Nat) : OkL (outOf bs k) := fun b hb => by
  rcases List.mem_append.mp hb with hb | hb
  · exact h b (List.mem_of_mem_take hb)
  · exact h b (List.mem_of_mem_drop hb)
def snk (bs : List Bowl) (k : Nat) : List Rat := List.zipWith (· - ·) ((hts bs).drop (k + 1)) ((hts (outOf bs k)).drop k)
def sp_sunk (c_NoStack c_NoPlace : Addr) : DSp := fun ds M Q E => ∃ (x y : PyData), ds = [.d x, .d y] ∧ FitS x ∧ (∀ bs k, St8 bs → x = stP bs → y = .int (k : Nat) → k < bs.length → Q (.d (.list ((snk bs k).map fr))) M) ∧
  (isSt x 8 = false → E c_NoStack M) ∧ (∀ bs, St8 bs → x = stP bs → isWh y 0 ((bs.length : Nat) - 1) = false → E c_NoPlace M)
theorem len_sunk {c c' ds M Q E} (h : sp_sunk c c' ds M Q E) : ds.length = 2 := by obtain ⟨bs, _, rfl, _⟩ := h; rfl
abbrev n_is_stack : List Str := ["thing", "most", "one"]
def t_is_stack : DTS :=
  (dRet (dAndV (dCB (rdIsi .tuple) [(tVarD 0), tCD (.ty (KTy.s .tuple))]) (dAndV (dChn rdLe rdLe (tCD (.d (.int 1))) (dCB rdLen [(tVarD 0)]) (tVarD 1)) (dCB rdAll [(dLc (.one 2) [2] (iTp (tVarD 0)) dYes (dCall sp_is_bowl X0 [(tVarD 2)]))]))))
abbrev n_need_stack : List Str := ["stack"]
def t_need_stack (c_NoStack : Addr) (E' : DX) : DTS :=
  (dIfS (dNot (dTst (dCall sp_is_stack X0 [(tVarD 0), (tCD c_MOST_BOWLS)]))) (dRaise c_NoStack E') dNext)
abbrev n_heights : List Str := ["stack"]
def t_heights (c_NoStack : Addr) (E' : DX) : DTS :=
  (dSeq (dDrop (dCall (sp_need_stack c_NoStack) E' [(tVarD 0)]))
    (dRet (dCall sp_heights_of X0 [(tVarD 0)])))
abbrev n_high_of : List Str := ["stack", "height", "bowl"]
def t_high_of : DTS :=
  (dRet (dCall sp_greatest X0 [(dAdd (dLst [(tCD c_NOUGHT)]) (dLc (.tup [1, 2]) [1, 2] (iZpM (dFrz (dCall sp_heights_of X0 [(tVarD 0)])) (tVarD 0)) dYes (dCall sp_plus X0 [(tVarD 1), (dTup [(dIx (tVarD 2) (tCD (.d (.int 2)))), (tCD (.d (.int 1)))])])))]))
abbrev n_high : List Str := ["stack"]
def t_high (c_NoStack : Addr) (E' : DX) : DTS :=
  (dSeq (dDrop (dCall (sp_need_stack c_NoStack) E' [(tVarD 0)]))
    (dRet (dCall sp_high_of X0 [(tVarD 0)])))
abbrev n_held_by : List Str := ["stack", "found", "to", "want", "at"]
def t_held_by (c_NoStack : Addr) (E' : DX) : DTS :=
  (dSeq (dDrop (dCall (sp_need_stack c_NoStack) E' [(tVarD 0)]))
    (dSeq (dAsg (dFrz (dCall sp_heights_of X0 [(tVarD 0)])) (gNm 1))
    (dRet (dLcM (.one 4) [4] (iRg1 (dCB rdLen [(tVarD 0)])) dYes (dLc (.tup [2, 3]) [2, 3] (iEn (dCall sp_wants X0 [(tVarD 0), (tVarD 1), (tVarD 4)])) (dTst (dEq (tVarD 3) (dIx (tVarD 1) (tVarD 4)))) (tVarD 2))))))
abbrev n_need_place : List Str := ["stack", "place"]
def t_need_place (c_NoPlace : Addr) (E' : DX) : DTS :=
  (dIfS (dNot (dTst (dCall sp_is_whole X0 [(tVarD 1), (tCD (.d (.int 0))), (dSub (dCB rdLen [(tVarD 0)]) (tCD (.d (.int 1))))]))) (dRaise c_NoPlace E') dNext)
abbrev n_sunk : List Str := ["stack", "place", "before", "behind", "one", "other"]
def t_sunk (c_NoStack : Addr) (c_NoPlace : Addr) (E' : DX) : DTS :=
  (dSeq (dDrop (dCall (sp_need_stack c_NoStack) E' [(tVarD 0)]))
    (dSeq (dDrop (dCall (sp_need_place c_NoPlace) E' [(tVarD 0), (tVarD 1)]))
    (dSeq (dPar 2 3 (dSl (dFrz (dCall sp_heights_of X0 [(tVarD 0)])) (dPart (dAdd (tVarD 1) (tCD (.d (.int 1))))) dNoPart) (dSl (dFrz (dCall sp_heights_of X0 [(dAdd (dSl (tVarD 0) dNoPart (dPart (tVarD 1))) (dSl (tVarD 0) (dPart (dAdd (tVarD 1) (tCD (.d (.int 1))))) dNoPart))])) (dPart (tVarD 1)) dNoPart))
    (dRet (dLc (.tup [4, 5]) [4, 5] (iZp (tVarD 2) (tVarD 3)) dYes (dCall sp_minus X0 [(tVarD 4), (tVarD 5)]))))))
theorem rd_is_stack {ds M Q E'} (h : sp_is_stack ds M Q E') : t_is_stack (fnEnds Q) (startD n_is_stack ds) M := by
  obtain ⟨x, most, rfl, hf, hm, k⟩ := h
  cases x with
  | tuple xs =>
    refine ⟨rfl, fun _ => ⟨_, rfl, fun h1 => ⟨fun h2 => ?_, fun h2 => ?_⟩, fun h1 => ?_⟩, fun h => nomatch h⟩
    · have h1 : decide ((1 : Int) ≤ ((xs.length : Nat) : Int)) = true := h1
      have h2 : decide (((xs.length : Nat) : Int) ≤ most) = true := h2
      have hl : ((xs.length : Nat) : Int) ≤ most := of_decide_eq_true h2
      refine ⟨fun i acc M' => M' = M ∧ acc = (xs.take i).map fun z => .bool (isBw z), ⟨rfl, rfl⟩, ?_, ?_⟩
      · rintro i z acc M' hz ⟨rfl, rfl⟩
        refine ⟨fun _ => ⟨z, rfl, hf xs rfl z (List.mem_of_getElem? hz), ?_, rfl, ?_⟩, fun h => (nomatch h)⟩
        · rw [List.length_map, List.length_take]; omega
        · rw [List.take_add_one, hz, List.map_append]; rfl
      · rintro acc M' ⟨rfl, rfl⟩
        rw [List.take_length]
        refine ⟨xs.map isBw, by rw [List.map_map]; rfl, sameQ ?_⟩
        rw [List.all_map]
        simp only [isSt, h1, h2, Bool.true_and] at k
        exact k
    · have h1 : decide ((1 : Int) ≤ ((xs.length : Nat) : Int)) = true := h1
      have h2 : decide (((xs.length : Nat) : Int) ≤ most) = false := h2
      simp only [isSt, h1, h2, Bool.and_false, Bool.false_and] at k
      exact sameQ k
    · have h1 : decide ((1 : Int) ≤ ((xs.length : Nat) : Int)) = false := h1
      simp only [isSt, h1, Bool.false_and] at k
      exact ⟨fun h => (nomatch h), fun _ => sameQ k⟩
  | _ => exact ⟨rfl, fun h => (nomatch h), fun _ => sameQ k⟩
theorem rd_need_stack {c ds M Q E'} (h : sp_need_stack c ds M Q E') : t_need_stack c E' (fnEnds Q) (startD n_need_stack ds) M := by
  obtain ⟨x, rfl, fit, k1, k2⟩ := h
  refine ⟨x, 8, rfl, fit, by decide, fun h => ?_, fun h => ?_⟩
  · exact k2 (by simpa using h)
  · exact k1 (by simpa using h)
theorem rd_heights {c ds M Q E'} (h : sp_heights c ds M Q E') : t_heights c E' (fnEnds Q) (startD n_heights ds) M := by
  obtain ⟨x, rfl, fit, k1, k2⟩ := h
  refine ⟨x, rfl, fit, fun h => ?_, k2⟩
  obtain ⟨bs, h8, rfl⟩ := isSt8 h
  exact ⟨bs, rfl, h8.ok, by have := h8.l8; omega, fun p hp => sameQ (k1 bs h8 rfl p hp)⟩
theorem frzQ {M : DM} {p : Addr} {xs : List PyData} {Q : DQ} (hp : M p = none) (h : Q (.d (.list xs)) M) : ∃ ds M2, put M p (.lst xs) p = some (.lst ds) ∧ Sub M2 (put M p (.lst xs)) ∧ M2 p = none ∧ Q (.d (.list ds)) M2 :=
  ⟨xs, M, put_same, Sub.rfl'.put hp, hp, h⟩
theorem rd_high_of {ds M Q E'} (h : sp_high_of ds M Q E') : t_high_of (fnEnds Q) (startD n_high_of ds) M := by
  obtain ⟨bs, rfl, ho, hl, k⟩ := h
  refine ⟨bs, rfl, ho, hl, fun p hp => ⟨_, M, put_same, Sub.rfl'.put hp, hp, ?_⟩⟩
  have hlh := hts_length bs
  refine ⟨fun i acc M' => M' = M ∧ acc = ((List.zipWith (fun f b => f + (Bowl.h b : Rat)) (hts bs) bs).take i).map fr, ⟨rfl, rfl⟩, ?_, ?_⟩
  · rintro i z acc M' hz ⟨rfl, rfl⟩
    have hi : i < bs.length := by
      have := (List.getElem?_eq_some_iff.mp hz).1
      rw [zipL_length, List.length_map, List.length_map] at this
      omega
    have hb := ho.get hi
    have hf : (hts bs)[i]? = some (hts bs)[i] := List.getElem?_eq_getElem (by omega)
    rw [zipL_get (x := fr (hts bs)[i]) (y := (bs.getD i dB).p) (by rw [List.getElem?_map, hf]; rfl) (by rw [List.getElem?_map, hb.2]; rfl)] at hz
    cases hz
    refine ⟨rfl, fun _ => ⟨_, rfl, _, rfl, (hts bs)[i], ((bs.getD i dB).h : Rat), rfl, (hts_sz ho hl _ (List.getElem_mem _)).mono (by decide), (sz_h hb.1 hb.1).mono (by decide), ?_, rfl, ?_⟩, fun h => (nomatch h)⟩
    · rw [List.length_map, List.length_take, List.length_zipWith]; omega
    · rw [List.take_add_one, List.getElem?_zipWith, hf, hb.2, List.map_append]
      rfl
  · rintro acc M' ⟨rfl, rfl⟩
    have e : (zipL (List.map fr (hts bs)) (List.map Bowl.p bs)).length = bs.length := by rw [zipL_length, List.length_map, List.length_map]; omega
    rw [e, List.take_of_length_le (by rw [List.length_zipWith]; omega)]
    have hz := hgh_sz ho hl
    refine ⟨by rw [List.length_map, List.length_zipWith]; show 1 + _ ≤ 1000; omega, 0, _, rfl, fun z hz' => ?_, sameQ k⟩
    rcases List.mem_cons.mp hz' with e | hz'
    · rw [e]; exact sz_zero (by decide)
    · exact (hz.1 z hz').mono (by decide)
theorem rd_high {c ds M Q E'} (h : sp_high c ds M Q E') : t_high c E' (fnEnds Q) (startD n_high ds) M := by
  obtain ⟨x, rfl, fit, k1, k2⟩ := h
  refine ⟨x, rfl, fit, fun h => ?_, k2⟩
  obtain ⟨bs, h8, rfl⟩ := isSt8 h
  exact ⟨bs, rfl, h8.ok, by have := h8.l8; omega, sameQ (k1 bs h8 rfl)⟩
theorem rd_need_place {c ds M Q E'} (h : sp_need_place c ds M Q E') : t_need_place c E' (fnEnds Q) (startD n_need_place ds) M := by
  obtain ⟨xs, y, rfl, k1, k2⟩ := h
  refine ⟨_, rfl, y, 0, _, rfl, fun h => ?_, fun h => ?_⟩
  · exact k2 (by simpa using h)
  · exact k1 (by simpa using h)
theorem wnt_take {bs : List Bowl} {fs : List Rat} {y : Bowl} (j : Nat) : (wnt bs fs y).length ≤ bs.length := by rw [wnt_length]; omega
theorem hldA_succ {ws : List Rat} {f z : Rat} {i : Nat} (h : ws[i]? = some z) : hldA (ws.take (i + 1)) f = hldA (ws.take i) f ++ if z = f then [.int (i : Nat)] else [] := by
  have hi := (List.getElem?_eq_some_iff.mp h).1
  unfold hldA
  rw [List.take_add_one, h, Option.toList_some, List.zipIdx_append, List.filter_append, List.map_append]
  congr 1
  rw [List.length_take, Nat.min_eq_left (by omega)]
  by_cases e : z = f
  · simp [e]
  · simp [e]
theorem hldA_len (ws : List Rat) (f : Rat) : (hldA ws f).length ≤ ws.length := by
  unfold hldA
  rw [List.length_map]
  have := List.length_filter_le (fun z : Rat × Nat => decide (z.1 = f)) ws.zipIdx
  rw [List.length_zipIdx] at this
  exact this
theorem rd_held_by {c ds M Q E'} (h : sp_held_by c ds M Q E') : t_held_by c E' (fnEnds Q) (startD n_held_by ds) M := by
  obtain ⟨x, rfl, fit, k1, k2⟩ := h
  refine ⟨x, rfl, fit, fun h => ?_, k2⟩
  obtain ⟨bs, h8, rfl⟩ := isSt8 h
  have hl := h8.l8
  have k := k1 bs h8 rfl
  have hlh := hts_length bs
  have hs := hts_sz h8.ok (by omega)
  refine ⟨bs, rfl, h8.ok, by omega, fun p hp => ⟨_, M, put_same, Sub.rfl'.put hp, hp, ?_⟩⟩
  have e : ((bs.map Bowl.p).length : Nat) = bs.length := List.length_map _
  refine ⟨_, rfl, ⟨by show -(2 ^ 62) ≤ (((bs.map Bowl.p).length : Nat) : Int); omega, by show (((bs.map Bowl.p).length : Nat) : Int) < 2 ^ 62; omega⟩, ?_⟩
  refine ⟨fun i acc M' => M' = M ∧ acc = (hld bs).take i, ⟨rfl, rfl⟩, ?_, ?_⟩
  · rintro i z acc M' hz ⟨rfl, rfl⟩
    obtain ⟨hi, rfl⟩ := rgL_get hz
    have hi : i < bs.length := by simpa using hi
    have hb := h8.ok.get hi
    have hf : (hts bs)[i]? = some ((hts bs).getD i 0) := by
      rw [List.getD_eq_getElem?_getD, List.getElem?_eq_getElem (by omega)]; rfl
    have hlw : (wnt bs ((hts bs).take i) (bs.getD i dB)).length ≤ bs.length := by rw [wnt_length]; omega
    refine ⟨fun _ => ⟨bs, .d (.list ((hts bs).map fr)), hts bs, i, by
      show [D.d _, D.d _, D.d (.int ((0 : Int) + (i : Nat)))] = _
      rw [Int.zero_add], rfl, h8.ok, fun f hf' => (hs f hf').mono (by decide), hi, by omega, by omega, ?_⟩, fun h => (nomatch h)⟩
    refine ⟨fun j acc2 M2 => M2 = M' ∧ acc2 = hldA ((wnt bs ((hts bs).take i) (bs.getD i dB)).take j) ((hts bs).getD i 0), ⟨rfl, rfl⟩, ?_, ?_⟩
    · rintro j z2 acc2 M2 hz2 ⟨rfl, rfl⟩
      obtain ⟨x2, hx2, rfl⟩ := enL_inv hz2
      rw [List.getElem?_map] at hx2
      obtain ⟨q, hq, rfl⟩ := Option.map_eq_some_iff.mp hx2
      have hj := (List.getElem?_eq_some_iff.mp hq).1
      refine ⟨rfl, _, rfl, fr ((hts bs).getD i 0), by
        show ixD _ ((0 : Int) + (i : Nat)) = _
        rw [Int.zero_add, ixD_lt]
        rw [List.getElem?_map, hf]; rfl, _, _, rfl, rfl, ⟨rfl, rfl⟩, ?_⟩
      rw [fr_eqv]
      refine ⟨fun h => ⟨?_, rfl, ?_⟩, fun h => ⟨rfl, ?_⟩⟩
      · have := hldA_len ((wnt bs ((hts bs).take i) (bs.getD i dB)).take j) ((hts bs).getD i 0)
        rw [List.length_take] at this
        omega
      · rw [hldA_succ hq, if_pos (of_decide_eq_true h)]
      · rw [hldA_succ hq, if_neg (of_decide_eq_false h), List.append_nil]
    · rintro acc2 M2 ⟨rfl, rfl⟩
      refine ⟨by rw [List.length_take]; omega, rfl, ?_⟩
      rw [List.take_add_one]
      congr 1
      rw [enL_length, List.length_map, List.take_length]
      unfold hld
      rw [List.getElem?_map, List.getElem?_range hi]
      rfl
  · rintro acc M' ⟨rfl, rfl⟩ p hp
    refine sameQ ?_
    have e2 : (hld bs).take (rgL 0 (((bs.map Bowl.p).length : Nat) : Int).toNat).length = hld bs := by
      rw [rgL_length, List.length_map]
      exact List.take_of_length_le (by unfold hld; simp)
    have k := k p hp
    rw [← e2] at k
    exact k
theorem rd_sunk {c c' ds M Q E'} (h : sp_sunk c c' ds M Q E') : t_sunk c c' E' (fnEnds Q) (startD n_sunk ds) M := by
  obtain ⟨x, y, rfl, fit, k1, k2, k3⟩ := h
  refine ⟨x, rfl, fit, fun h => ?_, k2⟩
  obtain ⟨bs, h8, rfl⟩ := isSt8 h
  have hl := h8.l8
  refine ⟨_, y, rfl, fun hw => ?_, fun hw => k3 bs h8 rfl (by rw [List.length_map] at hw; exact hw)⟩
  rw [List.length_map] at hw
  obtain ⟨k, rfl, hk⟩ := isWh_nat hw
  have kq := k1 bs k h8 rfl rfl hk
  have hs := hts_sz h8.ok (by omega)
  have ho := outOf_ok h8.ok k
  have hol := outOf_len bs hk
  have hs2 := hts_sz ho (by omega)
  have l1 := hts_length bs
  have l2 := hts_length (outOf bs k)
  have f1 : ∀ i : Nat, ((i : Int) + 1) = ((i + 1 : Nat) : Int) := fun i => rfl
  refine ⟨bs, rfl, h8.ok, by omega, fun p hp => ⟨_, M, put_same, Sub.rfl'.put hp, hp, _, rfl, ?_⟩⟩
  have c1 : cutD (bs.map Bowl.p) none (some (k : Int)) ++ cutD (bs.map Bowl.p) (some ((k : Int) + 1)) none = (outOf bs k).map Bowl.p := by
    rw [f1, cutD_map, cutD_map, cutD_take _ (by omega), cutD_drop _ (by omega), ← List.map_append]
    rfl
  refine ⟨_, rfl, _, rfl, ?_, outOf bs k, ?_, ho, by omega, fun p2 hp2 => ⟨_, M, put_same, Sub.rfl'.put hp2, hp2, _, rfl, ?_⟩⟩
  · rw [← List.length_append, c1, List.length_map]; omega
  · rw [c1]
  have c2 : cutD ((hts bs).map fr) (some ((k : Int) + 1)) none = ((hts bs).drop (k + 1)).map fr := by
    rw [f1, cutD_map, cutD_drop _ (by omega)]
  have c3 : cutD ((hts (outOf bs k)).map fr) (some (k : Int)) none = ((hts (outOf bs k)).drop k).map fr := by
    rw [cutD_map, cutD_drop _ (by omega)]
  rw [c2]
  dsimp only
  rw [c3]
  refine ⟨fun i acc M' => M' = M ∧ acc = ((snk bs k).take i).map fr, ⟨rfl, rfl⟩, ?_, ?_⟩
  · rintro i z acc M' hz ⟨rfl, rfl⟩
    have hi := (List.getElem?_eq_some_iff.mp hz).1
    rw [zipL_length, List.length_map, List.length_map, List.length_drop, List.length_drop] at hi
    have e1 : ((hts bs).drop (k + 1))[i]? = some (((hts bs).drop (k + 1))[i]'(by rw [List.length_drop]; omega)) := List.getElem?_eq_getElem _
    have e2 : ((hts (outOf bs k)).drop k)[i]? = some (((hts (outOf bs k)).drop k)[i]'(by rw [List.length_drop]; omega)) := List.getElem?_eq_getElem _
    rw [zipL_get (x := fr _) (y := fr _) (by rw [List.getElem?_map, e1]; rfl) (by rw [List.getElem?_map, e2]; rfl)] at hz
    cases hz
    refine ⟨rfl, fun _ => ⟨_, _, rfl, (hs _ (List.mem_of_mem_drop (List.mem_of_getElem? e1))).mono (by decide), (hs2 _ (List.mem_of_mem_drop (List.mem_of_getElem? e2))).mono (by decide), ?_, rfl, ?_⟩, fun h => (nomatch h)⟩
    · rw [List.length_map, List.length_take]; omega
    · rw [List.take_add_one, List.map_append]
      congr 1
      unfold snk
      rw [List.getElem?_zipWith, e1, e2]
      rfl
  · rintro acc M' ⟨rfl, rfl⟩
    have e : (zipL (((hts bs).drop (k + 1)).map fr) (((hts (outOf bs k)).drop k).map fr)).length = (snk bs k).length := by
      unfold snk
      rw [zipL_length, List.length_map, List.length_map, List.length_zipWith]
    rw [e, List.take_length]
    exact sameQ kq
end BN

/-! data: comparing, depth -/
namespace BN
open PySem PySem.Spec PyProof.Rows L2
/-- data that can be compared, no deeper than n -/
structure Pl (n : Nat) (x : PyData) : Prop where
  c : x.canLay0 = true
  d : x.depth ≤ n
theorem Pl.sh {n : Nat} {x : PyData} (h : Pl n x) (l : n ≤ 64 := by decide) : SeqAt.shaped x = true := by
  unfold SeqAt.shaped
  rw [h.c, Bool.true_and]
  exact decide_eq_true (Nat.le_trans h.d l)
theorem plAll {n : Nat} : ∀ {xs : List PyData}, (∀ y ∈ xs, Pl n y) → PyData.canLayAll0 xs = true ∧ PyData.depthAll xs ≤ n
  | [], _ => by simp [PyData.canLayAll0, PyData.depthAll]
  | x :: xs, h => by
    obtain ⟨h1, h2⟩ := h x List.mem_cons_self
    obtain ⟨h3, h4⟩ := plAll fun y hy => h y (List.mem_cons_of_mem _ hy)
    simp only [PyData.canLayAll0, PyData.depthAll, h1, h3, Bool.and_self, true_and]
    omega
theorem Pl.lst {n : Nat} {xs : List PyData} (h : ∀ y ∈ xs, Pl n y) : Pl (n + 1) (.list xs) := by
  obtain ⟨h1, h2⟩ := plAll h
  refine ⟨by simpa [PyData.canLay0] using h1, ?_⟩
  simp only [PyData.depth]
  omega
theorem Pl.tup {n : Nat} {xs : List PyData} (h : ∀ y ∈ xs, Pl n y) : Pl (n + 1) (.tuple xs) := by
  obtain ⟨h1, h2⟩ := plAll h
  refine ⟨by simpa [PyData.canLay0] using h1, ?_⟩
  simp only [PyData.depth]
  omega
theorem Pl.mono {n m : Nat} {x : PyData} (h : Pl n x) (l : n ≤ m) : Pl m x := ⟨h.c, Nat.le_trans h.d l⟩
theorem pl_int (i : Int) : Pl 1 (.int i) := ⟨rfl, by simp [PyData.depth]⟩
theorem pl_fr (q : Rat) : Pl 3 (fr q) := (Pl.tup fun y hy => by
  rcases List.mem_cons.mp hy with e | hy
  · rw [e]; exact pl_int _
  rw [List.mem_singleton.mp hy]
  exact pl_int _).mono (by decide)
theorem pl_frs (qs : List Rat) : Pl 4 (.list (qs.map fr)) := Pl.lst fun y hy => by
  obtain ⟨q, _, rfl⟩ := List.mem_map.mp hy
  exact pl_fr q
theorem pl_p (b : Bowl) : Pl 3 b.p := (Pl.tup fun y hy => by
  rcases List.mem_cons.mp hy with e | hy
  · rw [e]; exact pl_int _
  rcases List.mem_cons.mp hy with e | hy
  · rw [e]; exact pl_int _
  rw [List.mem_singleton.mp hy]
  exact pl_int _).mono (by decide)
theorem pl_map {α : Type} {f : α → PyData} {n : Nat} (h : ∀ a, Pl n (f a)) (xs : List α) : ∀ y ∈ xs.map f, Pl n y := fun y hy => by
  obtain ⟨q, _, rfl⟩ := List.mem_map.mp hy
  exact h q
theorem pl_st (bs : List Bowl) : Pl 4 (stP bs) := Pl.tup (pl_map pl_p bs)
theorem eqv_self {n : Nat} {x : PyData} (h : Pl n x) : PyData.eqv x x = true := PySem.SeqAt.eqv_refl x h.c
/-- data of one kind, told apart just as the things are -/
def Eqd {α : Type} [DecidableEq α] (f : α → PyData) : Prop := ∀ a b, PyData.eqv (f a) (f b) = decide (a = b)
theorem Eqd.all {α : Type} [DecidableEq α] {f : α → PyData} (h : Eqd f) : ∀ as bs : List α, PyData.eqvAll (as.map f) (bs.map f) = decide (as = bs)
  | [], [] => by simp [PyData.eqvAll]
  | [], b :: bs => by simp [PyData.eqvAll]
  | a :: as, [] => by simp [PyData.eqvAll]
  | a :: as, b :: bs => by
    rw [List.map_cons, List.map_cons, PyData.eqvAll, h a b, h.all as bs]
    rw [Bool.eq_iff_iff]
    simp
theorem Eqd.lst {α : Type} [DecidableEq α] {f : α → PyData} (h : Eqd f) : Eqd fun as : List α => PyData.list (as.map f) := fun as bs => by
  show PyData.eqv (.list _) (.list _) = _
  simp only [PyData.eqv]
  exact h.all as bs
theorem Eqd.tup {α : Type} [DecidableEq α] {f : α → PyData} (h : Eqd f) : Eqd fun as : List α => PyData.tuple (as.map f) := fun as bs => by
  show PyData.eqv (.tuple _) (.tuple _) = _
  simp only [PyData.eqv]
  exact h.all as bs
theorem eqd_int : Eqd PyData.int := eqv_int
theorem eqd_fr : Eqd fr := fr_eqv
theorem eqd_tI : Eqd tI := eqd_int.tup
def bI (b : Bowl) : List Int := [b.b, b.t, b.h]
theorem bI_inj {x y : Bowl} (h : bI x = bI y) : x = y := by
  obtain ⟨_, _, _⟩ := x
  obtain ⟨_, _, _⟩ := y
  simp only [bI, List.cons.injEq, and_true] at h
  obtain ⟨rfl, rfl, rfl⟩ := h
  rfl
theorem p_tI (b : Bowl) : b.p = tI (bI b) := rfl
theorem eqd_p : Eqd Bowl.p := fun x y => by
  rw [p_tI, p_tI, eqd_tI, decide_eq_decide]
  exact ⟨bI_inj, fun e => by rw [e]⟩
theorem eqd_st : Eqd stP := eqd_p.tup
end BN

/-! how a refusal is told -/
namespace BN
open PySem PySem.Spec PyProof.Rows L2
abbrev n__law_kinds : List Str := ["e", "some", "words", "word", "good"]
abbrev n__law_refusal : List Str := ["e", "kinds"]
def wrds : List Str := ["bowl", "stack", "place", "rest", "full", "empty", "left", "own", "value"]
theorem wrds_split : Txt.split "bowl stack place rest full empty left own value" " " = wrds := by decide +kernel
def kindsOf (bs : List Bool) : List Str := ((wrds.zip bs).filter (·.2)).map (·.1)
def t__law_kinds (a : Addr) (b1 b2 b3 b4 b5 b6 b7 b8 b9 : Bool) : DTS :=
  dSeq (dAsg (dLst [dIsE a 0 b1, dIsE a 0 b2, dIsE a 0 b3, dIsE a 0 b4]) (gNm 1))
    (dSeq (dAsg (dAdd (tVarD 1) (dLst [dIsE a 0 b5, dIsE a 0 b6, dIsE a 0 b7])) (gNm 1))
    (dSeq (dAsg (dAdd (tVarD 1) (dLst [dIsE a 0 b8, dIsE a 0 b9])) (gNm 1))
    (dSeq (dAsg (tCD (.d (.str "bowl stack place rest full empty left own value"))) (gNm 2))
    (dRet (dLc (.tup [3, 4]) [3, 4] (iZpL (dSplit (tVarD 2) (tCD (.d (.str " ")))) (tVarD 1)) (dTst (tVarD 4)) (tVarD 3))))))
def sp__law_kinds (a : Addr) (bs : List Bool) : DSp := fun ds M Q _ => ds = [.ref a] ∧ Q (.d (.list ((kindsOf bs).map PyData.str))) M
theorem len__law_kinds {a bs ds M Q E} (h : sp__law_kinds a bs ds M Q E) : ds.length = 1 := by rw [h.1]; rfl
theorem rd__law_kinds {a b1 b2 b3 b4 b5 b6 b7 b8 b9 ds M Q E'} (h : sp__law_kinds a [b1, b2, b3, b4, b5, b6, b7, b8, b9] ds M Q E') : t__law_kinds a b1 b2 b3 b4 b5 b6 b7 b8 b9 (fnEnds Q) (startD n__law_kinds ds) M := by
  obtain ⟨rfl, k⟩ := h
  refine ⟨rfl, rfl, rfl, rfl, rfl, rfl, rfl, Nat.le_of_ble_eq_true rfl, rfl, rfl, Nat.le_of_ble_eq_true rfl, by decide, by decide +kernel, ?_⟩
  rw [wrds_split]
  refine ⟨fun i acc M' => M' = M ∧ acc = ((((wrds.zip [b1, b2, b3, b4, b5, b6, b7, b8, b9]).take i).filter (·.2)).map (·.1)).map PyData.str, ⟨rfl, rfl⟩, ?_, ?_⟩
  · rintro i z acc M' hz ⟨rfl, rfl⟩
    have hi : i < 9 := (List.getElem?_eq_some_iff.mp hz).1
    have e : zipL (wrds.map PyData.str) ([b1, b2, b3, b4, b5, b6, b7, b8, b9].map PyData.bool) = (wrds.zip [b1, b2, b3, b4, b5, b6, b7, b8, b9]).map fun p => .tuple [.str p.1, .bool p.2] := rfl
    have hz : ((wrds.zip [b1, b2, b3, b4, b5, b6, b7, b8, b9]).map fun p => PyData.tuple [.str p.1, .bool p.2])[i]? = some z := e ▸ hz
    rw [List.getElem?_map] at hz
    obtain ⟨⟨x, b⟩, hb, rfl⟩ := Option.map_eq_some_iff.mp hz
    have hl : ((((wrds.zip [b1, b2, b3, b4, b5, b6, b7, b8, b9]).take i).filter (·.2)).map (·.1)).length ≤ 9 := by
      rw [List.length_map]
      refine Nat.le_trans (List.length_filter_le _ _) ?_
      rw [List.length_take]
      omega
    have e1 : (((wrds.zip [b1, b2, b3, b4, b5, b6, b7, b8, b9]).take (i + 1)).filter (·.2)) = (((wrds.zip [b1, b2, b3, b4, b5, b6, b7, b8, b9]).take i).filter (·.2)) ++ if b = true then [(x, b)] else [] := by
      rw [List.take_add_one, hb, List.filter_append]
      congr 1
      cases b <;> rfl
    refine ⟨rfl, fun h => ⟨?_, rfl, ?_⟩, fun h => ⟨rfl, ?_⟩⟩
    · rw [List.length_map]; omega
    · rw [e1, if_pos h, List.map_append, List.map_append]
      rfl
    · have h : b = false := h
      rw [e1, if_neg (by rw [h]; exact Bool.false_ne_true), List.append_nil]
  · rintro acc M' ⟨rfl, rfl⟩
    exact sameQ k
def t__law_refusal (a : Addr) (bs : List Bool) : DTS :=
  dSeq (dAsg (dCall (sp__law_kinds a bs) X0 [tVarD 0]) (gNm 1))
    (dRet (dIf (dTst (dEq (dSl (tVarD 1) (dPart (tCD (.d (.int 1)))) dNoPart) (dLst [(tCD (.d (.str "own"))), (tCD (.d (.str "value")))]))) (dIx (tVarD 1) (tCD (.d (.int 0)))) (tCD (.d (.str "else")))))
/-- the bits of the k-th kind -/
def bitsOf (k : Nat) : List Bool := (List.range 7).map (fun i => decide (i = k)) ++ [true, true]
theorem len__law_refusal {a w ds M Q E} (h : spRef a w ds M Q E) : ds.length = 1 := by rw [h.1]; rfl
theorem rd__law_refusal {a : Addr} {k : Nat} {w : Str} (hk : (k, w) ∈ [(0, ("bowl" : Str)), (1, "stack"), (2, "place"), (3, "rest"), (4, "full"), (5, "empty"), (6, "left")]) {ds M Q E'} (h : spRef a w ds M Q E') : t__law_refusal a (bitsOf k) (fnEnds Q) (startD n__law_refusal ds) M := by
  obtain ⟨rfl, kk⟩ := h
  have e : kindsOf (bitsOf k) = [w, "own", "value"] := by
    simp only [List.mem_cons, Prod.mk.injEq, List.not_mem_nil, or_false] at hk
    rcases hk with ⟨rfl, rfl⟩ | ⟨rfl, rfl⟩ | ⟨rfl, rfl⟩ | ⟨rfl, rfl⟩ | ⟨rfl, rfl⟩ | ⟨rfl, rfl⟩ | ⟨rfl, rfl⟩ <;> decide +kernel
  refine ⟨rfl, ?_⟩
  rw [e]
  refine ⟨_, rfl, ?_⟩
  have es : SeqAt.shaped (.list [.str "own", .str "value"]) = true := by decide +kernel
  have ev : PyData.eqv (.list [.str "own", .str "value"]) (.list [.str "own", .str "value"]) = true := by decide +kernel
  refine ⟨_, _, rfl, rfl, ⟨es, es⟩, fun _ => ⟨_, rfl, .str w, rfl, sameQ kk⟩, fun h => ?_⟩
  exact absurd (h.symm.trans ev) (by decide)
end BN

namespace BN
open PySem PySem.Spec PyProof.Rows L2
abbrev sp__law_frac := sp_fraction
theorem len__law_frac {ds M Q E} (h : sp__law_frac ds M Q E) : ds.length = 2 := len_fraction h
abbrev sp__law_plus := sp_plus
theorem len__law_plus {ds M Q E} (h : sp__law_plus ds M Q E) : ds.length = 2 := len_plus h
abbrev sp__law_minus := sp_minus
theorem len__law_minus {ds M Q E} (h : sp__law_minus ds M Q E) : ds.length = 2 := len_minus h
abbrev sp__law_less := sp_is_less
theorem len__law_less {ds M Q E} (h : sp__law_less ds M Q E) : ds.length = 2 := len_is_less h
abbrev sp__law_demands := sp_wants
theorem len__law_demands {ds M Q E} (h : sp__law_demands ds M Q E) : ds.length = 3 := len_wants h
def sp__law_heights : DSp := fun ds M Q _ => ∃ (bs : List Bowl), ds = [.d (stP bs)] ∧ OkL bs ∧ bs.length ≤ 20 ∧ Q (.d (.list ((hts bs).map fr))) M
theorem len__law_heights {ds M Q E} (h : sp__law_heights ds M Q E) : ds.length = 1 := by obtain ⟨bs, rfl, _⟩ := h; rfl
abbrev sp__law_high := sp_high_of
theorem len__law_high {ds M Q E} (h : sp__law_high ds M Q E) : ds.length = 1 := len_high_of h
abbrev n__law_frac : List Str := ["top", "bottom", "one", "other"]
def t__law_frac : DTS :=
  (dSeq (dPar 2 3 (dCB rdAbs [(tVarD 0)]) (dCB rdAbs [(tVarD 1)]))
    (dSeq (dWhile (dTst (dGt (tVarD 3) (tCD (.d (.int 0))))) (dPar 2 3 (tVarD 3) (dMod (tVarD 2) (tVarD 3))))
    (dSeq (dAsg (dIf (dTst (dGt (tVarD 1) (tCD (.d (.int 0))))) (tVarD 2) (dUn rdNeg (tVarD 2))) (gNm 2))
    (dRet (dTup [(dFdiv (tVarD 0) (tVarD 2)), (dFdiv (tVarD 1) (tVarD 2))])))))
abbrev n__law_plus : List Str := ["one", "other"]
def t__law_plus : DTS :=
  (dRet (dCall sp__law_frac X0 [(dAdd (dMul (dIx (tVarD 0) (tCD (.d (.int 0)))) (dIx (tVarD 1) (tCD (.d (.int 1))))) (dMul (dIx (tVarD 1) (tCD (.d (.int 0)))) (dIx (tVarD 0) (tCD (.d (.int 1)))))), (dMul (dIx (tVarD 0) (tCD (.d (.int 1)))) (dIx (tVarD 1) (tCD (.d (.int 1)))))]))
abbrev n__law_less : List Str := ["one", "other"]
def t__law_less : DTS :=
  (dRet (dLt (dMul (dIx (tVarD 0) (tCD (.d (.int 0)))) (dIx (tVarD 1) (tCD (.d (.int 1))))) (dMul (dIx (tVarD 1) (tCD (.d (.int 0)))) (dIx (tVarD 0) (tCD (.d (.int 1)))))))
abbrev n__law_demands : List Str := ["stack", "found", "at", "to"]
def t__law_demands (c_NoBowl : Addr) : DTS :=
  (dRet (dLc (.one 3) [3] (iRg1 (tVarD 2)) dYes (dCall sp__law_plus X0 [(dIx (tVarD 1) (tVarD 3)), (dCall (sp_rest c_NoBowl) X0 [(dIx (tVarD 0) (tVarD 3)), (dIx (tVarD 0) (tVarD 2))])])))
abbrev n__law_heights : List Str := ["stack", "found", "at", "best", "want"]
def t__law_heights : DTS :=
  (dSeq (dAsg (dLstM []) (gNm 1))
    (dSeq (dFor (iRg1 (dCB rdLen [(tVarD 0)])) (gNm 2)
    (dSeq (dAsg (dTup [(tCD (.d (.int 0))), (tCD (.d (.int 1)))]) (gNm 3))
    (dSeq (dFor (iLs (dCall sp__law_demands X0 [(tVarD 0), (tVarD 1), (tVarD 2)])) (gNm 4)
    (dAsg (dIf (dTst (dCall sp__law_less X0 [(tVarD 3), (tVarD 4)])) (tVarD 4) (tVarD 3)) (gNm 3)))
    (dDrop (dApp (tVarD 1) (tVarD 3))))))
    (dRet (tVarD 1))))
abbrev n__law_high : List Str := ["stack", "best", "height", "bowl", "rim"]
def t__law_high : DTS :=
  (dSeq (dAsg (dTup [(tCD (.d (.int 0))), (tCD (.d (.int 1)))]) (gNm 1))
    (dSeq (dFor (iZpM (dCall sp__law_heights X0 [(tVarD 0)]) (tVarD 0)) (gTp [2, 3])
    (dSeq (dAsg (dCall sp__law_plus X0 [(tVarD 2), (dTup [(dIx (tVarD 3) (tCD (.d (.int 2)))), (tCD (.d (.int 1)))])]) (gNm 4))
    (dAsg (dIf (dTst (dCall sp__law_less X0 [(tVarD 1), (tVarD 4)])) (tVarD 4) (tVarD 1)) (gNm 1))))
    (dRet (tVarD 1))))
theorem rd__law_frac {ds M Q E'} (h : sp__law_frac ds M Q E') : t__law_frac (fnEnds Q) (startD n__law_frac ds) M := by
  obtain ⟨a, b, rfl, hb, sa, sb, k⟩ := h
  have hg : (0 : Int) < (Int.gcd a b : Nat) := by
    have := Int.gcd_pos_of_ne_zero_right a (show b ≠ 0 by omega)
    omega
  have hgb : ((Int.gcd a b : Nat) : Int) ≤ b := Int.le_of_dvd hb (Int.gcd_dvd_right ..)
  have e1 : Int.gcd ((a.natAbs : Nat) : Int) ((b.natAbs : Nat) : Int) = Int.gcd a b := by simp [Int.gcd]
  have sg : ((Int.gcd a b : Nat) : Int).natAbs < 2 ^ 8900 := by omega
  refine ⟨fun n ρ M' => ∃ a' b' : Int, ρ = [some (.d (.int a)), some (.d (.int b)), some (.d (.int a')), some (.d (.int b'))] ∧ M' = M ∧ 0 ≤ a' ∧ 0 ≤ b' ∧ n = b'.toNat ∧ Int.gcd a' b' = Int.gcd a b, ⟨b.natAbs, _, _, rfl, rfl, by omega, by omega, by omega, e1⟩, ?_⟩
  rintro n ρ M' ⟨a', b', rfl, rfl, ha', hb', rfl, e⟩
  refine ⟨fun h => ?_, fun h => ?_⟩
  · have h0 : 0 < b' := of_decide_eq_true h
    obtain ⟨h1, h2⟩ := emod_b a' h0
    refine ⟨h0, (a' % b').toNat, by omega, b', a' % b', rfl, rfl, hb', h1, rfl, ?_⟩
    rw [← e]
    exact gcd_step ha' h0
  · have h0 : ¬ 0 < b' := of_decide_eq_false h
    have h0 : b' = 0 := by omega
    subst h0
    have e2 : a' = ((Int.gcd a b : Nat) : Int) := by rw [← e, Int.gcd_zero_right]; omega
    subst e2
    have w : CDivW a (Int.gcd a b : Nat) := wide_div hg sg (by decide) (by decide)
    have w2 : CDivW b (Int.gcd a b : Nat) := wide_div hg sg (by decide) (by decide)
    refine ⟨fun _ => ⟨w, w2, sameQ ?_⟩, fun h => ?_⟩
    · obtain ⟨f1, f2⟩ := frac_num (a := a) hb
      unfold fr at k
      rw [f1, f2] at k
      exact k
    · have h : decide ((0 : Int) < b) = false := h
      have := of_decide_eq_false h
      omega
theorem rd__law_plus {ds M Q E'} (h : sp__law_plus ds M Q E') : t__law_plus (fnEnds Q) (startD n__law_plus ds) M := rd_plus h
theorem rd__law_less {ds M Q E'} (h : sp__law_less ds M Q E') : t__law_less (fnEnds Q) (startD n__law_less ds) M := rd_is_less h
theorem p_inj {x y : Bowl} (h : x.p = y.p) : x = y := by
  have h1 := eqd_p x y
  rw [h, eqv_self (pl_p y)] at h1
  exact of_decide_eq_true h1.symm
theorem rest_p {c : Addr} {x y : Bowl} (hx : x.Ok) (hy : y.Ok) {M : DM} {Q : DQ} (k : Q (.d (fr (rst x y))) M) : sp_rest c [.d x.p, .d y.p] M Q X0 :=
  ⟨_, _, rfl, x.fit, y.fit, fun a b _ _ ea eb => by cases p_inj ea; cases p_inj eb; exact k, fun h => by
    rcases h with h | h
    · rw [isBw_p hx] at h; cases h
    · rw [isBw_p hy] at h; cases h⟩
theorem rd__law_demands {c ds M Q E'} (h : sp__law_demands ds M Q E') : t__law_demands c (fnEnds Q) (startD n__law_demands ds) M := by
  obtain ⟨bs, x, fs, n, rfl, hv, ho, hs, hn, hf, hl, k⟩ := h
  have hy := ho.get hn
  refine ⟨⟨by omega, by omega⟩, fun i acc M' => M' = M ∧ acc = (wnt bs (fs.take i) (bs.getD n dB)).map fr, ⟨rfl, by simp [wnt]⟩, ?_, ?_⟩
  · rintro i z acc M' hz ⟨rfl, rfl⟩
    obtain ⟨hi, rfl⟩ := rgL_get hz
    have hi : i < n := by simpa using hi
    have hb := ho.get (show i < bs.length by omega)
    have hfi : fs[i]? = some fs[i] := List.getElem?_eq_getElem (by omega)
    refine ⟨fun _ => ?_, fun h => (nomatch h)⟩
    refine ⟨_, hv, fr fs[i], by
      show ixD _ ((0 : Int) + (i : Nat)) = _
      rw [Int.zero_add, ixD_lt]
      rw [List.getElem?_map, hfi]; rfl, _, rfl, _, by
      show ixD _ ((0 : Int) + (i : Nat)) = some (bs.getD i dB).p
      rw [Int.zero_add, ixD_lt]
      rw [List.getElem?_map, hb.2]; rfl, _, rfl, (bs.getD n dB).p, ixD_lt (by rw [List.getElem?_map, hy.2]; rfl), ?_⟩
    dsimp only [aL]
    refine rest_p hb.1 hy.1 ?_
    refine ⟨fs[i], _, rfl, (hs _ (List.getElem_mem _)).mono (by decide), (sz_rst hb.1 hy.1).mono (by decide), ?_⟩
    refine ⟨?_, rfl, ?_⟩
    · rw [List.length_map, wnt_length, List.length_take]; omega
    · rw [wnt_succ hb.2 hfi, List.map_append]
      rfl
  · rintro acc M' ⟨rfl, rfl⟩
    refine sameQ ?_
    simp only [rgL_length, Int.toNat_natCast]
    exact k
theorem gst_take {ws : List Rat} {i : Nat} {z : Rat} (h : ws[i]? = some z) : gst 0 (ws.take (i + 1)) = if gst 0 (ws.take i) < z then z else gst 0 (ws.take i) := by
  unfold gst
  rw [List.take_add_one, h, List.foldl_append]
  rfl
theorem gst_szT {ws : List Rat} {n : Nat} (h0 : 0 < n) (h : ∀ z ∈ ws, Sz n z) (i : Nat) : Sz n (gst 0 (ws.take i)) := gst_sz _ _ fun z hz => by
  rcases List.mem_cons.mp hz with e | hz
  · rw [e]; exact sz_zero h0
  · exact h z (List.mem_of_mem_take hz)
theorem fr0 : PyData.tuple [.int 0, .int 1] = fr 0 := rfl
theorem rd__law_heights {ds M Q E'} (h : sp__law_heights ds M Q E') : t__law_heights (fnEnds Q) (startD n__law_heights ds) M := by
  obtain ⟨bs, rfl, ho, hl, k⟩ := h
  refine fun p hp => ?_
  have e : ((bs.map Bowl.p).length : Nat) = bs.length := List.length_map _
  refine ⟨_, rfl, ⟨by show -(2 ^ 62) ≤ (((bs.map Bowl.p).length : Nat) : Int); omega, by show (((bs.map Bowl.p).length : Nat) : Int) < 2 ^ 62; omega⟩, ?_⟩
  refine ⟨fun i ρ M' => ∃ o1 o2 o3, ρ = [some (.d (.tuple (bs.map Bowl.p))), some (.ref p), o1, o2, o3] ∧ M' = put M p (.lst ((hN bs i).map fr)), ⟨_, _, _, rfl, rfl⟩, ?_, ?_⟩
  · rintro i x ρ M' hx ⟨o1, o2, o3, rfl, rfl⟩
    obtain ⟨hi, rfl⟩ := rgL_get hx
    have hi : i < bs.length := by simpa using hi
    have hb := ho.get hi
    have hlN := hN_length bs i
    have hsz : ∀ z ∈ hN bs i, Sz 3000 z := fun z hz => (hN_sz ho i (by omega) z hz).mono (by omega)
    have hws : ∀ z ∈ wnt bs (hN bs i) (bs.getD i dB), Sz 3031 z := wnt_sz ho hb.1 hsz
    refine ⟨bs, .ref p, hN bs i, i, by
      show [D.d _, D.ref p, D.d (.int ((0 : Int) + (i : Nat)))] = _
      rw [Int.zero_add], ⟨_, put_same, rfl⟩, ho, hsz, hi, by omega, by omega, ?_⟩
    rw [List.take_of_length_le (by omega)]
    refine ⟨fun j ρ M' => ∃ o3, ρ = [some (.d (.tuple (bs.map Bowl.p))), some (.ref p), some (.d (.int ((0 : Int) + (i : Nat)))), some (.d (fr (gst 0 ((wnt bs (hN bs i) (bs.getD i dB)).take j)))), o3] ∧ M' = put M p (.lst ((hN bs i).map fr)), ⟨_, rfl, rfl⟩, ?_, ?_⟩
    · rintro j z ρ M' hz ⟨o3, rfl, rfl⟩
      rw [List.getElem?_map] at hz
      obtain ⟨q, hq, rfl⟩ := Option.map_eq_some_iff.mp hz
      refine ⟨_, _, rfl, (gst_szT (by decide) hws j).mono (by decide), (hws q (List.mem_of_getElem? hq)).mono (by decide), fun h => ⟨some (.d (fr q)), ?_, rfl⟩, fun h => ⟨some (.d (fr q)), ?_, rfl⟩⟩
      · rw [gst_take hq, if_pos (of_decide_eq_true h)]
        rfl
      · rw [gst_take hq, if_neg (of_decide_eq_false h)]
        rfl
    · rintro ρ M' ⟨o3, rfl, rfl⟩
      have ew : (wnt bs (hN bs i) (bs.getD i dB)).take ((wnt bs (hN bs i) (bs.getD i dB)).map fr).length = wnt bs (hN bs i) (bs.getD i dB) := by rw [List.length_map, List.take_length]
      rw [ew]
      refine ⟨⟨_, put_same⟩, _, put_same, by rw [List.length_map]; omega, _, _, _, rfl, ?_⟩
      rw [put_put, hN, List.map_append]
      rfl
  · rintro ρ M' ⟨o1, o2, o3, rfl, rfl⟩
    simp only [rgL_length, Int.toNat_natCast, List.length_map]
    exact ⟨M, _, .lst p _ M put_same (Sub.rfl'.put hp) hp, k⟩
theorem rd__law_high {ds M Q E'} (h : sp__law_high ds M Q E') : t__law_high (fnEnds Q) (startD n__law_high ds) M := by
  obtain ⟨bs, rfl, ho, hl, k⟩ := h
  have hlh := hts_length bs
  have hz := (hgh_sz ho hl).1
  refine ⟨bs, rfl, ho, hl, ?_⟩
  refine ⟨fun i ρ M' => ∃ o1 o2 o3, ρ = [some (.d (stP bs)), some (.d (fr (gst 0 ((List.zipWith (fun f b => f + (Bowl.h b : Rat)) (hts bs) bs).take i)))), o1, o2, o3] ∧ M' = M, ⟨_, _, _, rfl, rfl⟩, ?_, ?_⟩
  · rintro i z ρ M' hz' ⟨o1, o2, o3, rfl, rfl⟩
    have hi : i < bs.length := by
      have := (List.getElem?_eq_some_iff.mp hz').1
      rw [zipL_length, List.length_map, List.length_map] at this
      omega
    have hb := ho.get hi
    have hf : (hts bs)[i]? = some (hts bs)[i] := List.getElem?_eq_getElem (by omega)
    rw [zipL_get (x := fr (hts bs)[i]) (y := (bs.getD i dB).p) (by rw [List.getElem?_map, hf]; rfl) (by rw [List.getElem?_map, hb.2]; rfl)] at hz'
    cases hz'
    have hq : (List.zipWith (fun f b => f + (Bowl.h b : Rat)) (hts bs) bs)[i]? = some ((hts bs)[i] + ((bs.getD i dB).h : Rat)) := by
      rw [List.getElem?_zipWith, hf, hb.2]
    refine ⟨rfl, _, rfl, _, rfl, (hts bs)[i], ((bs.getD i dB).h : Rat), rfl, (hts_sz ho hl _ (List.getElem_mem _)).mono (by decide), (sz_h hb.1 hb.1).mono (by decide), ?_⟩
    refine ⟨_, _, rfl, (gst_szT (by decide) hz i).mono (by decide), (hz _ (List.mem_of_getElem? hq)).mono (by decide), fun h => ⟨some (.d (fr (hts bs)[i])), some (.d (bs.getD i dB).p), some (.d (fr ((hts bs)[i] + ((bs.getD i dB).h : Rat)))), ?_, rfl⟩, fun h => ⟨some (.d (fr (hts bs)[i])), some (.d (bs.getD i dB).p), some (.d (fr ((hts bs)[i] + ((bs.getD i dB).h : Rat)))), ?_, rfl⟩⟩
    · rw [gst_take hq, if_pos (of_decide_eq_true h)]
      rfl
    · rw [gst_take hq, if_neg (of_decide_eq_false h)]
      rfl
  · rintro ρ M' ⟨o1, o2, o3, rfl, rfl⟩
    have e : (zipL (List.map fr (hts bs)) (List.map Bowl.p bs)).length = bs.length := by rw [zipL_length, List.length_map, List.length_map]; omega
    rw [e, List.take_of_length_le (by rw [List.length_zipWith]; omega)]
    exact sameQ k
end BN

namespace BN
open PySem PySem.Spec PyProof.Rows L2
theorem gst_ge : ∀ (l : List Rat) (q z : Rat), z ∈ q :: l → z ≤ gst q l
  | [], q, z, h => by
    rw [List.mem_singleton.mp h]
    exact Rat.le_refl
  | x :: l, q, z, h => by
    show z ≤ gst (if q < x then x else q) l
    have up : q ≤ (if q < x then x else q) ∧ x ≤ (if q < x then x else q) := by
      by_cases c : q < x
      · rw [if_pos c]; exact ⟨Rat.le_of_lt c, Rat.le_refl⟩
      · rw [if_neg c]; exact ⟨Rat.le_refl, Rat.not_lt.mp c⟩
    have hd := gst_ge l (if q < x then x else q) _ List.mem_cons_self
    rcases List.mem_cons.mp h with e | h
    · rw [e]; exact Rat.le_trans up.1 hd
    · rcases List.mem_cons.mp h with e | h
      · rw [e]; exact Rat.le_trans up.2 hd
      · exact gst_ge l _ z (List.mem_cons_of_mem _ h)
theorem gst_le : ∀ (l : List Rat) (q c : Rat), (∀ z ∈ q :: l, z ≤ c) → gst q l ≤ c
  | [], q, c, h => h q List.mem_cons_self
  | x :: l, q, c, h => by
    show gst (if q < x then x else q) l ≤ c
    refine gst_le l _ c fun z hz => ?_
    rcases List.mem_cons.mp hz with e | hz
    · rw [e]
      by_cases g : q < x
      · rw [if_pos g]; exact h x (by simp)
      · rw [if_neg g]; exact h q (by simp)
    · exact h z (by simp [hz])
/-- how high the one at place j stands -/
def hAt (bs : List Bowl) (j : Nat) : Rat := gst 0 (wnt bs (hN bs j) (bs.getD j dB))
theorem hN_eq (bs : List Bowl) : ∀ n, hN bs n = (List.range n).map (hAt bs)
  | 0 => rfl
  | n + 1 => by
    rw [List.range_succ, List.map_append, ← hN_eq bs n]
    rfl
theorem getD_of {bs : List Bowl} {i : Nat} (h : i < bs.length) : bs[i]? = some (bs.getD i dB) := by
  rw [List.getD_eq_getElem?_getD, List.getElem?_eq_getElem h]; rfl
theorem wnt_eq (bs : List Bowl) {n : Nat} (h : n ≤ bs.length) (y : Bowl) : wnt bs (hN bs n) y = (List.range n).map fun i => hAt bs i + rst (bs.getD i dB) y := by
  apply List.ext_getElem?
  intro i
  unfold wnt
  rw [List.getElem?_zipWith, hN_eq, List.getElem?_map, List.getElem?_map]
  by_cases hi : i < n
  · rw [List.getElem?_range hi, getD_of (show i < bs.length by omega)]
    rfl
  · rw [List.getElem?_eq_none (l := List.range n) (by rw [List.length_range]; omega)]
    cases bs[i]? <;> rfl
theorem hAt_eq (bs : List Bowl) {j : Nat} (h : j ≤ bs.length) : hAt bs j = gst 0 ((List.range j).map fun i => hAt bs i + rst (bs.getD i dB) (bs.getD j dB)) := by
  conv => lhs; unfold hAt
  rw [wnt_eq bs h]
/-- what stands beneath tells all -/
theorem hAt_pre {as bs : List Bowl} : ∀ (j : Nat), j ≤ as.length → j ≤ bs.length → (∀ i, i ≤ j → as.getD i dB = bs.getD i dB) → hAt as j = hAt bs j := by
  intro j
  induction j using Nat.strongRecOn with
  | ind j ih =>
    intro h1 h2 h
    rw [hAt_eq as h1, hAt_eq bs h2]
    congr 1
    refine List.map_congr_left fun i hi => ?_
    have hi := List.mem_range.mp hi
    rw [ih i hi (by omega) (by omega) fun m hm => h m (by omega), h i (by omega), h j (Nat.le_refl _)]
theorem hts_take (bs : List Bowl) {m : Nat} (h : m ≤ bs.length) : (hts bs).take m = (List.range m).map (hAt bs) := by
  unfold hts
  rw [hN_eq, ← List.map_take, List.take_range, Nat.min_eq_left h]
/-- what is set on moves none beneath -/
theorem hts_pre {bs : List Bowl} {m : Nat} (h : m ≤ bs.length) : hts (bs.take m) = (hts bs).take m := by
  rw [hts_take bs h]
  unfold hts
  have hl : (bs.take m).length = m := by rw [List.length_take]; omega
  rw [hN_eq, hl]
  refine List.map_congr_left fun i hi => ?_
  have hi := List.mem_range.mp hi
  refine hAt_pre i (by omega) (by omega) fun k hk => ?_
  rw [List.getD_eq_getElem?_getD, List.getD_eq_getElem?_getD, List.getElem?_take, if_pos (by omega)]
theorem outOf_lo {bs : List Bowl} {k i : Nat} (hk : k < bs.length) (hi : i < k) : (outOf bs k).getD i dB = bs.getD i dB := by
  unfold outOf
  rw [List.getD_eq_getElem?_getD, List.getD_eq_getElem?_getD, List.getElem?_append_left (by rw [List.length_take]; omega), List.getElem?_take, if_pos hi]
theorem outOf_hi {bs : List Bowl} {k i : Nat} (hk : k < bs.length) (hi : k ≤ i) : (outOf bs k).getD i dB = bs.getD (i + 1) dB := by
  unfold outOf
  have hl : (bs.take k).length = k := by rw [List.length_take]; omega
  rw [List.getD_eq_getElem?_getD, List.getD_eq_getElem?_getD, List.getElem?_append_right (by omega), hl, List.getElem?_drop]
  congr 2
  omega
theorem out_pre {bs : List Bowl} {k : Nat} (hk : k < bs.length) {i : Nat} (hi : i < k) : hAt (outOf bs k) i = hAt bs i := by
  have hl := outOf_len bs hk
  exact hAt_pre i (by omega) (by omega) fun m hm => outOf_lo hk (by omega)
theorem out_take {bs : List Bowl} {k : Nat} (hk : k < bs.length) : (hts (outOf bs k)).take k = (hts bs).take k := by
  have hl := outOf_len bs hk
  rw [hts_take _ (by omega), hts_take _ (by omega)]
  exact List.map_congr_left fun i hi => out_pre hk (List.mem_range.mp hi)
/-- drawn out: none of the others rises -/
theorem out_le {bs : List Bowl} {k : Nat} (hk : k < bs.length) : ∀ i, k ≤ i → i < (outOf bs k).length → hAt (outOf bs k) i ≤ hAt bs (i + 1) := by
  have hl := outOf_len bs hk
  intro i
  induction i using Nat.strongRecOn with
  | ind i ih =>
    intro h1 h2
    have e := hAt_eq bs (j := i + 1) (by omega)
    have inn : ∀ j, j ≤ i → hAt bs j + rst (bs.getD j dB) (bs.getD (i + 1) dB) ≤ hAt bs (i + 1) := fun j hj => by
      rw [e]
      exact gst_ge _ _ _ (List.mem_cons_of_mem _ (List.mem_map.mpr ⟨j, List.mem_range.mpr (by omega), rfl⟩))
    rw [hAt_eq (outOf bs k) (by omega)]
    refine gst_le _ _ _ fun z hz => ?_
    rcases List.mem_cons.mp hz with hz | hz
    · rw [hz, e]
      exact gst_ge _ _ _ List.mem_cons_self
    · obtain ⟨j, hj, rfl⟩ := List.mem_map.mp hz
      have hj := List.mem_range.mp hj
      rw [outOf_hi hk h1]
      by_cases hjk : j < k
      · rw [out_pre hk hjk, outOf_lo hk hjk]
        exact inn j (by omega)
      · rw [outOf_hi hk (show k ≤ j by omega)]
        have h3 := ih j hj (by omega) (by omega)
        have h4 := inn (j + 1) (by omega)
        refine Rat.le_trans ?_ h4
        exact Rat.add_le_add_right.mpr h3
theorem hts_at (bs : List Bowl) {i : Nat} (h : i < bs.length) : (hts bs)[i]? = some (hAt bs i) := by
  unfold hts
  rw [hN_eq, List.getElem?_map, List.getElem?_range h]
  rfl
/-- by how much they sank is never below nought -/
theorem snk_nn {bs : List Bowl} {k : Nat} (hk : k < bs.length) : ∀ z ∈ snk bs k, 0 ≤ z := fun z hz => by
  have hl := outOf_len bs hk
  obtain ⟨i, hi⟩ := List.mem_iff_getElem?.mp hz
  unfold snk at hi
  rw [List.getElem?_zipWith, List.getElem?_drop, List.getElem?_drop] at hi
  by_cases hb : k + i < (outOf bs k).length
  · rw [hts_at bs (show k + 1 + i < bs.length by omega), hts_at _ hb] at hi
    have hi : some (hAt bs (k + 1 + i) - hAt (outOf bs k) (k + i)) = some z := hi
    cases hi
    have h := out_le hk (k + i) (by omega) hb
    rw [show k + i + 1 = k + 1 + i by omega] at h
    have := (Rat.le_iff_sub_nonneg _ _).mp h
    exact this
  · rw [List.getElem?_eq_none (l := hts (outOf bs k)) (by rw [hts_length]; omega)] at hi
    split at hi
    · rename_i h2
      simp_all
    · cases hi
end BN

namespace BN
open PySem PySem.Spec PyProof.Rows L2
def sp_left (c_NoStack c_NoPlace : Addr) : DSp := fun ds M Q E => ∃ (x y : PyData), ds = [.d x, .d y] ∧ FitS x ∧ (∀ bs k, St8 bs → x = stP bs → y = .int (k : Nat) → k < bs.length → Q (.d (.list ((hts (outOf bs k)).map fr))) M) ∧
  (isSt x 8 = false → E c_NoStack M) ∧ (∀ bs, St8 bs → x = stP bs → isWh y 0 ((bs.length : Nat) - 1) = false → E c_NoPlace M)
theorem len_left {c c' ds M Q E} (h : sp_left c c' ds M Q E) : ds.length = 2 := by obtain ⟨bs, _, rfl, _⟩ := h; rfl
def sp__law_word (wd : Wrd) (c c' : Addr) : DSp := fun ds M Q _ => ∃ (way : Nat) (x y : PyData), ds = [.d (.int (way : Nat)), .d x, .d y] ∧ way < 5 ∧ FitS x ∧ ((isSt x 8 = false ∧ (c, ("stack" : Str)) ∈ wd ∧ Q (.d (.str "stack")) M) ∨
  (3 ≤ way ∧ ∃ bs, St8 bs ∧ x = stP bs ∧ isWh y 0 ((bs.length : Nat) - 1) = false ∧ (c', ("place" : Str)) ∈ wd ∧ Q (.d (.str "place")) M))
theorem len__law_word {wd c c' ds M Q E} (h : sp__law_word wd c c' ds M Q E) : ds.length = 3 := by obtain ⟨_, _, _, rfl, _⟩ := h; rfl
def sp__law_held : DSp := fun ds M Q _ => ∃ (bs : List Bowl) (x : D), ds = [.d (stP bs), x] ∧ Vw M x (.list ((hts bs).map fr)) ∧ St8 bs ∧ Q (.d (.list (hld bs))) M
theorem len__law_held {ds M Q E} (h : sp__law_held ds M Q E) : ds.length = 2 := by obtain ⟨_, _, rfl, _⟩ := h; rfl
def sp__law_drawn : DSp := fun ds M Q _ => ∃ (bs : List Bowl) (x : D) (k : Nat), ds = [.d (stP bs), x, .d (.int (k : Nat))] ∧ Vw M x (.list ((hts bs).map fr)) ∧ St8 bs ∧ k < bs.length ∧ Q (.d (.bool true)) M
theorem len__law_drawn {ds M Q E} (h : sp__law_drawn ds M Q E) : ds.length = 3 := by obtain ⟨_, _, _, rfl, _⟩ := h; rfl
def sp_law : DSp := fun ds M Q _ => ∃ ns : List Int, ds = [.scr ns] ∧ ns.length ≤ 63 ∧ Q (.d (.bool true)) M
theorem len_law {ds M Q E} (h : sp_law ds M Q E) : ds.length = 1 := by obtain ⟨_, rfl, _⟩ := h; rfl
theorem Vw.putF {M : DM} {p : Addr} {o : MO} {x : D} {a : PyData} (hp : M p = none) (w : Vw M x a) : Vw (put M p o) x a := by
  cases x with
  | ref l =>
    obtain ⟨ds, e, ea⟩ := w
    refine ⟨ds, ?_, ea⟩
    rw [put_ne (fun z => by subst z; rw [hp] at e; cases e)]
    exact e
  | _ => exact w
abbrev n__law_minus : List Str := ["one", "other"]
def t__law_minus : DTS :=
  (dRet (dCall sp__law_frac X0 [(dSub (dMul (dIx (tVarD 0) (tCD (.d (.int 0)))) (dIx (tVarD 1) (tCD (.d (.int 1))))) (dMul (dIx (tVarD 1) (tCD (.d (.int 0)))) (dIx (tVarD 0) (tCD (.d (.int 1)))))), (dMul (dIx (tVarD 0) (tCD (.d (.int 1)))) (dIx (tVarD 1) (tCD (.d (.int 1)))))]))
abbrev n_left : List Str := ["stack", "place"]
def t_left (c_NoStack : Addr) (c_NoPlace : Addr) (E' : DX) : DTS :=
  (dSeq (dDrop (dCall (sp_need_stack c_NoStack) E' [(tVarD 0)]))
    (dSeq (dDrop (dCall (sp_need_place c_NoPlace) E' [(tVarD 0), (tVarD 1)]))
    (dRet (dFrz (dCall sp_heights_of X0 [(dAdd (dSl (tVarD 0) dNoPart (dPart (tVarD 1))) (dSl (tVarD 0) (dPart (dAdd (tVarD 1) (tCD (.d (.int 1))))) dNoPart))])))))
abbrev n__law_word : List Str := ["way", "stack", "place", "e"]
def t__law_word (wd : Wrd) (c_NoStack : Addr) (c_NoPlace : Addr) : DTS :=
  (dSeq (dTry (fun E' => (dIfS (dTst (dLt (tVarD 0) (tCD (.d (.int 3))))) (dDrop (dCallIx [(sp_heights c_NoStack), (sp_high c_NoStack), (sp_held_by c_NoStack)] E' (tVarD 0) [(tVarD 1)])) (dDrop (dCallIx [(sp_left c_NoStack c_NoPlace), (sp_sunk c_NoStack c_NoPlace)] E' (dSub (tVarD 0) (tCD (.d (.int 3)))) [(tVarD 1), (tVarD 2)])))) wd)
    (dRet (tCD (.d (.str "right")))))
abbrev n__law_held : List Str := ["stack", "found", "rows", "at", "to", "want"]
def t__law_held : DTS :=
  (dSeq (dAsg (dLstM []) (gNm 2))
    (dSeq (dFor (iRg1 (dCB rdLen [(tVarD 0)])) (gNm 3)
    (dDrop (dApp (tVarD 2) (dLc (.tup [4, 5]) [4, 5] (iEn (dCall sp__law_demands X0 [(tVarD 0), (tVarD 1), (tVarD 3)])) (dTst (dEq (tVarD 5) (dIx (tVarD 1) (tVarD 3)))) (tVarD 4)))))
    (dRet (tVarD 2))))
abbrev n__law_drawn : List Str := ["stack", "found", "place", "there", "due", "one", "other"]
def t__law_drawn (c_NoStack : Addr) (c_NoPlace : Addr) : DTS :=
  (dSeq (dAsg (dCall sp__law_heights X0 [(dAdd (dSl (tVarD 0) dNoPart (dPart (tVarD 2))) (dSl (tVarD 0) (dPart (dAdd (tVarD 2) (tCD (.d (.int 1))))) dNoPart))]) (gNm 3))
    (dSeq (dIfS (dOr (dTst (dNe (dCall (sp_left c_NoStack c_NoPlace) X0 [(tVarD 0), (tVarD 2)]) (tVarD 3))) (dTst (dNe (dSl (tVarD 3) dNoPart (dPart (tVarD 2))) (dSl (tVarD 1) dNoPart (dPart (tVarD 2)))))) (dRet (tCD (.d (.bool false)))) dNext)
    (dSeq (dAsg (dLc (.tup [5, 6]) [5, 6] (iZpM (dSl (tVarD 1) (dPart (dAdd (tVarD 2) (tCD (.d (.int 1))))) dNoPart) (dSl (tVarD 3) (dPart (tVarD 2)) dNoPart)) dYes (dCall sp__law_minus X0 [(tVarD 5), (tVarD 6)])) (gNm 4))
    (dRet (dAndV (dEq (dCall (sp_sunk c_NoStack c_NoPlace) X0 [(tVarD 0), (tVarD 2)]) (tVarD 4)) (dEq (dLc (.one 5) [5] (iLs (tVarD 4)) (dTst (dLt (dIx (tVarD 5) (tCD (.d (.int 0)))) (tCD (.d (.int 0))))) (tVarD 5)) (dLst [])))))))
abbrev n_law : List Str := ["script", "k", "well", "stack", "found", "place", "odd", "thing", "way", "three"]
def t_law (wd : Wrd) (c_NoStack : Addr) (c_NoPlace : Addr) : DTS :=
  (dSeq (dFor (iRg1 (dCB rdMax [(tCD (.d (.int 6))), (dCB rdMin [(tCD (.d (.int 40))), (dCB rdLen [(tVarD 0)])])])) (gNm 1)
    (dSeq (dAsg (dCall sp__law_well X0 [(tVarD 0), (tVarD 1)]) (gNm 2))
    (dSeq (dAsg (dCall sp__law_stack X0 [(tVarD 2), (tCD (.d (.int 8)))]) (gNm 3))
    (dSeq (dAsg (dCall (sp_heights c_NoStack) X0 [(tVarD 3)]) (gNm 4))
    (dSeq (dIfS (dOr (dTst (dNe (tVarD 4) (dCall sp__law_heights X0 [(tVarD 3)]))) (dTst (dNe (dCall (sp_high c_NoStack) X0 [(tVarD 3)]) (dCall sp__law_high X0 [(tVarD 3)])))) (dRet (tCD (.d (.bool false)))) dNext)
    (dSeq (dIfS (dTst (dNe (dFrz (dCall (sp_held_by c_NoStack) X0 [(tVarD 3)])) (dCall sp__law_held X0 [(tVarD 3), (tVarD 4)]))) (dRet (tCD (.d (.bool false)))) dNext)
    (dSeq (dIfS (dTst (dNe (dFrz (dCall (sp_heights c_NoStack) X0 [(dIf (dTst (dGt (dCB rdLen [(tVarD 3)]) (tCD (.d (.int 1))))) (dSl (tVarD 3) dNoPart (dPart (dUn rdNeg (tCD (.d (.int 1)))))) (tVarD 3))])) (dSl (tVarD 4) dNoPart (dPart (dCB rdMax [(tCD (.d (.int 1))), (dSub (dCB rdLen [(tVarD 3)]) (tCD (.d (.int 1))))]))))) (dRet (tCD (.d (.bool false)))) dNext)
    (dSeq (dIfS (dTst (dNe (dLc (.one 5) [5] (iRg1 (dCB rdLen [(tVarD 3)])) (dNot (dTst (dCall sp__law_drawn X0 [(tVarD 3), (tVarD 4), (tVarD 5)]))) (tVarD 5)) (dLst []))) (dRet (tCD (.d (.bool false)))) dNext)
    (dSeq (dAsg (dLst [(dTup []), (dCB rdList [(tVarD 3)]), (dSl (dMul (tVarD 3) (tCD (.d (.int 9)))) dNoPart (dPart (tCD (.d (.int 9))))), (dAdd (tVarD 3) (dTup [(tCD (.d .none))])), (tCD (.d .none)), (dTup [(dTup [(tCD (.d (.int 1))), (tCD (.d (.int 1))), (tCD (.d (.int 1)))])]), (dIx (tVarD 3) (tCD (.d (.int 0))))]) (gNm 6))
    (dSeq (dFor (iLs (tVarD 6)) (gNm 7)
    (dIfS (dTst (dNe (dLc (.one 8) [8] (iRg1 (tCD (.d (.int 5)))) (dTst (dNe (dCall (sp__law_word wd c_NoStack c_NoPlace) X0 [(tVarD 8), (tVarD 7), (tCD (.d .none))]) (tCD (.d (.str "stack"))))) (tVarD 8)) (dLst []))) (dRet (tCD (.d (.bool false)))) dNext))
    (dSeq (dFor (iLs (dLst [(dUn rdNeg (tCD (.d (.int 1)))), (dCB rdLen [(tVarD 3)]), (tCD (.d .none)), (tCD (.d (.bool true))), (tCD (.d (.str "0")))])) (gNm 5)
    (dIfS (dOr (dTst (dNe (dCall (sp__law_word wd c_NoStack c_NoPlace) X0 [(tCD (.d (.int 3))), (tVarD 3), (tVarD 5)]) (tCD (.d (.str "place"))))) (dTst (dNe (dCall (sp__law_word wd c_NoStack c_NoPlace) X0 [(tCD (.d (.int 4))), (tVarD 3), (tVarD 5)]) (tCD (.d (.str "place")))))) (dRet (tCD (.d (.bool false)))) dNext))
    (dSeq (dDrop (dApp (tVarD 4) (tCD (.d .none))))
    (dSeq (dDrop (dApp (dCall (sp_held_by c_NoStack) X0 [(tVarD 3)]) (tCD (.d .none))))
    (dIfS (dOr (dTst (dEq (dFrz (dCall (sp_heights c_NoStack) X0 [(tVarD 3)])) (tVarD 4))) (dTst (dNe (dFrz (dCall (sp_held_by c_NoStack) X0 [(tVarD 3)])) (dCall sp__law_held X0 [(tVarD 3), (dCall sp__law_heights X0 [(tVarD 3)])])))) (dRet (tCD (.d (.bool false)))) dNext))))))))))))))
    (dSeq (dAsg (dTup [(dTup [(tCD (.d (.int 2))), (tCD (.d (.int 6))), (tCD (.d (.int 4)))]), (dTup [(tCD (.d (.int 3))), (tCD (.d (.int 5))), (tCD (.d (.int 1)))]), (dTup [(tCD (.d (.int 5))), (tCD (.d (.int 9))), (tCD (.d (.int 8)))])]) (gNm 9))
    (dSeq (dIfS (dOr (dTst (dNe (dFrz (dCall (sp_heights c_NoStack) X0 [(tVarD 9)])) (dLst [(dTup [(tCD (.d (.int 0))), (tCD (.d (.int 1)))]), (dTup [(tCD (.d (.int 2))), (tCD (.d (.int 1)))]), (dTup [(tCD (.d (.int 3))), (tCD (.d (.int 1)))])]))) (dOr (dTst (dNe (dCall (sp_high c_NoStack) X0 [(tVarD 9)]) (dTup [(tCD (.d (.int 11))), (tCD (.d (.int 1)))]))) (dTst (dNe (dFrz (dCall (sp_held_by c_NoStack) X0 [(tVarD 9)])) (dLst [(dLst []), (dLst [(tCD (.d (.int 0)))]), (dLst [(tCD (.d (.int 0))), (tCD (.d (.int 1)))])]))))) (dRet (tCD (.d (.bool false)))) dNext)
    (dRet (dAndV (dEq (dCall (sp_sunk c_NoStack c_NoPlace) X0 [(tVarD 9), (tCD (.d (.int 0)))]) (dLst [(dTup [(tCD (.d (.int 2))), (tCD (.d (.int 1)))]), (dTup [(tCD (.d (.int 2))), (tCD (.d (.int 1)))])])) (dEq (dCall (sp_left c_NoStack c_NoPlace) X0 [(tVarD 9), (tCD (.d (.int 1)))]) (dLst [(dTup [(tCD (.d (.int 0))), (tCD (.d (.int 1)))]), (dTup [(tCD (.d (.int 3))), (tCD (.d (.int 1)))])])))))))
theorem rd__law_minus {ds M Q E'} (h : sp__law_minus ds M Q E') : t__law_minus (fnEnds Q) (startD n__law_minus ds) M := rd_minus h
theorem out_p {bs : List Bowl} {k : Nat} (hk : k < bs.length) : cutD (bs.map Bowl.p) none (some (k : Int)) ++ cutD (bs.map Bowl.p) (some ((k : Int) + 1)) none = (outOf bs k).map Bowl.p := by
  rw [show ((k : Int) + 1) = ((k + 1 : Nat) : Int) from rfl, cutD_map, cutD_map, cutD_take _ (by omega), cutD_drop _ (by omega), ← List.map_append]
  rfl
theorem rd_left {c c' ds M Q E'} (h : sp_left c c' ds M Q E') : t_left c c' E' (fnEnds Q) (startD n_left ds) M := by
  obtain ⟨x, y, rfl, fit, k1, k2, k3⟩ := h
  refine ⟨x, rfl, fit, fun h => ?_, k2⟩
  obtain ⟨bs, h8, rfl⟩ := isSt8 h
  have hl := h8.l8
  refine ⟨_, y, rfl, fun hw => ?_, fun hw => k3 bs h8 rfl (by rw [List.length_map] at hw; exact hw)⟩
  rw [List.length_map] at hw
  obtain ⟨k, rfl, hk⟩ := isWh_nat hw
  have kq := k1 bs k h8 rfl rfl hk
  have ho := outOf_ok h8.ok k
  have hol := outOf_len bs hk
  have c1 := out_p hk
  refine ⟨_, rfl, _, rfl, ?_, outOf bs k, ?_, ho, by omega, fun p2 hp2 => ⟨_, M, put_same, Sub.rfl'.put hp2, hp2, sameQ kq⟩⟩
  · rw [← List.length_append, c1, List.length_map]; omega
  · rw [c1]
theorem rd__law_word {wd c c' ds M Q E'} (h : sp__law_word wd c c' ds M Q E') : t__law_word wd c c' (fnEnds Q) (startD n__law_word ds) M := by
  obtain ⟨way, x, y, rfl, hw, fit, h⟩ := h
  have noS : ∀ {bs : List Bowl}, St8 bs → x = stP bs → isSt x 8 = false → False := fun h8 e h => by rw [e, h8.is] at h; cases h
  match way, hw with
  | 0, _ =>
    rcases h with ⟨hs, hm, k⟩ | ⟨h3, _⟩
    · exact ⟨fun _ => ⟨0, _, rfl, rfl, x, rfl, fit, fun bs h8 e => (noS h8 e hs).elim, fun _ => ⟨"stack", hm, sameQ k⟩⟩, fun h => (nomatch h)⟩
    · omega
  | 1, _ =>
    rcases h with ⟨hs, hm, k⟩ | ⟨h3, _⟩
    · exact ⟨fun _ => ⟨1, _, rfl, rfl, x, rfl, fit, fun bs h8 e => (noS h8 e hs).elim, fun _ => ⟨"stack", hm, sameQ k⟩⟩, fun h => (nomatch h)⟩
    · omega
  | 2, _ =>
    rcases h with ⟨hs, hm, k⟩ | ⟨h3, _⟩
    · exact ⟨fun _ => ⟨2, _, rfl, rfl, x, rfl, fit, fun bs h8 e => (noS h8 e hs).elim, fun _ => ⟨"stack", hm, sameQ k⟩⟩, fun h => (nomatch h)⟩
    · omega
  | 3, _ =>
    rcases h with ⟨hs, hm, k⟩ | ⟨_, bs, h8, e, hwh, hm, k⟩
    · exact ⟨fun h => (nomatch h), fun _ => ⟨0, _, rfl, rfl, x, y, rfl, fit, fun bs _ h8 e => (noS h8 e hs).elim, fun _ => ⟨"stack", hm, sameQ k⟩, fun bs h8 e => (noS h8 e hs).elim⟩⟩
    · refine ⟨fun h => (nomatch h), fun _ => ⟨0, _, rfl, rfl, x, y, rfl, fit, fun cs j h8' e' ej hj => ?_, fun hs => (noS h8 e hs).elim, fun _ _ _ _ => ⟨"place", hm, sameQ k⟩⟩⟩
      cases stP_inj (e.symm.trans e')
      rw [ej, isWh_lt hj] at hwh
      cases hwh
  | 4, _ =>
    rcases h with ⟨hs, hm, k⟩ | ⟨_, bs, h8, e, hwh, hm, k⟩
    · exact ⟨fun h => (nomatch h), fun _ => ⟨1, _, rfl, rfl, x, y, rfl, fit, fun bs _ h8 e => (noS h8 e hs).elim, fun _ => ⟨"stack", hm, sameQ k⟩, fun bs h8 e => (noS h8 e hs).elim⟩⟩
    · refine ⟨fun h => (nomatch h), fun _ => ⟨1, _, rfl, rfl, x, y, rfl, fit, fun cs j h8' e' ej hj => ?_, fun hs => (noS h8 e hs).elim, fun _ _ _ _ => ⟨"place", hm, sameQ k⟩⟩⟩
      cases stP_inj (e.symm.trans e')
      rw [ej, isWh_lt hj] at hwh
      cases hwh
theorem rd__law_held {ds M Q E'} (h : sp__law_held ds M Q E') : t__law_held (fnEnds Q) (startD n__law_held ds) M := by
  obtain ⟨bs, x, rfl, hv, h8, k⟩ := h
  have hl := h8.l8
  have hlh := hts_length bs
  have hs := hts_sz h8.ok (by omega)
  have hhl : (hld bs).length = bs.length := by unfold hld; simp
  refine fun p hp => ?_
  refine ⟨_, rfl, ⟨by show -(2 ^ 62) ≤ (((bs.map Bowl.p).length : Nat) : Int); omega, by show (((bs.map Bowl.p).length : Nat) : Int) < 2 ^ 62; rw [List.length_map]; omega⟩, ?_⟩
  refine ⟨fun i ρ M' => ∃ o3 o4 o5, ρ = [some (.d (stP bs)), some x, some (.ref p), o3, o4, o5] ∧ M' = put M p (.lst ((hld bs).take i)), ⟨_, _, _, rfl, rfl⟩, ?_, ?_⟩
  · rintro i z ρ M' hz ⟨o3, o4, o5, rfl, rfl⟩
    obtain ⟨hi, rfl⟩ := rgL_get hz
    have hi : i < bs.length := by simpa using hi
    have hb := h8.ok.get hi
    have hf : (hts bs)[i]? = some ((hts bs).getD i 0) := by
      rw [List.getD_eq_getElem?_getD, List.getElem?_eq_getElem (by omega)]; rfl
    have hlw : (wnt bs ((hts bs).take i) (bs.getD i dB)).length ≤ bs.length := by rw [wnt_length]; omega
    refine ⟨⟨_, put_same⟩, bs, x, hts bs, i, by
      show [D.d _, x, D.d (.int ((0 : Int) + (i : Nat)))] = _
      rw [Int.zero_add], hv.putF hp, h8.ok, fun f hf' => (hs f hf').mono (by decide), hi, by omega, by omega, ?_⟩
    refine ⟨fun j acc2 M2 => M2 = put M p (.lst ((hld bs).take i)) ∧ acc2 = hldA ((wnt bs ((hts bs).take i) (bs.getD i dB)).take j) ((hts bs).getD i 0), ⟨rfl, rfl⟩, ?_, ?_⟩
    · rintro j z2 acc2 M2 hz2 ⟨rfl, rfl⟩
      obtain ⟨x2, hx2, rfl⟩ := enL_inv hz2
      rw [List.getElem?_map] at hx2
      obtain ⟨q, hq, rfl⟩ := Option.map_eq_some_iff.mp hx2
      have hj := (List.getElem?_eq_some_iff.mp hq).1
      refine ⟨rfl, _, hv.putF hp, fr ((hts bs).getD i 0), by
        show ixD _ ((0 : Int) + (i : Nat)) = _
        rw [Int.zero_add, ixD_lt]
        rw [List.getElem?_map, hf]; rfl, _, _, rfl, rfl, ⟨rfl, rfl⟩, ?_⟩
      rw [fr_eqv]
      refine ⟨fun h => ⟨?_, rfl, ?_⟩, fun h => ⟨rfl, ?_⟩⟩
      · have := hldA_len ((wnt bs ((hts bs).take i) (bs.getD i dB)).take j) ((hts bs).getD i 0)
        rw [List.length_take] at this
        omega
      · rw [hldA_succ hq, if_pos (of_decide_eq_true h)]
      · rw [hldA_succ hq, if_neg (of_decide_eq_false h), List.append_nil]
    · rintro acc2 M2 ⟨rfl, rfl⟩
      refine ⟨_, put_same, by rw [List.length_take]; omega, _, _, _, rfl, ?_⟩
      rw [put_put]
      congr 2
      rw [List.take_add_one]
      congr 1
      rw [enL_length, List.length_map, List.take_length]
      unfold hld
      rw [List.getElem?_map, List.getElem?_range hi]
      rfl
  · rintro ρ M' ⟨o3, o4, o5, rfl, rfl⟩
    have e2 : (hld bs).take (rgL 0 (((bs.map Bowl.p).length : Nat) : Int).toNat).length = hld bs := by
      rw [rgL_length, List.length_map]
      exact List.take_of_length_le (by rw [hhl]; simp)
    rw [e2]
    exact ⟨M, _, .lst p _ M put_same (Sub.rfl'.put hp) hp, k⟩
theorem fr_neg {q : Rat} (h : 0 ≤ q) : decide (q.num < 0) = false := by
  have := Rat.num_nonneg.mpr h
  rw [decide_eq_false_iff_not]
  omega
theorem rd__law_drawn {c c' ds M Q E'} (h : sp__law_drawn ds M Q E') : t__law_drawn c c' (fnEnds Q) (startD n__law_drawn ds) M := by
  obtain ⟨bs, x, k, rfl, hv, h8, hk, kq⟩ := h
  have hl := h8.l8
  have hs := hts_sz h8.ok (by omega)
  have ho := outOf_ok h8.ok k
  have hol := outOf_len bs hk
  have hs2 := hts_sz ho (by omega)
  have l1 := hts_length bs
  have l2 := hts_length (outOf bs k)
  have f1 : ∀ i : Nat, ((i : Int) + 1) = ((i + 1 : Nat) : Int) := fun i => rfl
  have c1 := out_p hk
  have c2 : cutD ((hts bs).map fr) (some ((k : Int) + 1)) none = ((hts bs).drop (k + 1)).map fr := by
    rw [f1, cutD_map, cutD_drop _ (by omega)]
  have c3 : cutD ((hts (outOf bs k)).map fr) (some (k : Int)) none = ((hts (outOf bs k)).drop k).map fr := by
    rw [cutD_map, cutD_drop _ (by omega)]
  have c4 : cutD ((hts (outOf bs k)).map fr) none (some (k : Int)) = ((hts bs).take k).map fr := by
    rw [cutD_map, cutD_take _ (by omega), out_take hk]
  have c5 : cutD ((hts bs).map fr) none (some (k : Int)) = ((hts bs).take k).map fr := by
    rw [cutD_map, cutD_take _ (by omega)]
  refine ⟨_, rfl, _, rfl, ?_, outOf bs k, ?_, ho, by omega, ?_⟩
  · rw [← List.length_append, c1, List.length_map]; omega
  · rw [c1]
  refine ⟨_, _, rfl, fit_st _, fun cs j h8' e ej hj => ?_, fun h => (by rw [h8.is] at h; cases h), fun cs h8' e hw => ?_⟩
  rotate_left
  · cases stP_inj e
    rw [isWh_lt hk] at hw
    cases hw
  cases stP_inj e
  cases ej
  refine ⟨_, _, rfl, rfl, ⟨(pl_frs _).sh, (pl_frs _).sh⟩, ?_⟩
  rw [eqv_self (pl_frs _)]
  refine ⟨fun h => (nomatch h), fun _ => ?_⟩
  refine ⟨_, rfl, ?_⟩
  dsimp only
  refine ⟨_, hv, ?_⟩
  dsimp only
  rw [c4, c5]
  refine ⟨_, _, rfl, rfl, ⟨(pl_frs _).sh, (pl_frs _).sh⟩, ?_⟩
  rw [eqv_self (pl_frs _)]
  refine ⟨fun h => (nomatch h), fun _ => ?_⟩
  refine ⟨_, hv, ?_⟩
  dsimp only
  refine ⟨_, rfl, ?_⟩
  dsimp only
  rw [c2, c3]
  refine ⟨fun i acc M' => M' = M ∧ acc = ((snk bs k).take i).map fr, ⟨rfl, rfl⟩, ?_, ?_⟩
  · rintro i z acc M' hz ⟨rfl, rfl⟩
    have hi := (List.getElem?_eq_some_iff.mp hz).1
    rw [zipL_length, List.length_map, List.length_map, List.length_drop, List.length_drop] at hi
    have e1 : ((hts bs).drop (k + 1))[i]? = some (((hts bs).drop (k + 1))[i]'(by rw [List.length_drop]; omega)) := List.getElem?_eq_getElem _
    have e2 : ((hts (outOf bs k)).drop k)[i]? = some (((hts (outOf bs k)).drop k)[i]'(by rw [List.length_drop]; omega)) := List.getElem?_eq_getElem _
    rw [zipL_get (x := fr _) (y := fr _) (by rw [List.getElem?_map, e1]; rfl) (by rw [List.getElem?_map, e2]; rfl)] at hz
    cases hz
    refine ⟨rfl, fun _ => ⟨_, _, rfl, (hs _ (List.mem_of_mem_drop (List.mem_of_getElem? e1))).mono (by decide), (hs2 _ (List.mem_of_mem_drop (List.mem_of_getElem? e2))).mono (by decide), ?_, rfl, ?_⟩, fun h => (nomatch h)⟩
    · rw [List.length_map, List.length_take]; omega
    · rw [List.take_add_one, List.map_append]
      congr 1
      unfold snk
      rw [List.getElem?_zipWith, e1, e2]
      rfl
  rintro acc M' ⟨rfl, rfl⟩
  have e : (zipL (((hts bs).drop (k + 1)).map fr) (((hts (outOf bs k)).drop k).map fr)).length = (snk bs k).length := by
    unfold snk
    rw [zipL_length, List.length_map, List.length_map, List.length_zipWith]
  rw [e, List.take_length]
  refine ⟨_, _, rfl, fit_st _, fun cs j' h8' e ej hj => ?_, fun h => (by rw [h8.is] at h; cases h), fun cs h8' e hw => ?_⟩
  rotate_left
  · cases stP_inj e
    rw [isWh_lt hk] at hw
    cases hw
  cases stP_inj e
  cases ej
  refine ⟨_, _, rfl, rfl, ⟨(pl_frs _).sh, (pl_frs _).sh⟩, ?_⟩
  rw [eqv_self (pl_frs _)]
  refine ⟨fun _ => ?_, fun h => (nomatch h)⟩
  refine ⟨fun i acc M2 => M2 = M' ∧ acc = [], ⟨rfl, rfl⟩, ?_, ?_⟩
  · rintro i z acc M2 hz ⟨rfl, rfl⟩
    rw [List.getElem?_map] at hz
    obtain ⟨q, hq, rfl⟩ := Option.map_eq_some_iff.mp hz
    have hq0 := snk_nn hk q (List.mem_of_getElem? hq)
    have e0 := fr_neg hq0
    refine ⟨_, rfl, _, rfl, fun h => ?_, fun _ => ⟨rfl, rfl⟩⟩
    have h : decide (q.num < 0) = true := h
    rw [e0] at h
    cases h
  · rintro acc M2 ⟨rfl, rfl⟩
    exact ⟨_, _, rfl, rfl, ⟨rfl, rfl⟩, sameQ kq⟩
theorem Sub.free {M M1 : DM} {p : Addr} (s : Sub M M1) (h : M1 p = none) : M p = none := by
  cases e : M p with
  | none => rfl
  | some o => rw [s p o e] at h; cases h
theorem cutD_takeA {α : Type} (xs : List α) (k : Nat) : cutD xs none (some (k : Int)) = xs.take k := by
  unfold cutD
  rw [HT.sIx_nat]
  simp [HT.sIx]
theorem cutD_m1 {α : Type} (xs : List α) : cutD xs none (some (-1)) = xs.take (xs.length - 1) := by
  unfold cutD
  have e : HT.sIx xs.length xs.length (some (-1)) = xs.length - 1 := by
    unfold HT.sIx
    dsimp only
    split <;> omega
  rw [e]
  simp [HT.sIx]
theorem St8.no {bs : List Bowl} (h8 : St8 bs) {P : Prop} (h : isSt (stP bs) 8 = false) : P := by rw [h8.is] at h; cases h
theorem isWh_no {bs cs : List Bowl} {j : Nat} (hj : j < bs.length) (e : stP bs = stP cs) (h : isWh (.int (j : Nat)) 0 ((cs.length : Nat) - 1) = false) {P : Prop} : P := by cases stP_inj e; rw [isWh_lt hj] at h; cases h
theorem pl_hldA (ws : List Rat) (f : Rat) : Pl 2 (.list (hldA ws f)) := Pl.lst fun y hy => by
  unfold hldA at hy
  obtain ⟨z, _, rfl⟩ := List.mem_map.mp hy
  exact pl_int _
theorem pl_hld (bs : List Bowl) : Pl 3 (.list (hld bs)) := Pl.lst fun y hy => by
  unfold hld at hy
  obtain ⟨z, _, rfl⟩ := List.mem_map.mp hy
  exact pl_hldA _ _
theorem pl_stack : Pl 1 (.str "stack") := ⟨by decide +kernel, by decide +kernel⟩
theorem pl_place : Pl 1 (.str "place") := ⟨by decide +kernel, by decide +kernel⟩
theorem pl_non : Pl 1 .none := ⟨rfl, by simp [PyData.depth]⟩
theorem eqvAll_long (y : PyData) : ∀ xs : List PyData, PyData.eqvAll xs (xs ++ [y]) = false
  | [] => rfl
  | x :: r => by
    rw [List.cons_append, PyData.eqvAll, eqvAll_long y r, Bool.and_false]
abbrev oddP (bs : List Bowl) (b : Bowl) : List PyData := [.tuple [], .list (bs.map Bowl.p), .tuple (cutD (List.replicate 9 (bs.map Bowl.p)).flatten none (some 9)), .tuple (bs.map Bowl.p ++ [.none]), .none, .tuple [.tuple [.int 1, .int 1, .int 1]], b.p]
theorem isSt_long {xs : List PyData} (h : 8 < xs.length) : isSt (.tuple xs) 8 = false := by
  unfold isSt
  dsimp only
  rw [show decide (((xs.length : Nat) : Int) ≤ 8) = false from by rw [decide_eq_false_iff_not]; omega]
  simp
theorem isSt_bad {xs : List PyData} {y : PyData} (hy : y ∈ xs) (h : isBw y = false) : isSt (.tuple xs) 8 = false := by
  unfold isSt
  dsimp only
  rw [show xs.all isBw = false from by rw [List.all_eq_false]; exact ⟨y, hy, by rw [h]; exact Bool.false_ne_true⟩]
  simp
theorem flat9 (xs : List PyData) : (List.replicate 9 xs).flatten.length = 9 * xs.length := by
  simp only [List.length_flatten, List.map_replicate, List.sum_replicate_nat]
theorem odd_ok {bs : List Bowl} (h1 : 1 ≤ bs.length) (b : Bowl) : ∀ x ∈ oddP bs b, FitS x ∧ isSt x 8 = false := by
  intro x hx
  simp only [List.mem_cons, List.not_mem_nil, or_false] at hx
  rcases hx with e | e | e | e | e | e | e
  · subst e
    exact ⟨fit_st [], rfl⟩
  · subst e
    exact ⟨(fun xs e => by cases e), rfl⟩
  · subst e
    rw [show (9 : Int) = ((9 : Nat) : Int) from rfl, cutD_takeA]
    have fl := flat9 (bs.map Bowl.p)
    rw [List.length_map] at fl
    refine ⟨fun xs e y hy => ?_, isSt_long (by rw [List.length_take, fl]; omega)⟩
    cases e
    have hy := List.mem_of_mem_take hy
    obtain ⟨l, hl, hy⟩ := List.mem_flatten.mp hy
    rw [List.eq_of_mem_replicate hl] at hy
    obtain ⟨z, _, rfl⟩ := List.mem_map.mp hy
    exact z.fit
  · subst e
    refine ⟨fun xs e y hy => ?_, isSt_bad (y := .none) (by simp) rfl⟩
    cases e
    rcases List.mem_append.mp hy with hy | hy
    · obtain ⟨z, _, rfl⟩ := List.mem_map.mp hy
      exact z.fit
    · rw [List.mem_singleton.mp hy]
      intro zs e
      cases e
  · subst e
    exact ⟨(fun xs e => by cases e), rfl⟩
  · subst e
    refine ⟨fun xs e y hy => by
      cases e
      rw [List.mem_singleton.mp hy]
      intro zs e
      cases e
      exact Nat.le_of_ble_eq_true rfl, by decide +kernel⟩
  · subst e
    refine ⟨fun xs e y hy => ?_, isSt_bad (y := .int b.b) List.mem_cons_self rfl⟩
    cases e
    simp only [List.mem_cons, List.not_mem_nil, or_false] at hy
    rcases hy with e | e | e <;> (subst e; intro zs e; cases e)
abbrev noPl (n : Nat) : List PyData := [.int (-1), .int (n : Nat), .none, .bool true, .str "0"]
theorem noPl_ok {n : Nat} : ∀ y ∈ noPl n, isWh y 0 ((n : Nat) - 1) = false := by
  intro y hy
  simp only [List.mem_cons, List.not_mem_nil, or_false] at hy
  rcases hy with e | e | e | e | e
  · subst e
    simp [isWh]
  · subst e
    simp only [isWh, Bool.and_eq_false_iff, decide_eq_false_iff_not]
    omega
  · subst e; rfl
  · subst e; rfl
  · subst e; rfl
/-- what the one but the last tells, the same beneath -/
theorem tst3 {c q : Addr} {bs : List Bowl} (h8 : St8 bs) {M : DM} (hq : M q = some (.lst ((hts bs).map fr))) {x0 x1 x2 x5 x6 x7 x8 x9 : Option D} {Kt : Bool → DM → Prop} (k : Kt false M) :
    dTst (dNe (dFrz (dCall (sp_heights c) X0 [(dIf (dTst (dGt (dCB rdLen [(tVarD 3)]) (tCD (.d (.int 1))))) (dSl (tVarD 3) dNoPart (dPart (dUn rdNeg (tCD (.d (.int 1)))))) (tVarD 3))])) (dSl (tVarD 4) dNoPart (dPart (dCB rdMax [(tCD (.d (.int 1))), (dSub (dCB rdLen [(tVarD 3)]) (tCD (.d (.int 1))))]))))
      [x0, x1, x2, some (.d (stP bs)), some (.ref q), x5, x6, x7, x8, x9] M Kt := by
  have hl1 := h8.l1
  have hl8 := h8.l8
  have hlh := hts_length bs
  have e0 : ((bs.map Bowl.p).length : Nat) = bs.length := List.length_map _
  have emax : max (1 : Int) (((bs.map Bowl.p).length : Nat) - 1) = ((max 1 (bs.length - 1) : Nat) : Int) := by rw [e0]; omega
  refine ⟨_, rfl, fun h => ?_, fun h => ?_⟩
  · have h : decide ((1 : Int) < (((bs.map Bowl.p).length : Nat) : Int)) = true := h
    have h := of_decide_eq_true h
    rw [e0] at h
    have hm : max 1 (bs.length - 1) = bs.length - 1 := by omega
    refine ⟨_, rfl, ?_⟩
    dsimp only
    rw [show cutD (bs.map Bowl.p) none (some (-1)) = (bs.take (bs.length - 1)).map Bowl.p by rw [cutD_map, cutD_m1]]
    have h8' : St8 (bs.take (bs.length - 1)) := ⟨fun b hb => h8.ok b (List.mem_of_mem_take hb), by rw [List.length_take]; omega, by rw [List.length_take]; omega⟩
    refine ⟨_, rfl, fit_st _, fun cs _ e => ?_, fun h => h8'.no h⟩
    cases stP_inj e
    refine fun p hp => ⟨_, M, put_same, Sub.rfl'.put hp, hp, ?_⟩
    refine ⟨_, rfl, ?_⟩
    refine ⟨_, ⟨_, hq, rfl⟩, ?_⟩
    dsimp only
    rw [show (max (1 : Int) ((((bs.map Bowl.p).length : Nat) : Int) - 1)) = ((max 1 (bs.length - 1) : Nat) : Int) from emax, cutD_takeA, hm, hts_pre (by omega), List.map_take]
    refine ⟨_, _, rfl, rfl, ⟨?_, ?_⟩, ?_⟩
    · rw [← List.map_take]; exact (pl_frs _).sh
    · rw [← List.map_take]; exact (pl_frs _).sh
    · rw [← List.map_take, eqv_self (pl_frs _)]
      exact k
  · have h : decide ((1 : Int) < (((bs.map Bowl.p).length : Nat) : Int)) = false := h
    have h := of_decide_eq_false h
    rw [e0] at h
    have hm : max 1 (bs.length - 1) = bs.length := by omega
    refine ⟨_, rfl, fit_st _, fun cs _ e => ?_, fun h => h8.no h⟩
    cases stP_inj e
    refine fun p hp => ⟨_, M, put_same, Sub.rfl'.put hp, hp, ?_⟩
    refine ⟨_, rfl, ?_⟩
    refine ⟨_, ⟨_, hq, rfl⟩, ?_⟩
    dsimp only
    rw [show (max (1 : Int) ((((bs.map Bowl.p).length : Nat) : Int) - 1)) = ((max 1 (bs.length - 1) : Nat) : Int) from emax, cutD_takeA, hm, ← List.map_take, List.take_of_length_le (by omega)]
    refine ⟨_, _, rfl, rfl, ⟨(pl_frs _).sh, (pl_frs _).sh⟩, ?_⟩
    rw [eqv_self (pl_frs _)]
    exact k
def b3 : List Bowl := [⟨2, 6, 4⟩, ⟨3, 5, 1⟩, ⟨5, 9, 8⟩]
theorem b3_8 : St8 b3 := ⟨fun b hb => by
  simp only [b3, List.mem_cons, List.not_mem_nil, or_false] at hb
  rcases hb with e | e | e <;> (subst e; exact ⟨by decide, by decide, by decide, by decide, by decide⟩), by decide, by decide⟩
theorem b3_h : hts b3 = [0, 2, 3] := by decide +kernel
theorem b3_g : hgh b3 = 11 := by decide +kernel
theorem b3_s : snk b3 0 = [2, 2] := by decide +kernel
theorem b3_l : hts (outOf b3 1) = [0, 3] := by decide +kernel
def hldN (ws : List Rat) (f : Rat) : List Nat := (ws.zipIdx.filter fun z => decide (z.1 = f)).map (·.2)
theorem hldA_N (ws : List Rat) (f : Rat) : hldA ws f = (hldN ws f).map fun (n : Nat) => PyData.int n := by
  unfold hldA hldN
  rw [List.map_map]
  rfl
theorem b3_d : hld b3 = [.list [], .list [.int 0], .list [.int 0, .int 1]] := by
  have e : ((List.range b3.length).map fun n => hldN (wnt b3 ((hts b3).take n) (b3.getD n dB)) ((hts b3).getD n 0)) = [[], [0], [0, 1]] := by decide +kernel
  have e2 : hld b3 = (((List.range b3.length).map fun n => hldN (wnt b3 ((hts b3).take n) (b3.getD n dB)) ((hts b3).getD n 0)).map fun l => PyData.list (l.map fun (n : Nat) => PyData.int n)) := by
    unfold hld
    rw [List.map_map]
    refine List.map_congr_left fun n _ => ?_
    rw [hldA_N]
    rfl
  rw [e2, e]
  rfl
theorem rd_law {wd : Wrd} {c c' : Addr} (hwS : (c, ("stack" : Str)) ∈ wd) (hwP : (c', ("place" : Str)) ∈ wd) {ds M Q E'} (h : sp_law ds M Q E') : t_law wd c c' (fnEnds Q) (startD n_law ds) M := by
  obtain ⟨ns, rfl, hn, kq⟩ := h
  refine ⟨_, rfl, ⟨by simp; omega, by simp; omega⟩, ?_⟩
  refine ⟨fun i ρ M' => ∃ x1 x2 x3 x4 x5 x6 x7 x8 x9, ρ = [some (.scr ns), x1, x2, x3, x4, x5, x6, x7, x8, x9] ∧ Sub M M', ⟨_, _, _, _, _, _, _, _, _, rfl, Sub.rfl'⟩, ?_, ?_⟩
  · rintro i z ρ M' hz ⟨x1, x2, x3, x4, x5, x6, x7, x8, x9, rfl, hM⟩
    obtain ⟨hi, rfl⟩ := rgL_get hz
    simp only [List.length_map] at hi
    refine ⟨ns, _, rfl, by omega, by omega, fun p w hw hp => ?_⟩
    have hpM := hM.free hp
    refine ⟨p, w, 8, rfl, put_same, hw, by decide, by decide, fun w1 bs hw1 hne hl hok => ?_⟩
    rw [put_put]
    have ho : OkL bs := hok
    have hl1 : 1 ≤ bs.length := List.length_pos_iff.mpr hne
    have hl8 : bs.length ≤ 8 := by omega
    have h8 : St8 bs := ⟨ho, hl1, hl8⟩
    have hlh := hts_length bs
    have hhl : (hld bs).length = bs.length := by unfold hld; simp
    have Sb : Sub M (put M' p (.lst w1)) := hM.put hp
    generalize put M' p (.lst w1) = M1 at Sb ⊢
    refine ⟨_, rfl, fit_st _, fun cs _ e => ?_, fun h => St8.no h8 h⟩
    cases stP_inj e
    refine fun q hq => ?_
    have hqM := Sb.free hq
    -- as the law tells it
    refine ⟨bs, rfl, ho, by omega, _, _, ⟨_, put_same, rfl⟩, rfl, ⟨(pl_frs _).sh, (pl_frs _).sh⟩, ?_⟩
    rw [eqv_self (pl_frs _)]
    refine ⟨fun h => (nomatch h), fun _ => ?_⟩
    refine ⟨_, rfl, fit_st _, fun cs _ e => ?_, fun h => St8.no h8 h⟩
    cases stP_inj e
    refine ⟨bs, rfl, ho, by omega, _, _, rfl, rfl, ⟨(pl_fr _).sh, (pl_fr _).sh⟩, ?_⟩
    rw [eqv_self (pl_fr _)]
    refine ⟨fun h => (nomatch h), fun _ => ?_⟩
    -- by whom each is held
    refine ⟨_, rfl, fit_st _, fun cs _ e => ?_, fun h => St8.no h8 h⟩
    cases stP_inj e
    refine fun r hr => ⟨_, put M1 q (.lst ((hts bs).map fr)), put_same, Sub.rfl'.put hr, hr, bs, .ref q, rfl, ⟨_, put_same, rfl⟩, h8, _, _, rfl, rfl, ⟨(pl_hld _).sh, (pl_hld _).sh⟩, ?_⟩
    rw [eqv_self (pl_hld _)]
    refine ⟨fun h => (nomatch h), fun _ => ?_⟩
    -- what is set on
    refine tst3 h8 put_same ⟨fun h => (nomatch h), fun _ => ?_⟩
    -- drawn out
    refine ⟨_, rfl, ⟨by show -(2 ^ 62) ≤ (((bs.map Bowl.p).length : Nat) : Int); omega, by show (((bs.map Bowl.p).length : Nat) : Int) < 2 ^ 62; rw [List.length_map]; omega⟩, ?_⟩
    refine ⟨fun j acc M2 => M2 = put M1 q (.lst ((hts bs).map fr)) ∧ acc = [], ⟨rfl, rfl⟩, ?_, ?_⟩
    · rintro j z acc M2 hz ⟨rfl, rfl⟩
      obtain ⟨hj, rfl⟩ := rgL_get hz
      have hj : j < bs.length := by simpa using hj
      refine ⟨bs, .ref q, j, by
        show [D.d _, D.ref q, D.d (.int ((0 : Int) + (j : Nat)))] = _
        rw [Int.zero_add], ⟨_, put_same, rfl⟩, h8, hj, ?_⟩
      exact ⟨fun h => (nomatch h), fun _ => ⟨rfl, rfl⟩⟩
    rintro acc M2 ⟨rfl, rfl⟩
    refine ⟨_, _, rfl, rfl, ⟨rfl, rfl⟩, ⟨fun h => (nomatch h), fun _ => ?_⟩⟩
    -- odd things
    have hbne : bs.map Bowl.p ≠ [] := by
      intro e
      have h0 : (bs.map Bowl.p).length = 0 := by rw [e]; rfl
      rw [List.length_map] at h0
      omega
    have hb0 := ho.get (show 0 < bs.length by omega)
    refine ⟨_, rfl, ⟨hbne, by decide, by decide, by rw [List.length_map]; omega⟩, _, rfl, by rw [List.length_map]; show _ + 1 ≤ 1000; omega, _, rfl, (bs.getD 0 dB).p, by
      show ixD _ ((0 : Nat) : Int) = _
      rw [ixD_lt]; rw [List.getElem?_map, hb0.2]; rfl, ?_⟩
    refine ⟨fun j ρ M2 => ∃ y7, ρ = [some (.scr ns), some (.d (.int (0 + (i : Nat)))), some (.ref p), some (.d (stP bs)), some (.ref q), x5, some (.d (.list (oddP bs (bs.getD 0 dB)))), y7, x8, x9] ∧ M2 = put M1 q (.lst ((hts bs).map fr)), ⟨_, rfl, rfl⟩, ?_, ?_⟩
    · rintro j z ρ M2 hz ⟨y7, rfl, rfl⟩
      have hz : (oddP bs (bs.getD 0 dB))[j]? = some z := hz
      obtain ⟨f1, f2⟩ := odd_ok hl1 _ z (List.mem_of_getElem? hz)
      refine ⟨⟨by decide, by decide⟩, fun m acc M2 => M2 = put M1 q (.lst ((hts bs).map fr)) ∧ acc = [], ⟨rfl, rfl⟩, ?_, ?_⟩
      · rintro m y acc M2 hy ⟨rfl, rfl⟩
        obtain ⟨hm, rfl⟩ := rgL_get hy
        have hm : m < 5 := hm
        refine ⟨m, z, .none, by
          show [D.d (.int ((0 : Int) + (m : Nat))), _, _] = _
          rw [Int.zero_add], hm, f1, .inl ⟨f2, hwS, _, _, rfl, rfl, ⟨pl_stack.sh, pl_stack.sh⟩, ?_⟩⟩
        rw [eqv_self pl_stack]
        exact ⟨fun h => (nomatch h), fun _ => ⟨rfl, rfl⟩⟩
      · rintro acc M2 ⟨rfl, rfl⟩
        exact ⟨_, _, rfl, rfl, ⟨rfl, rfl⟩, ⟨fun h => (nomatch h), fun _ => ⟨_, rfl, rfl⟩⟩⟩
    rintro ρ M2 ⟨y7, rfl, rfl⟩
    -- no places
    refine ⟨_, rfl, fun j ρ M2 => ∃ y5, ρ = [some (.scr ns), some (.d (.int (0 + (i : Nat)))), some (.ref p), some (.d (stP bs)), some (.ref q), y5, some (.d (.list (oddP bs (bs.getD 0 dB)))), y7, x8, x9] ∧ M2 = put M1 q (.lst ((hts bs).map fr)), ⟨_, rfl, rfl⟩, ?_, ?_⟩
    · rintro j z ρ M2 hz ⟨y5, rfl, rfl⟩
      have hz : (noPl (bs.map Bowl.p).length)[j]? = some z := hz
      rw [List.length_map] at hz
      have f2 := noPl_ok z (List.mem_of_getElem? hz)
      refine ⟨3, stP bs, z, rfl, by decide, fit_st _, .inr ⟨by decide, bs, h8, rfl, f2, hwP, _, _, rfl, rfl, ⟨pl_place.sh, pl_place.sh⟩, ?_⟩⟩
      rw [eqv_self pl_place]
      refine ⟨fun h => (nomatch h), fun _ => ?_⟩
      refine ⟨4, stP bs, z, rfl, by decide, fit_st _, .inr ⟨by decide, bs, h8, rfl, f2, hwP, _, _, rfl, rfl, ⟨pl_place.sh, pl_place.sh⟩, ?_⟩⟩
      rw [eqv_self pl_place]
      refine ⟨fun h => (nomatch h), fun _ => ?_⟩
      exact ⟨_, rfl, rfl⟩
    rintro ρ M2 ⟨y5, rfl, rfl⟩
    -- lists of the asker's own
    refine ⟨⟨_, put_same⟩, _, put_same, by rw [List.length_map]; omega, ?_⟩
    rw [put_put]
    refine ⟨_, rfl, fit_st _, fun cs _ e => ?_, fun h => St8.no h8 h⟩
    cases stP_inj e
    refine fun r hr => ⟨⟨_, put_same⟩, _, put_same, by omega, ?_⟩
    rw [put_put]
    have hrq : q ≠ r := fun z => by subst z; rw [put_same] at hr; cases hr
    have Sb2 : Sub M (put (put M1 q (.lst ((hts bs).map fr ++ [PyData.none]))) r (.lst (hld bs ++ [PyData.none]))) := (Sb.put hq).put hr
    have hq2 : put (put M1 q (.lst ((hts bs).map fr ++ [PyData.none]))) r (.lst (hld bs ++ [PyData.none])) q = some (.lst ((hts bs).map fr ++ [PyData.none])) := by
      rw [put_ne hrq, put_same]
    generalize put (put M1 q (.lst ((hts bs).map fr ++ [PyData.none]))) r (.lst (hld bs ++ [PyData.none])) = M2 at Sb2 hq2 ⊢
    refine ⟨_, rfl, fit_st _, fun cs _ e => ?_, fun h => St8.no h8 h⟩
    cases stP_inj e
    refine fun s hs => ⟨_, M2, put_same, Sub.rfl'.put hs, hs, _, _, rfl, ⟨_, hq2, rfl⟩, ⟨(pl_frs _).sh, (Pl.lst (n := 3) fun y hy => ?_).sh⟩, ?_⟩
    · rcases List.mem_append.mp hy with hy | hy
      · exact pl_map pl_fr _ y hy
      · rw [List.mem_singleton.mp hy]; exact pl_non.mono (by decide)
    rw [show PyData.eqv (.list ((hts bs).map fr)) (.list ((hts bs).map fr ++ [PyData.none])) = false from eqvAll_long _ _]
    refine ⟨fun h => (nomatch h), fun _ => ?_⟩
    refine ⟨_, rfl, fit_st _, fun cs _ e => ?_, fun h => St8.no h8 h⟩
    cases stP_inj e
    refine fun s hs => ⟨_, M2, put_same, Sub.rfl'.put hs, hs, bs, rfl, ho, by omega, bs, .d (.list ((hts bs).map fr)), rfl, rfl, h8, _, _, rfl, rfl, ⟨(pl_hld _).sh, (pl_hld _).sh⟩, ?_⟩
    rw [eqv_self (pl_hld _)]
    exact ⟨fun h => (nomatch h), fun _ => ⟨_, _, _, _, _, _, _, _, _, rfl, Sb2⟩⟩
  · rintro ρ M' ⟨x1, x2, x3, x4, x5, x6, x7, x8, x9, rfl, hM⟩
    refine ⟨_, rfl, fit_st b3, fun cs _ e => ?_, fun h => St8.no b3_8 h⟩
    have e : stP b3 = stP cs := e
    cases stP_inj e
    refine fun p hp => ⟨_, M', put_same, Sub.rfl'.put hp, hp, _, _, rfl, rfl, ⟨(pl_frs _).sh, rfl⟩, ?_⟩
    rw [b3_h]
    refine ⟨fun h => absurd h (by decide +kernel), fun _ => ?_⟩
    refine ⟨_, rfl, fit_st b3, fun cs _ e => ?_, fun h => St8.no b3_8 h⟩
    have e : stP b3 = stP cs := e
    cases stP_inj e
    refine ⟨_, _, rfl, rfl, ⟨(pl_fr _).sh, rfl⟩, ?_⟩
    rw [b3_g]
    refine ⟨fun h => absurd h (by decide +kernel), fun _ => ?_⟩
    refine ⟨_, rfl, fit_st b3, fun cs _ e => ?_, fun h => St8.no b3_8 h⟩
    have e : stP b3 = stP cs := e
    cases stP_inj e
    refine fun p hp => ⟨_, M', put_same, Sub.rfl'.put hp, hp, _, _, rfl, rfl, ⟨(pl_hld _).sh, rfl⟩, ?_⟩
    rw [b3_d]
    refine ⟨fun h => absurd h (by decide +kernel), fun _ => ?_⟩
    refine ⟨_, _, rfl, fit_st b3, fun cs i _ e ei _ => ?_, fun h => St8.no b3_8 h, fun cs _ e h => isWh_no (bs := b3) (j := 0) (by decide) e h⟩
    have e : stP b3 = stP cs := e
    cases stP_inj e
    have ei : PyData.int ((0 : Nat) : Int) = .int (i : Nat) := ei
    cases (show (0 : Nat) = i from by injection ei with ei; exact Int.ofNat.inj ei)
    refine ⟨_, _, rfl, rfl, ⟨(pl_frs _).sh, rfl⟩, ?_⟩
    rw [b3_s]
    refine ⟨fun _ => ?_, fun h => absurd h (by decide +kernel)⟩
    refine ⟨_, _, rfl, fit_st b3, fun cs i _ e ei _ => ?_, fun h => St8.no b3_8 h, fun cs _ e h => isWh_no (bs := b3) (j := 1) (by decide) e h⟩
    have e : stP b3 = stP cs := e
    cases stP_inj e
    have ei : PyData.int ((1 : Nat) : Int) = .int (i : Nat) := ei
    cases (show (1 : Nat) = i from by injection ei with ei; exact Int.ofNat.inj ei)
    refine ⟨_, _, rfl, rfl, ⟨(pl_frs _).sh, rfl⟩, M, _, .same _ _ hM, ?_⟩
    rw [b3_l]
    have e2 : PyData.eqv (.list (([0, 3] : List Rat).map fr)) (.list [.tuple [.int 0, .int 1], .tuple [.int 3, .int 1]]) = true := by decide +kernel
    exact (show Q (.d (.bool (PyData.eqv (.list (([0, 3] : List Rat).map fr)) (.list [.tuple [.int 0, .int 1], .tuple [.int 3, .int 1]])))) M from by rw [e2]; exact kq)
end BN

/-! the defs of the text keep their promises -/
namespace BN
open PySem PySem.Spec PyProof.Rows L2
/-- what the top leaves of the built-in names and the constants -/
structure Glb (K : PySem.W.Frag) (mg : Str → Option Value) : Prop where
  len : mg "len" = none
  abs : mg "abs" = none
  min : mg "min" = none
  max : mg "max" = none
  all : mg "all" = none
  list : mg "list" = none
  tuple : mg "tuple" = none
  int : mg "int" = none
  bool : mg "bool" = none
  isinstance : mg "isinstance" = none
  range : mg "range" = none
  zip : mg "zip" = none
  enumerate : mg "enumerate" = none
  NOUGHT : Gd K mg "NOUGHT" c_NOUGHT
  MOST : Gd K mg "MOST" c_MOST
  MOST_BOWLS : Gd K mg "MOST_BOWLS" c_MOST_BOWLS
section
variable {P : Program} {w : World} {K : PySem.W.Frag} {mg : Str → Option Value} {base : Heap}
theorem passN {X : Cx} : Passes (L2N.CX X.prog X.w) X E0 := fun _ _ _ _ _ _ _ ⟨_, _, _, _, _, _, _, _, _, _, _, _, z⟩ => z.elim
theorem takesF {X : Cx} : L2N.Takes X fun _ _ _ _ => False := fun u s' ⟨_, _, _, _, _, _, _, _, _, _, _, _, _, _, _, _, w⟩ => w.elim
theorem dnever {Φ : Ph} {X : Cx} {e : Expr} : DE Φ X e (fun _ _ _ => False) := ⟨fun pins s σ H Q I ⟨_, _, _, _, h, _⟩ => h.elim⟩
def topS (i : Nat) : Stmt := PySem.Challenge.pw_bowlnest_k21_whole_stacks.main.body.getD i (.Pass ⟨0, 0, 0, 0⟩)
abbrev s_divisor : Stmt := topS 11
theorem sc_divisor : FnScope n_divisor ["one", "other"] (defScope s_divisor) := ⟨rfl, rfl, rfl, by decide +kernel, rfl, by decide +kernel, by decide +kernel⟩
theorem fc_divisor (B : Glb K mg) (h : Dn K mg "divisor" s_divisor) : Fc P w K mg base CX0 1 "divisor" sp_divisor := by
  refine fcD h sc_divisor (fun _ _ _ _ _ _ us hl => match us, hl with | [_, _], _ => rfl) (fun ds M Q E h => len_divisor h) fun f cdv A outer s H E hr => ⟨t_divisor, ?_, fun ds M Q E' h => rd_divisor h⟩
  exact (ds_cons (ds_while PassesOwn.never (dtne hr.units (dv 1) dint) (ds_one (ds_par (i := 0) (j := 1) rfl sc_divisor.nd (da_cons (dv 1) (da_cons (dmod (dv 0) (dv 1)) da_nil)))))
    (ds_one (ds_ret (dv 0))))
abbrev s_fraction : Stmt := topS 12
theorem sc_fraction : FnScope n_fraction ["top", "bottom"] (defScope s_fraction) := ⟨rfl, rfl, rfl, by decide +kernel, rfl, by decide +kernel, by decide +kernel⟩
theorem fc_fraction (B : Glb K mg) (h : Dn K mg "fraction" s_fraction) (g_divisor : Fc P w K mg base CX0 1 "divisor" sp_divisor) : Fc P w K mg base CX0 2 "fraction" sp_fraction := by
  refine fcD h sc_fraction (fun _ _ _ _ _ _ us hl => match us, hl with | [_, _], _ => rfl) (fun ds M Q E h => len_fraction h) fun f cdv A outer s H E hr => ⟨t_fraction, ?_, fun ds M Q E' h => rd_fraction h⟩
  exact (ds_cons (ds_set (i := 2) sc_fraction.nd (dmul (dcall g_divisor hr (by decide) (da_cons (dabs B.abs (da_cons (dv 0) da_nil)) (da_cons (dabs B.abs (da_cons (dv 1) da_nil)) da_nil)) pass0) (dif (dtgt (dv 1) dint) dint (dneg dint))))
    (ds_one (ds_ret (dtup (da_cons (dfdiv (dv 0) (dv 2)) (da_cons (dfdiv (dv 1) (dv 2)) da_nil))))))
abbrev s_plus : Stmt := topS 13
theorem sc_plus : FnScope n_plus ["one", "other"] (defScope s_plus) := ⟨rfl, rfl, rfl, by decide +kernel, rfl, by decide +kernel, by decide +kernel⟩
theorem fc_plus (B : Glb K mg) (h : Dn K mg "plus" s_plus) (g_fraction : Fc P w K mg base CX0 2 "fraction" sp_fraction) : Fc P w K mg base CX0 3 "plus" sp_plus := by
  refine fcD h sc_plus (fun _ _ _ _ _ _ us hl => match us, hl with | [_, _], _ => rfl) (fun ds M Q E h => len_plus h) fun f cdv A outer s H E hr => ⟨t_plus, ?_, fun ds M Q E' h => rd_plus h⟩
  exact (ds_one (ds_ret (dcall g_fraction hr (by decide) (da_cons (dadd (dmul (dix (dv 0) dint) (dix (dv 1) dint)) (dmul (dix (dv 1) dint) (dix (dv 0) dint))) (da_cons (dmul (dix (dv 0) dint) (dix (dv 1) dint)) da_nil)) pass0)))
abbrev s_minus : Stmt := topS 14
theorem sc_minus : FnScope n_minus ["one", "other"] (defScope s_minus) := ⟨rfl, rfl, rfl, by decide +kernel, rfl, by decide +kernel, by decide +kernel⟩
theorem fc_minus (B : Glb K mg) (h : Dn K mg "minus" s_minus) (g_fraction : Fc P w K mg base CX0 2 "fraction" sp_fraction) : Fc P w K mg base CX0 3 "minus" sp_minus := by
  refine fcD h sc_minus (fun _ _ _ _ _ _ us hl => match us, hl with | [_, _], _ => rfl) (fun ds M Q E h => len_minus h) fun f cdv A outer s H E hr => ⟨t_minus, ?_, fun ds M Q E' h => rd_minus h⟩
  exact (ds_one (ds_ret (dcall g_fraction hr (by decide) (da_cons (dsub (dmul (dix (dv 0) dint) (dix (dv 1) dint)) (dmul (dix (dv 1) dint) (dix (dv 0) dint))) (da_cons (dmul (dix (dv 0) dint) (dix (dv 1) dint)) da_nil)) pass0)))
abbrev s_is_less : Stmt := topS 15
theorem sc_is_less : FnScope n_is_less ["one", "other"] (defScope s_is_less) := ⟨rfl, rfl, rfl, by decide +kernel, rfl, by decide +kernel, by decide +kernel⟩
theorem fc_is_less (B : Glb K mg) (h : Dn K mg "is_less" s_is_less) : Fc P w K mg base CX0 1 "is_less" sp_is_less := by
  refine fcD h sc_is_less (fun _ _ _ _ _ _ us hl => match us, hl with | [_, _], _ => rfl) (fun ds M Q E h => len_is_less h) fun f cdv A outer s H E hr => ⟨t_is_less, ?_, fun ds M Q E' h => rd_is_less h⟩
  exact (ds_one (ds_ret (dlt (dmul (dix (dv 0) dint) (dix (dv 1) dint)) (dmul (dix (dv 1) dint) (dix (dv 0) dint)))))
abbrev s_is_whole : Stmt := topS 16
theorem sc_is_whole : FnScope n_is_whole ["thing", "low", "high"] (defScope s_is_whole) := ⟨rfl, rfl, rfl, by decide +kernel, rfl, by decide +kernel, by decide +kernel⟩
theorem fc_is_whole (B : Glb K mg) (h : Dn K mg "is_whole" s_is_whole) : Fc P w K mg base CX0 1 "is_whole" sp_is_whole := by
  refine fcD h sc_is_whole (fun _ _ _ _ _ _ us hl => match us, hl with | [_, _, _], _ => rfl) (fun ds M Q E h => len_is_whole h) fun f cdv A outer s H E hr => ⟨t_is_whole, ?_, fun ds M Q E' h => rd_is_whole h⟩
  exact (ds_one (ds_ret (dandV (disi .int B.isinstance (da_cons (dv 0) (da_cons (dtyn .int B.int (by decide +kernel) rfl (by decide) (by decide)) da_nil))) (dandV (dnotV (disi .bool B.isinstance (da_cons (dv 0) (da_cons (dtyn .bool B.bool (by decide +kernel) rfl (by decide) (by decide)) da_nil)))) (done (dchle (dv 1) (dv 0) (dv 2)))))))
abbrev s_is_bowl : Stmt := topS 19
theorem sc_is_bowl : FnScope n_is_bowl ["thing"] (defScope s_is_bowl) := ⟨rfl, rfl, rfl, by decide +kernel, rfl, by decide +kernel, by decide +kernel⟩
theorem fc_is_bowl (B : Glb K mg) (h : Dn K mg "is_bowl" s_is_bowl) (g_is_whole : Fc P w K mg base CX0 1 "is_whole" sp_is_whole) : Fc P w K mg base CX0 2 "is_bowl" sp_is_bowl := by
  refine fcD h sc_is_bowl (fun _ _ _ _ _ _ us hl => match us, hl with | [_], _ => rfl) (fun ds M Q E h => len_is_bowl h) fun f cdv A outer s H E hr => ⟨t_is_bowl, ?_, fun ds M Q E' h => rd_is_bowl h⟩
  exact (ds_cons (ds_if (PW.pt (dwor (dtnot (dtest (disi .tuple B.isinstance (da_cons (dv 0) (da_cons (dtyn .tuple B.tuple (by decide +kernel) rfl (by decide) (by decide)) da_nil))))) (dwor (dtne hr.units (dlen B.len (da_cons (dv 0) da_nil)) dint) (dwor1 (dtnot (dtest (dall rfl B.all (da_cons (dlc (own := [("one", 1)]) rfl sc_is_bowl.nd (di_tup (dv 0)) (blkOk_by (N := n_is_bowl) (by kernel_rfl)) (fun _ _ _ _ _ => (dc_one sc_is_bowl.nd)) (fun _ _ _ _ _ => dts_nil) (fun _ _ _ _ _ => (dcall g_is_whole hr (by decide) (da_cons (dv 1) (da_cons dint (da_cons (dglob B.MOST) da_nil))) pass0))) da_nil)))))))) (ds_one (ds_ret dbl)) ds_nil)
    (ds_one (ds_ret (dlt (dix (dv 0) dint) (dix (dv 0) dint)))))
abbrev s_need_bowl : Stmt := topS 20
theorem sc_need_bowl : FnScope n_need_bowl ["thing"] (defScope s_need_bowl) := ⟨rfl, rfl, rfl, by decide +kernel, rfl, by decide +kernel, by decide +kernel⟩
theorem fc_need_bowl (B : Glb K mg) (h : Dn K mg "need_bowl" s_need_bowl) {c_NoBowl : Addr} (k_NoBowl : ExcK K mg "NoBowl" c_NoBowl) (g_is_bowl : Fc P w K mg base CX0 2 "is_bowl" sp_is_bowl) : Fc P w K mg base (L2N.CX P w) 3 "need_bowl" (sp_need_bowl c_NoBowl) := by
  refine fcX h sc_need_bowl (fun _ _ _ _ _ _ us hl => match us, hl with | [_], _ => rfl) (fun ds M Q E h => len_need_bowl h) fun f cdv A outer s H E E' Φ hr kx => ⟨t_need_bowl c_NoBowl E', ?_, fun ds M Q h => rd_need_bowl (E' := E') h⟩
  exact (ds_one (ds_if (dtnot (dtest (dcall g_is_bowl hr (by decide) (da_cons (dv 0) da_nil) pass0))) (ds_one (ds_raise k_NoBowl rfl (L2N.takes_of rfl rfl rfl rfl) kx)) ds_nil))
abbrev s_greatest : Stmt := topS 21
theorem sc_greatest : FnScope n_greatest ["some"] (defScope s_greatest) := ⟨rfl, rfl, rfl, by decide +kernel, rfl, by decide +kernel, by decide +kernel⟩
theorem fc_greatest (B : Glb K mg) (h : Dn K mg "greatest" s_greatest) (g_is_less : Fc P w K mg base CX0 1 "is_less" sp_is_less) : Fc P w K mg base CX0 2 "greatest" sp_greatest := by
  refine fcD h sc_greatest (fun _ _ _ _ _ _ us hl => match us, hl with | [_], _ => rfl) (fun ds M Q E h => len_greatest h) fun f cdv A outer s H E hr => ⟨t_greatest, ?_, fun ds M Q E' h => rd_greatest h⟩
  exact (ds_cons (ds_set (i := 1) sc_greatest.nd (dix (dv 0) dint))
    (ds_cons (ds_for PassesOwn.never rfl (di_list (dv 0)) (dg_name (i := 2) sc_greatest.nd)
    (ds_one (ds_set (i := 1) sc_greatest.nd (dif (dtest (dcall g_is_less hr (by decide) (da_cons (dv 1) (da_cons (dv 2) da_nil)) pass0)) (dv 2) (dv 1)))))
    (ds_one (ds_ret (dv 1)))))
abbrev s_rest_of : Stmt := topS 22
theorem sc_rest_of : FnScope n_rest_of ["one", "other"] (defScope s_rest_of) := ⟨rfl, rfl, rfl, by decide +kernel, rfl, by decide +kernel, by decide +kernel⟩
theorem fc_rest_of (B : Glb K mg) (h : Dn K mg "rest_of" s_rest_of) (g_greatest : Fc P w K mg base CX0 2 "greatest" sp_greatest) (g_fraction : Fc P w K mg base CX0 2 "fraction" sp_fraction) (g_minus : Fc P w K mg base CX0 3 "minus" sp_minus) : Fc P w K mg base CX0 4 "rest_of" sp_rest_of := by
  refine fcD h sc_rest_of (fun _ _ _ _ _ _ us hl => match us, hl with | [_, _], _ => rfl) (fun ds M Q E h => len_rest_of h) fun f cdv A outer s H E hr => ⟨t_rest_of, ?_, fun ds M Q E' h => rd_rest_of h⟩
  exact (ds_cons (ds_asg (dv 0) (dg_tup rfl (dgs_cons (i := 2) sc_rest_of.nd (dgs_cons (i := 3) sc_rest_of.nd (dgs_cons (i := 4) sc_rest_of.nd dgs_nil)))))
    (ds_cons (ds_asg (dv 1) (dg_tup rfl (dgs_cons (i := 5) sc_rest_of.nd (dgs_cons (i := 6) sc_rest_of.nd (dgs_cons (i := 7) sc_rest_of.nd dgs_nil)))))
    (ds_cons (ds_if (dtge (dv 5) (dv 3)) (ds_one (ds_ret (dtup (da_cons (dv 4) (da_cons dint da_nil))))) ds_nil)
    (ds_cons (ds_set (i := 8) sc_rest_of.nd (dlstM (da_cons (dglob B.NOUGHT) (da_cons (dcall g_fraction hr (by decide) (da_cons (dmul (dv 4) (dsub (dv 5) (dv 2))) (da_cons (dsub (dv 3) (dv 2)) da_nil)) pass0) da_nil))))
    (ds_cons (ds_if (dtle (dv 6) (dv 3)) (ds_one (ds_expr (dapp (dv 8) (dcall g_minus hr (by decide) (da_cons (dcall g_fraction hr (by decide) (da_cons (dmul (dv 4) (dsub (dv 6) (dv 2))) (da_cons (dsub (dv 3) (dv 2)) da_nil)) pass0) (da_cons (dtup (da_cons (dv 7) (da_cons dint da_nil))) da_nil)) pass0)))) (ds_one (ds_expr (dapp (dv 8) (dcall g_minus hr (by decide) (da_cons (dtup (da_cons (dv 4) (da_cons dint da_nil))) (da_cons (dcall g_fraction hr (by decide) (da_cons (dmul (dv 7) (dsub (dv 3) (dv 5))) (da_cons (dsub (dv 6) (dv 5)) da_nil)) pass0) da_nil)) pass0)))))
    (ds_one (ds_ret (dcall g_greatest hr (by decide) (da_cons (dfrz (dv 8)) da_nil) pass0))))))))
abbrev s_rest : Stmt := topS 23
theorem sc_rest : FnScope n_rest ["one", "other"] (defScope s_rest) := ⟨rfl, rfl, rfl, by decide +kernel, rfl, by decide +kernel, by decide +kernel⟩
theorem fc_rest (B : Glb K mg) (h : Dn K mg "rest" s_rest) {c_NoBowl : Addr} (g_need_bowl : Fc P w K mg base (L2N.CX P w) 3 "need_bowl" (sp_need_bowl c_NoBowl)) (g_rest_of : Fc P w K mg base CX0 4 "rest_of" sp_rest_of) : Fc P w K mg base (L2N.CX P w) 5 "rest" (sp_rest c_NoBowl) := by
  refine fcX h sc_rest (fun _ _ _ _ _ _ us hl => match us, hl with | [_, _], _ => rfl) (fun ds M Q E h => len_rest h) fun f cdv A outer s H E E' Φ hr kx => ⟨t_rest c_NoBowl E', ?_, fun ds M Q h => rd_rest (E' := E') h⟩
  exact (ds_cons (ds_expr (dcallX g_need_bowl hr (by decide) (da_cons (dv 0) da_nil) (L2N.passes_call (L2N.takes_of rfl rfl rfl rfl) fun _ _ _ _ h => h) kx))
    (ds_cons (ds_expr (dcallX g_need_bowl hr (by decide) (da_cons (dv 1) da_nil) (L2N.passes_call (L2N.takes_of rfl rfl rfl rfl) fun _ _ _ _ h => h) kx))
    (ds_one (ds_ret (dcall g_rest_of hr (by decide) (da_cons (dv 0) (da_cons (dv 1) da_nil)) pass0)))))
abbrev s_is_stack : Stmt := topS 26
theorem sc_is_stack : FnScope n_is_stack ["thing", "most"] (defScope s_is_stack) := ⟨rfl, rfl, rfl, by decide +kernel, rfl, by decide +kernel, by decide +kernel⟩
theorem fc_is_stack (B : Glb K mg) (h : Dn K mg "is_stack" s_is_stack) (g_is_bowl : Fc P w K mg base CX0 2 "is_bowl" sp_is_bowl) : Fc P w K mg base CX0 3 "is_stack" sp_is_stack := by
  refine fcD h sc_is_stack (fun _ _ _ _ _ _ us hl => match us, hl with | [_, _], _ => rfl) (fun ds M Q E h => len_is_stack h) fun f cdv A outer s H E hr => ⟨t_is_stack, ?_, fun ds M Q E' h => rd_is_stack h⟩
  exact (ds_one (ds_ret (dandV (disi .tuple B.isinstance (da_cons (dv 0) (da_cons (dtyn .tuple B.tuple (by decide +kernel) rfl (by decide) (by decide)) da_nil))) (dandV (dchle dint (dlen B.len (da_cons (dv 0) da_nil)) (dv 1)) (done (dall rfl B.all (da_cons (dlc (own := [("one", 2)]) rfl sc_is_stack.nd (di_tup (dv 0)) (blkOk_by (N := n_is_stack) (by kernel_rfl)) (fun _ _ _ _ _ => (dc_one sc_is_stack.nd)) (fun _ _ _ _ _ => dts_nil) (fun _ _ _ _ _ => (dcall g_is_bowl hr (by decide) (da_cons (dv 2) da_nil) pass0))) da_nil)))))))
abbrev s_need_stack : Stmt := topS 27
theorem sc_need_stack : FnScope n_need_stack ["stack"] (defScope s_need_stack) := ⟨rfl, rfl, rfl, by decide +kernel, rfl, by decide +kernel, by decide +kernel⟩
theorem fc_need_stack (B : Glb K mg) (h : Dn K mg "need_stack" s_need_stack) {c_NoStack : Addr} (k_NoStack : ExcK K mg "NoStack" c_NoStack) (g_is_stack : Fc P w K mg base CX0 3 "is_stack" sp_is_stack) : Fc P w K mg base (L2N.CX P w) 4 "need_stack" (sp_need_stack c_NoStack) := by
  refine fcX h sc_need_stack (fun _ _ _ _ _ _ us hl => match us, hl with | [_], _ => rfl) (fun ds M Q E h => len_need_stack h) fun f cdv A outer s H E E' Φ hr kx => ⟨t_need_stack c_NoStack E', ?_, fun ds M Q h => rd_need_stack (E' := E') h⟩
  exact (ds_one (ds_if (dtnot (dtest (dcall g_is_stack hr (by decide) (da_cons (dv 0) (da_cons (dglob B.MOST_BOWLS) da_nil)) pass0))) (ds_one (ds_raise k_NoStack rfl (L2N.takes_of rfl rfl rfl rfl) kx)) ds_nil))
abbrev s_wants : Stmt := topS 28
theorem sc_wants : FnScope n_wants ["stack", "found", "at"] (defScope s_wants) := ⟨rfl, rfl, rfl, by decide +kernel, rfl, by decide +kernel, by decide +kernel⟩
theorem fc_wants (B : Glb K mg) (h : Dn K mg "wants" s_wants) (g_plus : Fc P w K mg base CX0 3 "plus" sp_plus) (g_rest_of : Fc P w K mg base CX0 4 "rest_of" sp_rest_of) : Fc P w K mg base CX0 5 "wants" sp_wants := by
  refine fcD h sc_wants (fun _ _ _ _ _ _ us hl => match us, hl with | [_, _, _], _ => rfl) (fun ds M Q E h => len_wants h) fun f cdv A outer s H E hr => ⟨t_wants, ?_, fun ds M Q E' h => rd_wants h⟩
  exact (ds_one (ds_ret (dlc (own := [("to", 3)]) rfl sc_wants.nd (di_range1 B.range (da_cons (dv 2) da_nil)) (blkOk_by (N := n_wants) (by kernel_rfl)) (fun _ _ _ _ _ => (dc_one sc_wants.nd)) (fun _ _ _ _ _ => dts_nil) (fun _ _ _ _ _ => (dcall g_plus hr (by decide) (da_cons (dix (dv 1) (dv 3)) (da_cons (dcall g_rest_of hr (by decide) (da_cons (dix (dv 0) (dv 3)) (da_cons (dix (dv 0) (dv 2)) da_nil)) pass0) da_nil)) pass0)))))
abbrev s_heights_of : Stmt := topS 29
theorem sc_heights_of : FnScope n_heights_of ["stack"] (defScope s_heights_of) := ⟨rfl, rfl, rfl, by decide +kernel, rfl, by decide +kernel, by decide +kernel⟩
theorem fc_heights_of (B : Glb K mg) (h : Dn K mg "heights_of" s_heights_of) (g_greatest : Fc P w K mg base CX0 2 "greatest" sp_greatest) (g_wants : Fc P w K mg base CX0 5 "wants" sp_wants) : Fc P w K mg base CX0 6 "heights_of" sp_heights_of := by
  refine fcD h sc_heights_of (fun _ _ _ _ _ _ us hl => match us, hl with | [_], _ => rfl) (fun ds M Q E h => len_heights_of h) fun f cdv A outer s H E hr => ⟨t_heights_of, ?_, fun ds M Q E' h => rd_heights_of h⟩
  exact (ds_cons (ds_set (i := 1) sc_heights_of.nd (dlstM da_nil))
    (ds_cons (ds_for PassesOwn.never rfl (di_range1 B.range (da_cons (dlen B.len (da_cons (dv 0) da_nil)) da_nil)) (dg_name (i := 2) sc_heights_of.nd)
    (ds_one (ds_expr (dapp (dv 1) (dcall g_greatest hr (by decide) (da_cons (dadd (dlst (da_cons (dglob B.NOUGHT) da_nil)) (dcall g_wants hr (by decide) (da_cons (dv 0) (da_cons (dv 1) (da_cons (dv 2) da_nil))) pass0)) da_nil) pass0)))))
    (ds_one (ds_ret (dv 1)))))
abbrev s_heights : Stmt := topS 30
theorem sc_heights : FnScope n_heights ["stack"] (defScope s_heights) := ⟨rfl, rfl, rfl, by decide +kernel, rfl, by decide +kernel, by decide +kernel⟩
theorem fc_heights (B : Glb K mg) (h : Dn K mg "heights" s_heights) {c_NoStack : Addr} (g_need_stack : Fc P w K mg base (L2N.CX P w) 4 "need_stack" (sp_need_stack c_NoStack)) (g_heights_of : Fc P w K mg base CX0 6 "heights_of" sp_heights_of) : Fc P w K mg base (L2N.CX P w) 7 "heights" (sp_heights c_NoStack) := by
  refine fcX h sc_heights (fun _ _ _ _ _ _ us hl => match us, hl with | [_], _ => rfl) (fun ds M Q E h => len_heights h) fun f cdv A outer s H E E' Φ hr kx => ⟨t_heights c_NoStack E', ?_, fun ds M Q h => rd_heights (E' := E') h⟩
  exact (ds_cons (ds_expr (dcallX g_need_stack hr (by decide) (da_cons (dv 0) da_nil) (L2N.passes_call (L2N.takes_of rfl rfl rfl rfl) fun _ _ _ _ h => h) kx))
    (ds_one (ds_ret (dcall g_heights_of hr (by decide) (da_cons (dv 0) da_nil) pass0))))
abbrev s_high_of : Stmt := topS 31
theorem sc_high_of : FnScope n_high_of ["stack"] (defScope s_high_of) := ⟨rfl, rfl, rfl, by decide +kernel, rfl, by decide +kernel, by decide +kernel⟩
theorem fc_high_of (B : Glb K mg) (h : Dn K mg "high_of" s_high_of) (g_greatest : Fc P w K mg base CX0 2 "greatest" sp_greatest) (g_plus : Fc P w K mg base CX0 3 "plus" sp_plus) (g_heights_of : Fc P w K mg base CX0 6 "heights_of" sp_heights_of) : Fc P w K mg base CX0 7 "high_of" sp_high_of := by
  refine fcD h sc_high_of (fun _ _ _ _ _ _ us hl => match us, hl with | [_], _ => rfl) (fun ds M Q E h => len_high_of h) fun f cdv A outer s H E hr => ⟨t_high_of, ?_, fun ds M Q E' h => rd_high_of h⟩
  exact (ds_one (ds_ret (dcall g_greatest hr (by decide) (da_cons (dadd (dlst (da_cons (dglob B.NOUGHT) da_nil)) (dlc (own := [("height", 1), ("bowl", 2)]) rfl sc_high_of.nd (di_zipM B.zip (da_cons (dfrz (dcall g_heights_of hr (by decide) (da_cons (dv 0) da_nil) pass0)) (da_cons (dv 0) da_nil))) (blkOk_by (N := n_high_of) (by kernel_rfl)) (fun _ _ _ _ _ => (dc_tup rfl (dgs_cons sc_high_of.nd (dgs_cons sc_high_of.nd dgs_nil)))) (fun _ _ _ _ _ => dts_nil) (fun _ _ _ _ _ => (dcall g_plus hr (by decide) (da_cons (dv 1) (da_cons (dtup (da_cons (dix (dv 2) dint) (da_cons dint da_nil))) da_nil)) pass0)))) da_nil) pass0)))
abbrev s_high : Stmt := topS 32
theorem sc_high : FnScope n_high ["stack"] (defScope s_high) := ⟨rfl, rfl, rfl, by decide +kernel, rfl, by decide +kernel, by decide +kernel⟩
theorem fc_high (B : Glb K mg) (h : Dn K mg "high" s_high) {c_NoStack : Addr} (g_need_stack : Fc P w K mg base (L2N.CX P w) 4 "need_stack" (sp_need_stack c_NoStack)) (g_high_of : Fc P w K mg base CX0 7 "high_of" sp_high_of) : Fc P w K mg base (L2N.CX P w) 8 "high" (sp_high c_NoStack) := by
  refine fcX h sc_high (fun _ _ _ _ _ _ us hl => match us, hl with | [_], _ => rfl) (fun ds M Q E h => len_high h) fun f cdv A outer s H E E' Φ hr kx => ⟨t_high c_NoStack E', ?_, fun ds M Q h => rd_high (E' := E') h⟩
  exact (ds_cons (ds_expr (dcallX g_need_stack hr (by decide) (da_cons (dv 0) da_nil) (L2N.passes_call (L2N.takes_of rfl rfl rfl rfl) fun _ _ _ _ h => h) kx))
    (ds_one (ds_ret (dcall g_high_of hr (by decide) (da_cons (dv 0) da_nil) pass0))))
abbrev s_held_by : Stmt := topS 33
theorem sc_held_by : FnScope n_held_by ["stack"] (defScope s_held_by) := ⟨rfl, rfl, rfl, by decide +kernel, rfl, by decide +kernel, by decide +kernel⟩
theorem fc_held_by (B : Glb K mg) (h : Dn K mg "held_by" s_held_by) {c_NoStack : Addr} (g_need_stack : Fc P w K mg base (L2N.CX P w) 4 "need_stack" (sp_need_stack c_NoStack)) (g_heights_of : Fc P w K mg base CX0 6 "heights_of" sp_heights_of) (g_wants : Fc P w K mg base CX0 5 "wants" sp_wants) : Fc P w K mg base (L2N.CX P w) 7 "held_by" (sp_held_by c_NoStack) := by
  refine fcX h sc_held_by (fun _ _ _ _ _ _ us hl => match us, hl with | [_], _ => rfl) (fun ds M Q E h => len_held_by h) fun f cdv A outer s H E E' Φ hr kx => ⟨t_held_by c_NoStack E', ?_, fun ds M Q h => rd_held_by (E' := E') h⟩
  exact (ds_cons (ds_expr (dcallX g_need_stack hr (by decide) (da_cons (dv 0) da_nil) (L2N.passes_call (L2N.takes_of rfl rfl rfl rfl) fun _ _ _ _ h => h) kx))
    (ds_cons (ds_set (i := 1) sc_held_by.nd (dfrz (dcall g_heights_of hr (by decide) (da_cons (dv 0) da_nil) pass0)))
    (ds_one (ds_ret (dlcM (own := [("at", 4)]) rfl sc_held_by.nd (di_range1 B.range (da_cons (dlen B.len (da_cons (dv 0) da_nil)) da_nil)) (blkOk_by (N := n_held_by) (by kernel_rfl)) (fun _ _ _ _ _ => (dc_one sc_held_by.nd)) (fun _ _ _ _ _ => dts_nil) (fun _ _ _ _ _ => (dlc (own := [("to", 2), ("want", 3)]) rfl sc_held_by.nd (di_enum B.enumerate (da_cons (dcall g_wants hr (by decide) (da_cons (dv 0) (da_cons (dv 1) (da_cons (dv 4) da_nil))) pass0) da_nil)) (blkOk_by (N := n_held_by) (by kernel_rfl)) (fun _ _ _ _ _ => (dc_tup rfl (dgs_cons sc_held_by.nd (dgs_cons sc_held_by.nd dgs_nil)))) (fun _ _ _ _ _ => (dts_one (dteq hr.units (dv 3) (dix (dv 1) (dv 4))))) (fun _ _ _ _ _ => (dv 2)))))))))
abbrev s_need_place : Stmt := topS 34
theorem sc_need_place : FnScope n_need_place ["stack", "place"] (defScope s_need_place) := ⟨rfl, rfl, rfl, by decide +kernel, rfl, by decide +kernel, by decide +kernel⟩
theorem fc_need_place (B : Glb K mg) (h : Dn K mg "need_place" s_need_place) {c_NoPlace : Addr} (k_NoPlace : ExcK K mg "NoPlace" c_NoPlace) (g_is_whole : Fc P w K mg base CX0 1 "is_whole" sp_is_whole) : Fc P w K mg base (L2N.CX P w) 2 "need_place" (sp_need_place c_NoPlace) := by
  refine fcX h sc_need_place (fun _ _ _ _ _ _ us hl => match us, hl with | [_, _], _ => rfl) (fun ds M Q E h => len_need_place h) fun f cdv A outer s H E E' Φ hr kx => ⟨t_need_place c_NoPlace E', ?_, fun ds M Q h => rd_need_place (E' := E') h⟩
  exact (ds_one (ds_if (dtnot (dtest (dcall g_is_whole hr (by decide) (da_cons (dv 1) (da_cons dint (da_cons (dsub (dlen B.len (da_cons (dv 0) da_nil)) dint) da_nil))) pass0))) (ds_one (ds_raise k_NoPlace rfl (L2N.takes_of rfl rfl rfl rfl) kx)) ds_nil))
abbrev s_left : Stmt := topS 35
theorem sc_left : FnScope n_left ["stack", "place"] (defScope s_left) := ⟨rfl, rfl, rfl, by decide +kernel, rfl, by decide +kernel, by decide +kernel⟩
theorem fc_left (B : Glb K mg) (h : Dn K mg "left" s_left) {c_NoStack : Addr} {c_NoPlace : Addr} (g_need_stack : Fc P w K mg base (L2N.CX P w) 4 "need_stack" (sp_need_stack c_NoStack)) (g_need_place : Fc P w K mg base (L2N.CX P w) 2 "need_place" (sp_need_place c_NoPlace)) (g_heights_of : Fc P w K mg base CX0 6 "heights_of" sp_heights_of) : Fc P w K mg base (L2N.CX P w) 7 "left" (sp_left c_NoStack c_NoPlace) := by
  refine fcX h sc_left (fun _ _ _ _ _ _ us hl => match us, hl with | [_, _], _ => rfl) (fun ds M Q E h => len_left h) fun f cdv A outer s H E E' Φ hr kx => ⟨t_left c_NoStack c_NoPlace E', ?_, fun ds M Q h => rd_left (E' := E') h⟩
  exact (ds_cons (ds_expr (dcallX g_need_stack hr (by decide) (da_cons (dv 0) da_nil) (L2N.passes_call (L2N.takes_of rfl rfl rfl rfl) fun _ _ _ _ h => h) kx))
    (ds_cons (ds_expr (dcallX g_need_place hr (by decide) (da_cons (dv 0) (da_cons (dv 1) da_nil)) (L2N.passes_call (L2N.takes_of rfl rfl rfl rfl) fun _ _ _ _ h => h) kx))
    (ds_one (ds_ret (dfrz (dcall g_heights_of hr (by decide) (da_cons (dadd (dsl (dv 0) do_none (do_some (dv 1))) (dsl (dv 0) (do_some (dadd (dv 1) dint)) do_none)) da_nil) pass0))))))
abbrev s_sunk : Stmt := topS 36
theorem sc_sunk : FnScope n_sunk ["stack", "place"] (defScope s_sunk) := ⟨rfl, rfl, rfl, by decide +kernel, rfl, by decide +kernel, by decide +kernel⟩
theorem fc_sunk (B : Glb K mg) (h : Dn K mg "sunk" s_sunk) {c_NoStack : Addr} {c_NoPlace : Addr} (g_need_stack : Fc P w K mg base (L2N.CX P w) 4 "need_stack" (sp_need_stack c_NoStack)) (g_need_place : Fc P w K mg base (L2N.CX P w) 2 "need_place" (sp_need_place c_NoPlace)) (g_minus : Fc P w K mg base CX0 3 "minus" sp_minus) (g_heights_of : Fc P w K mg base CX0 6 "heights_of" sp_heights_of) : Fc P w K mg base (L2N.CX P w) 7 "sunk" (sp_sunk c_NoStack c_NoPlace) := by
  refine fcX h sc_sunk (fun _ _ _ _ _ _ us hl => match us, hl with | [_, _], _ => rfl) (fun ds M Q E h => len_sunk h) fun f cdv A outer s H E E' Φ hr kx => ⟨t_sunk c_NoStack c_NoPlace E', ?_, fun ds M Q h => rd_sunk (E' := E') h⟩
  exact (ds_cons (ds_expr (dcallX g_need_stack hr (by decide) (da_cons (dv 0) da_nil) (L2N.passes_call (L2N.takes_of rfl rfl rfl rfl) fun _ _ _ _ h => h) kx))
    (ds_cons (ds_expr (dcallX g_need_place hr (by decide) (da_cons (dv 0) (da_cons (dv 1) da_nil)) (L2N.passes_call (L2N.takes_of rfl rfl rfl rfl) fun _ _ _ _ h => h) kx))
    (ds_cons (ds_par (i := 2) (j := 3) rfl sc_sunk.nd (da_cons (dsl (dfrz (dcall g_heights_of hr (by decide) (da_cons (dv 0) da_nil) pass0)) (do_some (dadd (dv 1) dint)) do_none) (da_cons (dsl (dfrz (dcall g_heights_of hr (by decide) (da_cons (dadd (dsl (dv 0) do_none (do_some (dv 1))) (dsl (dv 0) (do_some (dadd (dv 1) dint)) do_none)) da_nil) pass0)) (do_some (dv 1)) do_none) da_nil)))
    (ds_one (ds_ret (dlc (own := [("one", 4), ("other", 5)]) rfl sc_sunk.nd (di_zip B.zip (da_cons (dv 2) (da_cons (dv 3) da_nil))) (blkOk_by (N := n_sunk) (by kernel_rfl)) (fun _ _ _ _ _ => (dc_tup rfl (dgs_cons sc_sunk.nd (dgs_cons sc_sunk.nd dgs_nil)))) (fun _ _ _ _ _ => dts_nil) (fun _ _ _ _ _ => (dcall g_minus hr (by decide) (da_cons (dv 4) (da_cons (dv 5) da_nil)) pass0))))))))
abbrev s__law_well : Stmt := topS 38
theorem sc__law_well : FnScope n__law_well ["script", "k"] (defScope s__law_well) := ⟨rfl, rfl, rfl, by decide +kernel, rfl, by decide +kernel, by decide +kernel⟩
theorem fc__law_well (B : Glb K mg) (h : Dn K mg "_law_well" s__law_well) : Fc P w K mg base CX0 1 "_law_well" sp__law_well := by
  refine fcD h sc__law_well (fun _ _ _ _ _ _ us hl => match us, hl with | [_, _], _ => rfl) (fun ds M Q E h => len__law_well h) fun f cdv A outer s H E hr => ⟨t__law_well, ?_, fun ds M Q E' h => rd__law_well h⟩
  exact (ds_cons (ds_set (i := 2) sc__law_well.nd dint)
    (ds_cut (ds_if (dtlt (dv 1) (dlen B.len (da_cons (dv 0) da_nil))) (ds_one (ds_set (i := 2) sc__law_well.nd (dix (dv 0) (dv 1)))) ds_nil)
    (ds_cons (ds_set (i := 3) sc__law_well.nd (dlst (da_cons dint (da_cons dint (da_cons dint (da_cons dint (da_cons dint (da_cons dint (da_cons dint (da_cons dint da_nil))))))))))
    (ds_cons (ds_set (i := 4) sc__law_well.nd (dmod (dmul (dadd (dmod (dv 2) dint) dint) (dadd dint (dmul dint (dv 1)))) dint))
    (ds_cons (ds_set (i := 4) sc__law_well.nd (dadd (dadd (dmod (dmul (dv 4) (dv 4)) dint) (dv 1)) dint))
    (ds_cons (ds_if (dtge (dv 2) (dpow dint dint)) (ds_one (ds_ret (dlstM (da_cons (dv 2) (da_cons (dv 4) (da_cons (dix (dv 3) (dmod (dv 1) dint)) da_nil)))))) ds_nil)
    (ds_one (ds_ret (dlstM (da_cons dint (da_cons (dv 4) (da_cons (dix (dv 3) (dmod (dv 1) dint)) da_nil))))))))))))
abbrev s__law_take : Stmt := topS 39
theorem sc__law_take : FnScope n__law_take ["well", "many"] (defScope s__law_take) := ⟨rfl, rfl, rfl, by decide +kernel, rfl, by decide +kernel, by decide +kernel⟩
theorem fc__law_take (B : Glb K mg) (h : Dn K mg "_law_take" s__law_take) : Fc P w K mg base CX0 1 "_law_take" sp__law_take := by
  refine fcD h sc__law_take (fun _ _ _ _ _ _ us hl => match us, hl with | [_, _], _ => rfl) (fun ds M Q E h => len__law_take h) fun f cdv A outer s H E hr => ⟨t__law_take, ?_, fun ds M Q E' h => rd__law_take h⟩
  exact (ds_cons (ds_if (dtgt (dix (dv 0) dint) dint) (ds_cons (ds_set (i := 2) sc__law_take.nd (dmod (dix (dv 0) dint) (dv 1)))
    (ds_cons (ds_asg (dfdiv (dix (dv 0) dint) (dv 1)) (dg_sub (dv 0) dint))
    (ds_one (ds_ret (dv 2))))) ds_nil)
    (ds_cons (ds_asg (dadd (dmod (dmul (dix (dv 0) dint) dint) (dix (dv 0) dint)) dint) (dg_sub (dv 0) dint))
    (ds_one (ds_ret (dmod (dfdiv (dmod (dmul (dix (dv 0) dint) (dix (dv 0) dint)) dint) dint) (dv 1))))))
abbrev s__law_frac : Stmt := topS 40
theorem sc__law_frac : FnScope n__law_frac ["top", "bottom"] (defScope s__law_frac) := ⟨rfl, rfl, rfl, by decide +kernel, rfl, by decide +kernel, by decide +kernel⟩
theorem fc__law_frac (B : Glb K mg) (h : Dn K mg "_law_frac" s__law_frac) : Fc P w K mg base CX0 1 "_law_frac" sp__law_frac := by
  refine fcD h sc__law_frac (fun _ _ _ _ _ _ us hl => match us, hl with | [_, _], _ => rfl) (fun ds M Q E h => len__law_frac h) fun f cdv A outer s H E hr => ⟨t__law_frac, ?_, fun ds M Q E' h => rd__law_frac h⟩
  exact (ds_cons (ds_par (i := 2) (j := 3) rfl sc__law_frac.nd (da_cons (dabs B.abs (da_cons (dv 0) da_nil)) (da_cons (dabs B.abs (da_cons (dv 1) da_nil)) da_nil)))
    (ds_cons (ds_while PassesOwn.never (dtgt (dv 3) dint) (ds_one (ds_par (i := 2) (j := 3) rfl sc__law_frac.nd (da_cons (dv 3) (da_cons (dmod (dv 2) (dv 3)) da_nil)))))
    (ds_cons (ds_set (i := 2) sc__law_frac.nd (dif (dtgt (dv 1) dint) (dv 2) (dneg (dv 2))))
    (ds_one (ds_ret (dtup (da_cons (dfdiv (dv 0) (dv 2)) (da_cons (dfdiv (dv 1) (dv 2)) da_nil))))))))
abbrev s__law_plus : Stmt := topS 41
theorem sc__law_plus : FnScope n__law_plus ["one", "other"] (defScope s__law_plus) := ⟨rfl, rfl, rfl, by decide +kernel, rfl, by decide +kernel, by decide +kernel⟩
theorem fc__law_plus (B : Glb K mg) (h : Dn K mg "_law_plus" s__law_plus) (g__law_frac : Fc P w K mg base CX0 1 "_law_frac" sp__law_frac) : Fc P w K mg base CX0 2 "_law_plus" sp__law_plus := by
  refine fcD h sc__law_plus (fun _ _ _ _ _ _ us hl => match us, hl with | [_, _], _ => rfl) (fun ds M Q E h => len__law_plus h) fun f cdv A outer s H E hr => ⟨t__law_plus, ?_, fun ds M Q E' h => rd__law_plus h⟩
  exact (ds_one (ds_ret (dcall g__law_frac hr (by decide) (da_cons (dadd (dmul (dix (dv 0) dint) (dix (dv 1) dint)) (dmul (dix (dv 1) dint) (dix (dv 0) dint))) (da_cons (dmul (dix (dv 0) dint) (dix (dv 1) dint)) da_nil)) pass0)))
abbrev s__law_minus : Stmt := topS 42
theorem sc__law_minus : FnScope n__law_minus ["one", "other"] (defScope s__law_minus) := ⟨rfl, rfl, rfl, by decide +kernel, rfl, by decide +kernel, by decide +kernel⟩
theorem fc__law_minus (B : Glb K mg) (h : Dn K mg "_law_minus" s__law_minus) (g__law_frac : Fc P w K mg base CX0 1 "_law_frac" sp__law_frac) : Fc P w K mg base CX0 2 "_law_minus" sp__law_minus := by
  refine fcD h sc__law_minus (fun _ _ _ _ _ _ us hl => match us, hl with | [_, _], _ => rfl) (fun ds M Q E h => len__law_minus h) fun f cdv A outer s H E hr => ⟨t__law_minus, ?_, fun ds M Q E' h => rd__law_minus h⟩
  exact (ds_one (ds_ret (dcall g__law_frac hr (by decide) (da_cons (dsub (dmul (dix (dv 0) dint) (dix (dv 1) dint)) (dmul (dix (dv 1) dint) (dix (dv 0) dint))) (da_cons (dmul (dix (dv 0) dint) (dix (dv 1) dint)) da_nil)) pass0)))
abbrev s__law_less : Stmt := topS 43
theorem sc__law_less : FnScope n__law_less ["one", "other"] (defScope s__law_less) := ⟨rfl, rfl, rfl, by decide +kernel, rfl, by decide +kernel, by decide +kernel⟩
theorem fc__law_less (B : Glb K mg) (h : Dn K mg "_law_less" s__law_less) : Fc P w K mg base CX0 1 "_law_less" sp__law_less := by
  refine fcD h sc__law_less (fun _ _ _ _ _ _ us hl => match us, hl with | [_, _], _ => rfl) (fun ds M Q E h => len__law_less h) fun f cdv A outer s H E hr => ⟨t__law_less, ?_, fun ds M Q E' h => rd__law_less h⟩
  exact (ds_one (ds_ret (dlt (dmul (dix (dv 0) dint) (dix (dv 1) dint)) (dmul (dix (dv 1) dint) (dix (dv 0) dint)))))
abbrev s__law_kinds : Stmt := topS 44
theorem sc__law_kinds : FnScope n__law_kinds ["e"] (defScope s__law_kinds) := ⟨rfl, rfl, rfl, by decide +kernel, rfl, by decide +kernel, by decide +kernel⟩
/-- what is known of the class at C, the k-th kind -/
structure KindF (K : PySem.W.Frag) (mg : Str → Option Value) (C : Addr) (b1 b2 b3 b4 b5 b6 b7 b8 b9 : Bool) : Prop where
  f : ExcC K C
  ex1 : ∃ cv, (∀ X : Cx, X.mg = mg → ClsN X "NoBowl" cv) ∧ PySem.W.kitOne K (.ref C) (cvOf cv) = some b1
  ex2 : ∃ cv, (∀ X : Cx, X.mg = mg → ClsN X "NoStack" cv) ∧ PySem.W.kitOne K (.ref C) (cvOf cv) = some b2
  ex3 : ∃ cv, (∀ X : Cx, X.mg = mg → ClsN X "NoPlace" cv) ∧ PySem.W.kitOne K (.ref C) (cvOf cv) = some b3
  ex4 : ∃ cv, (∀ X : Cx, X.mg = mg → ClsN X "NoRest" cv) ∧ PySem.W.kitOne K (.ref C) (cvOf cv) = some b4
  ex5 : ∃ cv, (∀ X : Cx, X.mg = mg → ClsN X "Full" cv) ∧ PySem.W.kitOne K (.ref C) (cvOf cv) = some b5
  ex6 : ∃ cv, (∀ X : Cx, X.mg = mg → ClsN X "Empty" cv) ∧ PySem.W.kitOne K (.ref C) (cvOf cv) = some b6
  ex7 : ∃ cv, (∀ X : Cx, X.mg = mg → ClsN X "NothingLeft" cv) ∧ PySem.W.kitOne K (.ref C) (cvOf cv) = some b7
  ex8 : ∃ cv, (∀ X : Cx, X.mg = mg → ClsN X "BowlError" cv) ∧ PySem.W.kitOne K (.ref C) (cvOf cv) = some b8
  ex9 : ∃ cv, (∀ X : Cx, X.mg = mg → ClsN X "ValueError" cv) ∧ PySem.W.kitOne K (.ref C) (cvOf cv) = some b9
theorem fcE__law_kinds (B : Glb K mg) (h : Dn K mg "_law_kinds" s__law_kinds) {a C : Addr} {b1 b2 b3 b4 b5 b6 b7 b8 b9 : Bool} (F : KindF K mg C b1 b2 b3 b4 b5 b6 b7 b8 b9) :
    FcE P w K mg base 1 "_law_kinds" a C (sp__law_kinds a [b1, b2, b3, b4, b5, b6, b7, b8, b9]) := by
  obtain ⟨cv1, cl1, q1⟩ := F.ex1
  obtain ⟨cv2, cl2, q2⟩ := F.ex2
  obtain ⟨cv3, cl3, q3⟩ := F.ex3
  obtain ⟨cv4, cl4, q4⟩ := F.ex4
  obtain ⟨cv5, cl5, q5⟩ := F.ex5
  obtain ⟨cv6, cl6, q6⟩ := F.ex6
  obtain ⟨cv7, cl7, q7⟩ := F.ex7
  obtain ⟨cv8, cl8, q8⟩ := F.ex8
  obtain ⟨cv9, cl9, q9⟩ := F.ex9
  refine fcE h sc__law_kinds (fun _ _ _ _ _ _ us hl => match us, hl with | [_], _ => rfl) (fun ds M Q E h => len__law_kinds h) fun f cdv A outer s H E p hot hp hr => ⟨t__law_kinds a b1 b2 b3 b4 b5 b6 b7 b8 b9, ?_, fun ds M Q E' h => rd__law_kinds h⟩
  have hh : HotX' (L2H.cxH CX0 P w K mg base n__law_kinds "_law_kinds" (defScope s__law_kinds) f cdv A outer s H E p) a C := ⟨p, hot, hp, List.mem_cons_self⟩
  have i1 : ∀ p1 p2 p3 p4, DE Ph.any (L2H.cxH CX0 P w K mg base n__law_kinds "_law_kinds" (defScope s__law_kinds) f cdv A outer s H E p) (.Call (.Name "isinstance" p1) [.Name "e" p2, .Name "NoBowl" p3] [] p4) (dIsE a 0 b1) := fun _ _ _ _ => dise hh F.f B.isinstance (dv 0) (cl1 _ rfl) q1
  have i2 : ∀ p1 p2 p3 p4, DE Ph.any (L2H.cxH CX0 P w K mg base n__law_kinds "_law_kinds" (defScope s__law_kinds) f cdv A outer s H E p) (.Call (.Name "isinstance" p1) [.Name "e" p2, .Name "NoStack" p3] [] p4) (dIsE a 0 b2) := fun _ _ _ _ => dise hh F.f B.isinstance (dv 0) (cl2 _ rfl) q2
  have i3 : ∀ p1 p2 p3 p4, DE Ph.any (L2H.cxH CX0 P w K mg base n__law_kinds "_law_kinds" (defScope s__law_kinds) f cdv A outer s H E p) (.Call (.Name "isinstance" p1) [.Name "e" p2, .Name "NoPlace" p3] [] p4) (dIsE a 0 b3) := fun _ _ _ _ => dise hh F.f B.isinstance (dv 0) (cl3 _ rfl) q3
  have i4 : ∀ p1 p2 p3 p4, DE Ph.any (L2H.cxH CX0 P w K mg base n__law_kinds "_law_kinds" (defScope s__law_kinds) f cdv A outer s H E p) (.Call (.Name "isinstance" p1) [.Name "e" p2, .Name "NoRest" p3] [] p4) (dIsE a 0 b4) := fun _ _ _ _ => dise hh F.f B.isinstance (dv 0) (cl4 _ rfl) q4
  have i5 : ∀ p1 p2 p3 p4, DE Ph.any (L2H.cxH CX0 P w K mg base n__law_kinds "_law_kinds" (defScope s__law_kinds) f cdv A outer s H E p) (.Call (.Name "isinstance" p1) [.Name "e" p2, .Name "Full" p3] [] p4) (dIsE a 0 b5) := fun _ _ _ _ => dise hh F.f B.isinstance (dv 0) (cl5 _ rfl) q5
  have i6 : ∀ p1 p2 p3 p4, DE Ph.any (L2H.cxH CX0 P w K mg base n__law_kinds "_law_kinds" (defScope s__law_kinds) f cdv A outer s H E p) (.Call (.Name "isinstance" p1) [.Name "e" p2, .Name "Empty" p3] [] p4) (dIsE a 0 b6) := fun _ _ _ _ => dise hh F.f B.isinstance (dv 0) (cl6 _ rfl) q6
  have i7 : ∀ p1 p2 p3 p4, DE Ph.any (L2H.cxH CX0 P w K mg base n__law_kinds "_law_kinds" (defScope s__law_kinds) f cdv A outer s H E p) (.Call (.Name "isinstance" p1) [.Name "e" p2, .Name "NothingLeft" p3] [] p4) (dIsE a 0 b7) := fun _ _ _ _ => dise hh F.f B.isinstance (dv 0) (cl7 _ rfl) q7
  have i8 : ∀ p1 p2 p3 p4, DE Ph.any (L2H.cxH CX0 P w K mg base n__law_kinds "_law_kinds" (defScope s__law_kinds) f cdv A outer s H E p) (.Call (.Name "isinstance" p1) [.Name "e" p2, .Name "BowlError" p3] [] p4) (dIsE a 0 b8) := fun _ _ _ _ => dise hh F.f B.isinstance (dv 0) (cl8 _ rfl) q8
  have i9 : ∀ p1 p2 p3 p4, DE Ph.any (L2H.cxH CX0 P w K mg base n__law_kinds "_law_kinds" (defScope s__law_kinds) f cdv A outer s H E p) (.Call (.Name "isinstance" p1) [.Name "e" p2, .Name "ValueError" p3] [] p4) (dIsE a 0 b9) := fun _ _ _ _ => dise hh F.f B.isinstance (dv 0) (cl9 _ rfl) q9
  exact (ds_cons (ds_set (i := 1) sc__law_kinds.nd (dlst (da_cons (i1 _ _ _ _) (da_cons (i2 _ _ _ _) (da_cons (i3 _ _ _ _) (da_cons (i4 _ _ _ _) da_nil))))))
    (ds_cons (ds_set (i := 1) sc__law_kinds.nd (dadd (dv 1) (dlst (da_cons (i5 _ _ _ _) (da_cons (i6 _ _ _ _) (da_cons (i7 _ _ _ _) da_nil))))))
    (ds_cons (ds_set (i := 1) sc__law_kinds.nd (dadd (dv 1) (dlst (da_cons (i8 _ _ _ _) (da_cons (i9 _ _ _ _) da_nil)))))
    (ds_cons (ds_set (i := 2) sc__law_kinds.nd dstr)
    (ds_one (ds_ret (dlcH (own := [("word", 3), ("good", 4)]) hh sc__law_kinds.nd (di_zipH B.zip (da_cons (dsplit (dv 2) dstr) (da_cons (dv 1) da_nil))) (blkOk_by (N := n__law_kinds) (by kernel_rfl))
      (fun p' hot' _ _ _ _ _ => dc_tupH hot' List.mem_cons_self (dgs_cons sc__law_kinds.nd (dgs_cons sc__law_kinds.nd dgs_nil))) (fun _ _ _ _ _ _ _ => dts_one (dtest (dv 4))) (fun _ _ _ _ _ _ _ => dv 3))))))))
abbrev s__law_refusal : Stmt := topS 45
theorem sc__law_refusal : FnScope n__law_refusal ["e"] (defScope s__law_refusal) := ⟨rfl, rfl, rfl, by decide +kernel, rfl, by decide +kernel, by decide +kernel⟩
theorem fcE__law_refusal (B : Glb K mg) (h : Dn K mg "_law_refusal" s__law_refusal) {a C : Addr} {k : Nat} {wo : Str} (hk : (k, wo) ∈ [(0, ("bowl" : Str)), (1, "stack"), (2, "place"), (3, "rest"), (4, "full"), (5, "empty"), (6, "left")])
    (g : FcE P w K mg base 1 "_law_kinds" a C (sp__law_kinds a (bitsOf k))) : FcE P w K mg base 2 "_law_refusal" a C (spRef a wo) := by
  refine fcE h sc__law_refusal (fun _ _ _ _ _ _ us hl => match us, hl with | [_], _ => rfl) (fun ds M Q E h => len__law_refusal h) fun f cdv A outer s H E p hot hp hr => ⟨t__law_refusal a (bitsOf k), ?_, fun ds M Q E' h => rd__law_refusal hk h⟩
  have hh : HotX' (L2H.cxH CX0 P w K mg base n__law_refusal "_law_refusal" (defScope s__law_refusal) f cdv A outer s H E p) a C := ⟨p, hot, hp, List.mem_cons_self⟩
  have hu : (L2H.cxH CX0 P w K mg base n__law_refusal "_law_refusal" (defScope s__law_refusal) f cdv A outer s H E p).A.units + 64 < cLine := by
    have := hr.un
    show (A.deeper _).units + 64 < cLine
    omega
  exact (ds_cons (ds_set (i := 1) sc__law_refusal.nd (dcallE g hh hr (by decide) (da_cons (dv 0) da_nil)))
    (ds_one (ds_ret (dif (dteq hu (dsl (dv 1) (do_some dint) do_none) (dlst (da_cons dstr (da_cons dstr da_nil)))) (dix (dv 1) dint) dstr))))
abbrev s__law_bowl : Stmt := topS 46
theorem sc__law_bowl : FnScope n__law_bowl ["well"] (defScope s__law_bowl) := ⟨rfl, rfl, rfl, by decide +kernel, rfl, by decide +kernel, by decide +kernel⟩
theorem fc__law_bowl (B : Glb K mg) (h : Dn K mg "_law_bowl" s__law_bowl) (g__law_take : Fc P w K mg base CX0 1 "_law_take" sp__law_take) : Fc P w K mg base CX0 2 "_law_bowl" sp__law_bowl := by
  refine fcD h sc__law_bowl (fun _ _ _ _ _ _ us hl => match us, hl with | [_], _ => rfl) (fun ds M Q E h => len__law_bowl h) fun f cdv A outer s H E hr => ⟨t__law_bowl, ?_, fun ds M Q E' h => rd__law_bowl h⟩
  exact (ds_cons (ds_set (i := 1) sc__law_bowl.nd (dix (dlst (da_cons dint (da_cons dint (da_cons dint da_nil)))) (dcall g__law_take hr (by decide) (da_cons (dv 0) (da_cons dint da_nil)) pass0)))
    (ds_cons (ds_set (i := 2) sc__law_bowl.nd (dadd dint (dcall g__law_take hr (by decide) (da_cons (dv 0) (da_cons (dv 1) da_nil)) pass0)))
    (ds_cons (ds_set (i := 3) sc__law_bowl.nd (dmin rfl B.min (da_cons dint (da_cons (dadd (dadd (dv 2) dint) (dcall g__law_take hr (by decide) (da_cons (dv 0) (da_cons (dix (dlst (da_cons dint (da_cons dint (da_cons dint da_nil)))) (dcall g__law_take hr (by decide) (da_cons (dv 0) (da_cons dint da_nil)) pass0)) da_nil)) pass0)) da_nil))))
    (ds_one (ds_ret (dtup (da_cons (dmin rfl B.min (da_cons (dv 2) (da_cons dint da_nil))) (da_cons (dmax rfl B.max (da_cons (dv 3) (da_cons (dadd (dmin rfl B.min (da_cons (dv 2) (da_cons dint da_nil))) dint) da_nil))) (da_cons (dadd dint (dcall g__law_take hr (by decide) (da_cons (dv 0) (da_cons (dix (dlst (da_cons dint (da_cons dint (da_cons dint da_nil)))) (dcall g__law_take hr (by decide) (da_cons (dv 0) (da_cons dint da_nil)) pass0)) da_nil)) pass0)) da_nil)))))))))
abbrev s__law_stack : Stmt := topS 47
theorem sc__law_stack : FnScope n__law_stack ["well", "most"] (defScope s__law_stack) := ⟨rfl, rfl, rfl, by decide +kernel, rfl, by decide +kernel, by decide +kernel⟩
theorem fc__law_stack (B : Glb K mg) (h : Dn K mg "_law_stack" s__law_stack) (g__law_bowl : Fc P w K mg base CX0 2 "_law_bowl" sp__law_bowl) (g__law_take : Fc P w K mg base CX0 1 "_law_take" sp__law_take) : Fc P w K mg base CX0 3 "_law_stack" sp__law_stack := by
  refine fcD h sc__law_stack (fun _ _ _ _ _ _ us hl => match us, hl with | [_, _], _ => rfl) (fun ds M Q E h => len__law_stack h) fun f cdv A outer s H E hr => ⟨t__law_stack, ?_, fun ds M Q E' h => rd__law_stack h⟩
  exact (ds_cons (ds_setLcM (i := 2) (own := [("turn", 3)]) rfl sc__law_stack.nd (di_range1 B.range (da_cons (dadd dint (dcall g__law_take hr (by decide) (da_cons (dv 0) (da_cons (dv 1) da_nil)) pass0)) da_nil)) (blkOk_by (N := n__law_stack) (by kernel_rfl)) (fun _ _ _ _ _ => (dc_one sc__law_stack.nd)) (fun _ _ _ _ _ => dts_nil) (fun _ _ _ _ _ => (dcall g__law_bowl hr (by decide) (da_cons (dv 0) da_nil) pass0)) (sw_true rfl rfl rfl (by decide +kernel)))
    (ds_cut (ds_if (PW.pt (dwand (dtgt (dlen B.len (da_cons (dv 2) da_nil)) dint) (dwand1 (dteq hr.units (dcall g__law_take hr (by decide) (da_cons (dv 0) (da_cons dint da_nil)) pass0) dint)))) (ds_one (ds_asg (dix (dv 2) dint) (dg_sub (dv 2) (dneg dint)))) ds_nil)
    (ds_one (ds_ret (dtupleof B.tuple (da_cons (dv 2) da_nil))))))
abbrev s__law_demands : Stmt := topS 48
theorem sc__law_demands : FnScope n__law_demands ["stack", "found", "at"] (defScope s__law_demands) := ⟨rfl, rfl, rfl, by decide +kernel, rfl, by decide +kernel, by decide +kernel⟩
theorem fc__law_demands (B : Glb K mg) (h : Dn K mg "_law_demands" s__law_demands) {c_NoBowl : Addr} (g__law_plus : Fc P w K mg base CX0 2 "_law_plus" sp__law_plus) (g_rest : Fc P w K mg base (L2N.CX P w) 5 "rest" (sp_rest c_NoBowl)) : Fc P w K mg base CX0 6 "_law_demands" sp__law_demands := by
  refine fcD h sc__law_demands (fun _ _ _ _ _ _ us hl => match us, hl with | [_, _, _], _ => rfl) (fun ds M Q E h => len__law_demands h) fun f cdv A outer s H E hr => ⟨t__law_demands c_NoBowl, ?_, fun ds M Q E' h => rd__law_demands h⟩
  exact (ds_one (ds_ret (dlc (own := [("to", 3)]) rfl sc__law_demands.nd (di_range1 B.range (da_cons (dv 2) da_nil)) (blkOk_by (N := n__law_demands) (by kernel_rfl)) (fun _ _ _ _ _ => (dc_one sc__law_demands.nd)) (fun _ _ _ _ _ => dts_nil) (fun _ _ _ _ _ => (dcall g__law_plus hr (by decide) (da_cons (dix (dv 1) (dv 3)) (da_cons (dcall g_rest hr (by decide) (da_cons (dix (dv 0) (dv 3)) (da_cons (dix (dv 0) (dv 2)) da_nil)) passN) da_nil)) pass0)))))
abbrev s__law_heights : Stmt := topS 49
theorem sc__law_heights : FnScope n__law_heights ["stack"] (defScope s__law_heights) := ⟨rfl, rfl, rfl, by decide +kernel, rfl, by decide +kernel, by decide +kernel⟩
theorem fc__law_heights (B : Glb K mg) (h : Dn K mg "_law_heights" s__law_heights) (g__law_demands : Fc P w K mg base CX0 6 "_law_demands" sp__law_demands) (g__law_less : Fc P w K mg base CX0 1 "_law_less" sp__law_less) : Fc P w K mg base CX0 7 "_law_heights" sp__law_heights := by
  refine fcD h sc__law_heights (fun _ _ _ _ _ _ us hl => match us, hl with | [_], _ => rfl) (fun ds M Q E h => len__law_heights h) fun f cdv A outer s H E hr => ⟨t__law_heights, ?_, fun ds M Q E' h => rd__law_heights h⟩
  exact (ds_cons (ds_set (i := 1) sc__law_heights.nd (dlstM da_nil))
    (ds_cons (ds_for PassesOwn.never rfl (di_range1 B.range (da_cons (dlen B.len (da_cons (dv 0) da_nil)) da_nil)) (dg_name (i := 2) sc__law_heights.nd)
    (ds_cons (ds_set (i := 3) sc__law_heights.nd (dtup (da_cons dint (da_cons dint da_nil))))
    (ds_cons (ds_for PassesOwn.never rfl (di_list (dcall g__law_demands hr (by decide) (da_cons (dv 0) (da_cons (dv 1) (da_cons (dv 2) da_nil))) pass0)) (dg_name (i := 4) sc__law_heights.nd)
    (ds_one (ds_set (i := 3) sc__law_heights.nd (dif (dtest (dcall g__law_less hr (by decide) (da_cons (dv 3) (da_cons (dv 4) da_nil)) pass0)) (dv 4) (dv 3)))))
    (ds_one (ds_expr (dapp (dv 1) (dv 3)))))))
    (ds_one (ds_ret (dv 1)))))
abbrev s__law_high : Stmt := topS 50
theorem sc__law_high : FnScope n__law_high ["stack"] (defScope s__law_high) := ⟨rfl, rfl, rfl, by decide +kernel, rfl, by decide +kernel, by decide +kernel⟩
theorem fc__law_high (B : Glb K mg) (h : Dn K mg "_law_high" s__law_high) (g__law_heights : Fc P w K mg base CX0 7 "_law_heights" sp__law_heights) (g__law_plus : Fc P w K mg base CX0 2 "_law_plus" sp__law_plus) (g__law_less : Fc P w K mg base CX0 1 "_law_less" sp__law_less) : Fc P w K mg base CX0 8 "_law_high" sp__law_high := by
  refine fcD h sc__law_high (fun _ _ _ _ _ _ us hl => match us, hl with | [_], _ => rfl) (fun ds M Q E h => len__law_high h) fun f cdv A outer s H E hr => ⟨t__law_high, ?_, fun ds M Q E' h => rd__law_high h⟩
  exact (ds_cons (ds_set (i := 1) sc__law_high.nd (dtup (da_cons dint (da_cons dint da_nil))))
    (ds_cons (ds_for PassesOwn.never rfl (di_zipM B.zip (da_cons (dcall g__law_heights hr (by decide) (da_cons (dv 0) da_nil) pass0) (da_cons (dv 0) da_nil))) (dg_tup rfl (dgs_cons (i := 2) sc__law_high.nd (dgs_cons (i := 3) sc__law_high.nd dgs_nil)))
    (ds_cons (ds_set (i := 4) sc__law_high.nd (dcall g__law_plus hr (by decide) (da_cons (dv 2) (da_cons (dtup (da_cons (dix (dv 3) dint) (da_cons dint da_nil))) da_nil)) pass0))
    (ds_one (ds_set (i := 1) sc__law_high.nd (dif (dtest (dcall g__law_less hr (by decide) (da_cons (dv 1) (da_cons (dv 4) da_nil)) pass0)) (dv 4) (dv 1))))))
    (ds_one (ds_ret (dv 1)))))
abbrev s__law_word : Stmt := topS 51
theorem sc__law_word : FnScope n__law_word ["way", "stack", "place"] (defScope s__law_word) := ⟨rfl, rfl, rfl, by decide +kernel, rfl, by decide +kernel, by decide +kernel⟩
theorem fc__law_word (B : Glb K mg) (h : Dn K mg "_law_word" s__law_word) {c_NoStack : Addr} {c_NoPlace : Addr} {wd : Wrd} {c_BowlError : Addr} (hw : ∀ C w_, (C, w_) ∈ wd → PySem.W.exmOne K (.ref C) (.ref c_BowlError) = some true ∧ ∀ a, FcE P w K mg base 2 "_law_refusal" a C (spRef a w_)) (gc : mg "BowlError" = some (.ref c_BowlError)) (g_heights : Fc P w K mg base (L2N.CX P w) 7 "heights" (sp_heights c_NoStack)) (g_high : Fc P w K mg base (L2N.CX P w) 8 "high" (sp_high c_NoStack)) (g_held_by : Fc P w K mg base (L2N.CX P w) 7 "held_by" (sp_held_by c_NoStack)) (g_left : Fc P w K mg base (L2N.CX P w) 7 "left" (sp_left c_NoStack c_NoPlace)) (g_sunk : Fc P w K mg base (L2N.CX P w) 7 "sunk" (sp_sunk c_NoStack c_NoPlace)) : Fc P w K mg base CX0 9 "_law_word" (sp__law_word wd c_NoStack c_NoPlace) := by
  refine fcD h sc__law_word (fun _ _ _ _ _ _ us hl => match us, hl with | [_, _, _], _ => rfl) (fun ds M Q E h => len__law_word h) fun f cdv A outer s H E hr => ⟨t__law_word wd c_NoStack c_NoPlace, ?_, fun ds M Q E' h => rd__law_word h⟩
  exact (ds_cons (ds_try (i := 3) (wd := wd) sc__law_word.nd hr (by decide) (fun Φ' pn xe E' it => (ds_one (ds_if (dtlt (dv 0) dint) (ds_one (ds_expr (dcallIxT it (FA.cons g_heights (by decide) (FA.cons g_high (by decide) (FA.cons g_held_by (by decide) FA.nil))) hr (dv 0) (da_cons (dv 1) da_nil)))) (ds_one (ds_expr (dcallIxT it (FA.cons g_left (by decide) (FA.cons g_sunk (by decide) FA.nil)) hr (dsub (dv 0) dint) (da_cons (dv 1) (da_cons (dv 2) da_nil)))))))) hw gc (tk := takesF))
    (ds_one (ds_ret dstr)))
abbrev s__law_held : Stmt := topS 52
theorem sc__law_held : FnScope n__law_held ["stack", "found"] (defScope s__law_held) := ⟨rfl, rfl, rfl, by decide +kernel, rfl, by decide +kernel, by decide +kernel⟩
theorem fc__law_held (B : Glb K mg) (h : Dn K mg "_law_held" s__law_held) (g__law_demands : Fc P w K mg base CX0 6 "_law_demands" sp__law_demands) : Fc P w K mg base CX0 7 "_law_held" sp__law_held := by
  refine fcD h sc__law_held (fun _ _ _ _ _ _ us hl => match us, hl with | [_, _], _ => rfl) (fun ds M Q E h => len__law_held h) fun f cdv A outer s H E hr => ⟨t__law_held, ?_, fun ds M Q E' h => rd__law_held h⟩
  exact (ds_cons (ds_set (i := 2) sc__law_held.nd (dlstM da_nil))
    (ds_cons (ds_for PassesOwn.never rfl (di_range1 B.range (da_cons (dlen B.len (da_cons (dv 0) da_nil)) da_nil)) (dg_name (i := 3) sc__law_held.nd)
    (ds_one (ds_expr (dapp (dv 2) (dlc (own := [("to", 4), ("want", 5)]) rfl sc__law_held.nd (di_enum B.enumerate (da_cons (dcall g__law_demands hr (by decide) (da_cons (dv 0) (da_cons (dv 1) (da_cons (dv 3) da_nil))) pass0) da_nil)) (blkOk_by (N := n__law_held) (by kernel_rfl)) (fun _ _ _ _ _ => (dc_tup rfl (dgs_cons sc__law_held.nd (dgs_cons sc__law_held.nd dgs_nil)))) (fun _ _ _ _ _ => (dts_one (dteq hr.units (dv 5) (dix (dv 1) (dv 3))))) (fun _ _ _ _ _ => (dv 4)))))))
    (ds_one (ds_ret (dv 2)))))
abbrev s__law_drawn : Stmt := topS 53
theorem sc__law_drawn : FnScope n__law_drawn ["stack", "found", "place"] (defScope s__law_drawn) := ⟨rfl, rfl, rfl, by decide +kernel, rfl, by decide +kernel, by decide +kernel⟩
theorem fc__law_drawn (B : Glb K mg) (h : Dn K mg "_law_drawn" s__law_drawn) {c_NoStack : Addr} {c_NoPlace : Addr} (g__law_heights : Fc P w K mg base CX0 7 "_law_heights" sp__law_heights) (g__law_minus : Fc P w K mg base CX0 2 "_law_minus" sp__law_minus) (g_left : Fc P w K mg base (L2N.CX P w) 7 "left" (sp_left c_NoStack c_NoPlace)) (g_sunk : Fc P w K mg base (L2N.CX P w) 7 "sunk" (sp_sunk c_NoStack c_NoPlace)) : Fc P w K mg base CX0 8 "_law_drawn" sp__law_drawn := by
  refine fcD h sc__law_drawn (fun _ _ _ _ _ _ us hl => match us, hl with | [_, _, _], _ => rfl) (fun ds M Q E h => len__law_drawn h) fun f cdv A outer s H E hr => ⟨t__law_drawn c_NoStack c_NoPlace, ?_, fun ds M Q E' h => rd__law_drawn h⟩
  exact (ds_cons (ds_set (i := 3) sc__law_drawn.nd (dcall g__law_heights hr (by decide) (da_cons (dadd (dsl (dv 0) do_none (do_some (dv 2))) (dsl (dv 0) (do_some (dadd (dv 2) dint)) do_none)) da_nil) pass0))
    (ds_cons (ds_if (PW.pt (dwor (dtne hr.units (dcall g_left hr (by decide) (da_cons (dv 0) (da_cons (dv 2) da_nil)) passN) (dv 3)) (dwor1 (dtne hr.units (dsl (dv 3) do_none (do_some (dv 2))) (dsl (dv 1) do_none (do_some (dv 2))))))) (ds_one (ds_ret dbl)) ds_nil)
    (ds_cons (ds_setLc (i := 4) (own := [("one", 5), ("other", 6)]) rfl sc__law_drawn.nd (di_zipM B.zip (da_cons (dsl (dv 1) (do_some (dadd (dv 2) dint)) do_none) (da_cons (dsl (dv 3) (do_some (dv 2)) do_none) da_nil))) (blkOk_by (N := n__law_drawn) (by kernel_rfl)) (fun _ _ _ _ _ => (dc_tup rfl (dgs_cons sc__law_drawn.nd (dgs_cons sc__law_drawn.nd dgs_nil)))) (fun _ _ _ _ _ => dts_nil) (fun _ _ _ _ _ => (dcall g__law_minus hr (by decide) (da_cons (dv 5) (da_cons (dv 6) da_nil)) pass0)) (sw_true rfl rfl rfl (by decide +kernel)))
    (ds_one (ds_ret (dandV (deq hr.units (dcall g_sunk hr (by decide) (da_cons (dv 0) (da_cons (dv 2) da_nil)) passN) (dv 4)) (done (deq hr.units (dlc (own := [("one", 5)]) rfl sc__law_drawn.nd (di_list (dv 4)) (blkOk_by (N := n__law_drawn) (by kernel_rfl)) (fun _ _ _ _ _ => (dc_one sc__law_drawn.nd)) (fun _ _ _ _ _ => (dts_one (dtlt (dix (dv 5) dint) dint))) (fun _ _ _ _ _ => (dv 5))) (dlst da_nil)))))))))
abbrev s_law : Stmt := topS 54
theorem sc_law : FnScope n_law ["script"] (defScope s_law) := ⟨rfl, rfl, rfl, by decide +kernel, rfl, by decide +kernel, by decide +kernel⟩
theorem ok_law (B : Glb K mg) {f : Addr} {fd : FuncData} (F : Fun K "law" "law" s_law f fd) {c_NoStack : Addr} {c_NoPlace : Addr} {wd : Wrd} (w_NoStack : (c_NoStack, ("stack" : Str)) ∈ wd) (w_NoPlace : (c_NoPlace, ("place" : Str)) ∈ wd) (g__law_well : Fc P w K mg base CX0 1 "_law_well" sp__law_well) (g__law_stack : Fc P w K mg base CX0 3 "_law_stack" sp__law_stack) (g_heights : Fc P w K mg base (L2N.CX P w) 7 "heights" (sp_heights c_NoStack)) (g_held_by : Fc P w K mg base (L2N.CX P w) 7 "held_by" (sp_held_by c_NoStack)) (g__law_held : Fc P w K mg base CX0 7 "_law_held" sp__law_held) (g_high : Fc P w K mg base (L2N.CX P w) 8 "high" (sp_high c_NoStack)) (g_sunk : Fc P w K mg base (L2N.CX P w) 7 "sunk" (sp_sunk c_NoStack c_NoPlace)) (g_left : Fc P w K mg base (L2N.CX P w) 7 "left" (sp_left c_NoStack c_NoPlace)) (g__law_heights : Fc P w K mg base CX0 7 "_law_heights" sp__law_heights) (g__law_high : Fc P w K mg base CX0 8 "_law_high" sp__law_high) (g__law_word : Fc P w K mg base CX0 9 "_law_word" (sp__law_word wd c_NoStack c_NoPlace)) (g__law_drawn : Fc P w K mg base CX0 8 "_law_drawn" sp__law_drawn) : FnOk P w K mg base CX0 10 f fd ["script"] (toSp K sp_law) := by
  refine okD F sc_law (fun ds M Q E h => len_law h) fun cdv A outer s H E hr => ⟨t_law wd c_NoStack c_NoPlace, ?_, fun ds M Q E' h => rd_law w_NoStack w_NoPlace h⟩
  exact (ds_cons (ds_for PassesOwn.never rfl (di_range1 B.range (da_cons (dmax rfl B.max (da_cons dint (da_cons (dmin rfl B.min (da_cons dint (da_cons (dlen B.len (da_cons (dv 0) da_nil)) da_nil))) da_nil))) da_nil)) (dg_name (i := 1) sc_law.nd)
    (ds_cons (ds_set (i := 2) sc_law.nd (dcall g__law_well hr (by decide) (da_cons (dv 0) (da_cons (dv 1) da_nil)) pass0))
    (ds_cons (ds_set (i := 3) sc_law.nd (dcall g__law_stack hr (by decide) (da_cons (dv 2) (da_cons dint da_nil)) pass0))
    (ds_cons (ds_set (i := 4) sc_law.nd (dcall g_heights hr (by decide) (da_cons (dv 3) da_nil) passN))
    (ds_cons (ds_if (PW.pt (dwor (dtne hr.units (dv 4) (dcall g__law_heights hr (by decide) (da_cons (dv 3) da_nil) pass0)) (dwor1 (dtne hr.units (dcall g_high hr (by decide) (da_cons (dv 3) da_nil) passN) (dcall g__law_high hr (by decide) (da_cons (dv 3) da_nil) pass0))))) (ds_one (ds_ret dbl)) ds_nil)
    (ds_cons (ds_if (dtne hr.units (dfrz (dcall g_held_by hr (by decide) (da_cons (dv 3) da_nil) passN)) (dcall g__law_held hr (by decide) (da_cons (dv 3) (da_cons (dv 4) da_nil)) pass0)) (ds_one (ds_ret dbl)) ds_nil)
    (ds_cons (ds_if (dtne hr.units (dfrz (dcall g_heights hr (by decide) (da_cons (dif (dtgt (dlen B.len (da_cons (dv 3) da_nil)) dint) (dsl (dv 3) do_none (do_some (dneg dint))) (dv 3)) da_nil) passN)) (dsl (dv 4) do_none (do_some (dmax rfl B.max (da_cons dint (da_cons (dsub (dlen B.len (da_cons (dv 3) da_nil)) dint) da_nil)))))) (ds_one (ds_ret dbl)) ds_nil)
    (ds_cons (ds_if (dtne hr.units (dlc (own := [("place", 5)]) rfl sc_law.nd (di_range1 B.range (da_cons (dlen B.len (da_cons (dv 3) da_nil)) da_nil)) (blkOk_by (N := n_law) (by kernel_rfl)) (fun _ _ _ _ _ => (dc_one sc_law.nd)) (fun _ _ _ _ _ => (dts_one (dtnot (dtest (dcall g__law_drawn hr (by decide) (da_cons (dv 3) (da_cons (dv 4) (da_cons (dv 5) da_nil))) pass0))))) (fun _ _ _ _ _ => (dv 5))) (dlst da_nil)) (ds_one (ds_ret dbl)) ds_nil)
    (ds_cons (ds_set (i := 6) sc_law.nd (dlst (da_cons (dtup da_nil) (da_cons (dlistof B.list (da_cons (dv 3) da_nil)) (da_cons (dsl (dmul (dv 3) dint) do_none (do_some dint)) (da_cons (dadd (dv 3) (dtup (da_cons dnon da_nil))) (da_cons dnon (da_cons (dtup (da_cons (dtup (da_cons dint (da_cons dint (da_cons dint da_nil)))) da_nil)) (da_cons (dix (dv 3) dint) da_nil)))))))))
    (ds_cons (ds_for PassesOwn.never rfl (di_list (dv 6)) (dg_name (i := 7) sc_law.nd)
    (ds_one (ds_if (dtne hr.units (dlc (own := [("way", 8)]) rfl sc_law.nd (di_range1 B.range (da_cons dint da_nil)) (blkOk_by (N := n_law) (by kernel_rfl)) (fun _ _ _ _ _ => (dc_one sc_law.nd)) (fun _ _ _ _ _ => (dts_one (dtne hr.units (dcall g__law_word hr (by decide) (da_cons (dv 8) (da_cons (dv 7) (da_cons dnon da_nil))) pass0) dstr))) (fun _ _ _ _ _ => (dv 8))) (dlst da_nil)) (ds_one (ds_ret dbl)) ds_nil)))
    (ds_cons (ds_for PassesOwn.never rfl (di_list (dlst (da_cons (dneg dint) (da_cons (dlen B.len (da_cons (dv 3) da_nil)) (da_cons dnon (da_cons dbl (da_cons dstr da_nil))))))) (dg_name (i := 5) sc_law.nd)
    (ds_one (ds_if (PW.pt (dwor (dtne hr.units (dcall g__law_word hr (by decide) (da_cons dint (da_cons (dv 3) (da_cons (dv 5) da_nil))) pass0) dstr) (dwor1 (dtne hr.units (dcall g__law_word hr (by decide) (da_cons dint (da_cons (dv 3) (da_cons (dv 5) da_nil))) pass0) dstr)))) (ds_one (ds_ret dbl)) ds_nil)))
    (ds_cons (ds_expr (dapp (dv 4) dnon))
    (ds_cons (ds_expr (dapp (dcall g_held_by hr (by decide) (da_cons (dv 3) da_nil) passN) dnon))
    (ds_one (ds_if (PW.pt (dwor (dteq hr.units (dfrz (dcall g_heights hr (by decide) (da_cons (dv 3) da_nil) passN)) (dv 4)) (dwor1 (dtne hr.units (dfrz (dcall g_held_by hr (by decide) (da_cons (dv 3) da_nil) passN)) (dcall g__law_held hr (by decide) (da_cons (dv 3) (da_cons (dcall g__law_heights hr (by decide) (da_cons (dv 3) da_nil) pass0) da_nil)) pass0))))) (ds_one (ds_ret dbl)) ds_nil)))))))))))))))
    (ds_cons (ds_set (i := 9) sc_law.nd (dtup (da_cons (dtup (da_cons dint (da_cons dint (da_cons dint da_nil)))) (da_cons (dtup (da_cons dint (da_cons dint (da_cons dint da_nil)))) (da_cons (dtup (da_cons dint (da_cons dint (da_cons dint da_nil)))) da_nil)))))
    (ds_cons (ds_if (PW.pt (dwor (dtne hr.units (dfrz (dcall g_heights hr (by decide) (da_cons (dv 9) da_nil) passN)) (dlst (da_cons (dtup (da_cons dint (da_cons dint da_nil))) (da_cons (dtup (da_cons dint (da_cons dint da_nil))) (da_cons (dtup (da_cons dint (da_cons dint da_nil))) da_nil))))) (dwor (dtne hr.units (dcall g_high hr (by decide) (da_cons (dv 9) da_nil) passN) (dtup (da_cons dint (da_cons dint da_nil)))) (dwor1 (dtne hr.units (dfrz (dcall g_held_by hr (by decide) (da_cons (dv 9) da_nil) passN)) (dlst (da_cons (dlst da_nil) (da_cons (dlst (da_cons dint da_nil)) (da_cons (dlst (da_cons dint (da_cons dint da_nil))) da_nil))))))))) (ds_one (ds_ret dbl)) ds_nil)
    (ds_one (ds_ret (dandV (deq hr.units (dcall g_sunk hr (by decide) (da_cons (dv 9) (da_cons dint da_nil)) passN) (dlst (da_cons (dtup (da_cons dint (da_cons dint da_nil))) (da_cons (dtup (da_cons dint (da_cons dint da_nil))) da_nil)))) (done (deq hr.units (dcall g_left hr (by decide) (da_cons (dv 9) (da_cons dint da_nil)) passN) (dlst (da_cons (dtup (da_cons dint (da_cons dint da_nil))) (da_cons (dtup (da_cons dint (da_cons dint da_nil))) da_nil)))))))))))
abbrev lev_law : Nat := 10

end
end BN

/-! the end: what the top leaves, as facts of the written part -/
namespace BN
open PySem PySem.Spec PyProof.Rows L2
section
variable {K : PySem.W.Frag} {h : Heap} {mg : Str → Option Value}
theorem dn_mk (X : K.In h) (G : h.Ns mainGlobals mg) {x : Str} {st : Stmt} {f : Addr} {oc : Value} {od an : Option Addr} {osl : Array (Option Value)} {kV doc pm cdv ct : Value} (a : PySem.W.nsIn K mainGlobals x = some (some (.ref f)))
    (l : K.lookup f = some ⟨oc, od, .func (PySem.W.fnOf x x (defArgs st) (defBody st) (defScope st) .none kV doc pm an cdv ct), osl⟩) (c : PySem.W.codeIn K cdv x = true) (k : PySem.W.keepIn K (.ref f) = true) : Dn K mg x st :=
  ⟨f, _, PySem.W.mg_of X G a, fun_mk l c k⟩
theorem gd_int (X : K.In h) (G : h.Ns mainGlobals mg) {x : Str} {i : Int} {t : Tok} (a : PySem.W.nsIn K mainGlobals x = some (some (.int i t))) : Gd K mg x (.d (.int i)) := ⟨_, .int i, PySem.W.mg_of X G a, ⟨t, rfl⟩, fun _ _ => Rp.int i⟩
theorem gd_pair (X : K.In h) (G : h.Ns mainGlobals mg) {x : Str} {i j : Int} {t u : Tok} {p : Addr} {od : Option Addr} {n : Nat} {sl : Array (Option Value)} (a : PySem.W.nsIn K mainGlobals x = some (some (.ref p)))
    (l : K.lookup p = some ⟨.type "tuple", od, .seq #[.int i t, .int j u] n, sl⟩) : Gd K mg x (.d (.tuple [.int i, .int j])) :=
  ⟨_, .ref p, PySem.W.mg_of X G a, rfl, fun _ _ => Rp.tup (.inr ⟨_, _, _, l, rfl, rfl, by show 2 ≤ sizeLine; decide, .cons (show RelV (.int i) _ from ⟨t, rfl⟩) (.cons (show RelV (.int j) _ from ⟨u, rfl⟩) .nil)⟩) (.cons (Rp.int i) (.cons (Rp.int j) .nil))⟩
theorem exc_mk (X : K.In h) (G : h.Ns mainGlobals mg) {x : Str} {C : Addr} (a : PySem.W.nsIn K mainGlobals x = some (some (.ref C))) (e : PySem.W.excIn K C [.type "ValueError", .type "Exception", .type "BaseException", .type "object"] "ValueError.__new__" = true)
    (k : PySem.W.keepIn K (.ref C) = true) (b : PySem.W.subIn K (.ref C) (.type "BaseException") = some true) (t : PySem.W.typeIn K (.ref C) = some (.type "type")) : ExcK K mg x C := ⟨PySem.W.mg_of X G a, e, k, b, t⟩
theorem with_fn (X : K.In h) (G : h.Ns mainGlobals mg) {C : Prop} {x : Str} {st : Stmt} {f : Addr} {oc : Value} {od an : Option Addr} {osl : Array (Option Value)} {kV doc pm cdv ct : Value} (a : PySem.W.nsIn K mainGlobals x = some (some (.ref f)))
    (l : K.lookup f = some ⟨oc, od, .func (PySem.W.fnOf x x (defArgs st) (defBody st) (defScope st) .none kV doc pm an cdv ct), osl⟩) (c : PySem.W.codeIn K cdv x = true) (k : PySem.W.keepIn K (.ref f) = true) (next : Dn K mg x st → C) : C := next (dn_mk X G a l c k)
theorem with_int (X : K.In h) (G : h.Ns mainGlobals mg) {C : Prop} {x : Str} {i : Int} {t : Tok} (a : PySem.W.nsIn K mainGlobals x = some (some (.int i t))) (next : Gd K mg x (.d (.int i)) → C) : C := next (gd_int X G a)
theorem with_pair (X : K.In h) (G : h.Ns mainGlobals mg) {C : Prop} {x : Str} {i j : Int} {t u : Tok} {p : Addr} {od : Option Addr} {n : Nat} {sl : Array (Option Value)} (a : PySem.W.nsIn K mainGlobals x = some (some (.ref p)))
    (l : K.lookup p = some ⟨.type "tuple", od, .seq #[.int i t, .int j u] n, sl⟩) (next : Gd K mg x (.d (.tuple [.int i, .int j])) → C) : C := next (gd_pair X G a l)
theorem with_none (X : K.In h) (G : h.Ns mainGlobals mg) {C : Prop} {x : Str} (a : PySem.W.nsIn K mainGlobals x = some none) (next : mg x = none → C) : C := next (PySem.W.mg_none_of X G a)
theorem with_exc (X : K.In h) (G : h.Ns mainGlobals mg) {R : Prop} {x : Str} {C : Addr} (a : PySem.W.nsIn K mainGlobals x = some (some (.ref C))) (e : PySem.W.excIn K C [.type "ValueError", .type "Exception", .type "BaseException", .type "object"] "ValueError.__new__" = true)
    (k : PySem.W.keepIn K (.ref C) = true) (b : PySem.W.subIn K (.ref C) (.type "BaseException") = some true) (t : PySem.W.typeIn K (.ref C) = some (.type "type")) (next : ∀ D, ExcK K mg x D → R) : R := next C (exc_mk X G a e k b t)
theorem with_cls (X : K.In h) (G : h.Ns mainGlobals mg) {R : Prop} {x : Str} {C : Addr} (a : PySem.W.nsIn K mainGlobals x = some (some (.ref C))) (next : mg x = some (.ref C) → R) : R := next (PySem.W.mg_of X G a)
/-- the address that a name stands for -/
abbrev adrOf {mg : Str → Option Value} {x : Str} {C : Addr} (_ : mg x = some (.ref C)) : Addr := C
theorem scr_of {H : Hp} {a : Addr} {ns : List Int} (hO : Only H) (hS : SqL K H a (ns.map V.int)) : (∃ o, H a = some (.frz o (.lst (ns.map V.int)))) ∨ SqL K Hp0 a (ns.map V.int) := by
  rcases hS with (h | ⟨o, h⟩) | h
  · rcases hO a with e | ⟨o, xs, e⟩
    · rw [e] at h; cases h
    · rw [e] at h; cases h
  · exact .inl ⟨o, h⟩
  · exact .inr (.inr h)
theorem start_law {sp : DSp} {H : Hp} {a : Addr} {ns : List Int} (hO : Only H) (hS : SqL K H a (ns.map V.int)) (hsp : sp [.scr ns] (fun _ => none) (fun x _ => x = .d (.bool true)) X0) : toSp K sp [.ref a] H (fun v _ => v = .bl true) fun _ _ _ => False :=
  ⟨[.scr ns], ⟨fun _ => none, fun _ => False⟩, fun x _ => x = .d (.bool true), X0, .cons ⟨a, rfl, scr_of hO hS⟩ .nil, ⟨fun _ _ e => (nomatch e), fun _ e => e.elim, fun _ e => e.elim⟩, hsp,
    fun x W' v H' q dv _ _ => by
      subst q
      exact Rp.blI dv, fun _ _ _ e _ _ => e.elim⟩
theorem binds1 {st : Stmt} {f : Addr} {fd : FuncData} (F : Fun K "law" "law" st f fd) (b : ∀ (kV doc pm : Value) (an : Option Addr) (cdv ct u : Value), bindArgs (PySem.W.fnOf "law" "law" (defArgs st) (defBody st) (defScope st) .none kV doc pm an cdv ct) ⟨[u], []⟩ = pure [(("script" : Str), u)]) :
    ∀ (s : Shared) (u : Value), BindsTo s fd ⟨[u], []⟩ [("script", u)] := by
  obtain ⟨oc, od, kV, doc, pm, an, cdv, ct, osl, rfl, lk, hcd⟩ := F.ex
  exact fun s u => .of_eq (b kV doc pm an cdv ct u)
end
theorem walk {sp : DSp} {k : Nat} {l : PySem.W.OpenLaw} {q : Program} {loose : List Str} {XP : (Str → Option Value) → Heap → Prop} {YP : World → Heap → Prop} {d : DefRec} {K : Params → PySem.W.Frag} (hn : l.most = some 63) (hdf : d.params.defaults = []) (hr : Room k callerA)
    (hsp : ∀ ns : List Int, ns.length ≤ 63 → sp [.scr ns] (fun _ => none) (fun x _ => x = .d (.bool true)) X0)
    (hY : ∀ (w : World) (h : Heap), YP w h → (K w.params).In h)
    (F : ∀ (w : World) (mg : Str → Option Value) (fa : Addr) (h : Heap), (K w.params).In h → h.Ns mainGlobals mg → mg d.name = some (.ref fa) →
      ∃ fd : FuncData, (∀ (s : Shared) (u : Value), BindsTo s fd ⟨[u], []⟩ [("script", u)]) ∧ ∀ base : Heap, (K w.params).In base → base.Ns mainGlobals mg → FnOk l.prog w (K w.params) mg base CX0 k fa fd ["script"] (toSp (K w.params) sp)) :
    PySem.W.WalkO q loose XP YP l.row.toRowW d [] (fun f vs => PySem.call f vs) :=
  L2.walk_of (n := 63) (k := k) (x := "script") (CX := fun _ => CX0) (sp := fun w => toSp (K w.params) sp) hn (by decide) hdf hr hY F (fun _ _ a ns hl hO hS => start_law hO hS (hsp ns hl)) fun _ _ _ _ _ z => z
end BN

namespace BN
open PySem PySem.Spec PyProof.Rows L2
section
variable {P : Program} {w : World} {K : PySem.W.Frag} {mg : Str → Option Value} {base : Heap}
theorem mk_kind {h : Heap} (KX : K.In h) {C : Addr} {xC : Str} (gC : mg xC = some (.ref C)) {A1 A2 A3 A4 A5 A6 A7 A8 : Addr} (g1 : mg "NoBowl" = some (.ref A1)) (g2 : mg "NoStack" = some (.ref A2)) (g3 : mg "NoPlace" = some (.ref A3)) (g4 : mg "NoRest" = some (.ref A4)) (g5 : mg "Full" = some (.ref A5)) (g6 : mg "Empty" = some (.ref A6)) (g7 : mg "NothingLeft" = some (.ref A7)) (g8 : mg "BowlError" = some (.ref A8)) (n9 : mg "ValueError" = none) (b1 b2 b3 b4 b5 b6 b7 b8 b9 : Bool) {R : Prop}
    (hg : PySem.W.findIn K (.ref C) "__getattribute__" = some (some (.builtin "BaseException.__getattribute__"))) (hk : PySem.W.findIn K (.ref C) "__getattr__" = some none) (hs : PySem.W.subIn K (.ref C) (.type "BaseException") = some true) (hd : PySem.W.hasDictIn K C = true)
    (ha : PySem.W.findIn K (.ref C) "__class__" = some (some (.builtin "object.__class__"))) (hn : PySem.W.specialIn K (.builtin "object.__class__") "__get__" = some (some (.builtin "getset_descriptor.__get__"))) (ht : PySem.W.takesIn K (.builtin "object.__class__") = some true) (hm : PySem.W.mroIn K C (.type "object") = some true)
    (q1 : PySem.W.kitOne K (.ref C) (.ref A1) = some b1) (q2 : PySem.W.kitOne K (.ref C) (.ref A2) = some b2) (q3 : PySem.W.kitOne K (.ref C) (.ref A3) = some b3) (q4 : PySem.W.kitOne K (.ref C) (.ref A4) = some b4) (q5 : PySem.W.kitOne K (.ref C) (.ref A5) = some b5) (q6 : PySem.W.kitOne K (.ref C) (.ref A6) = some b6) (q7 : PySem.W.kitOne K (.ref C) (.ref A7) = some b7) (q8 : PySem.W.kitOne K (.ref C) (.ref A8) = some b8) (q9 : PySem.W.kitOne K (.ref C) (.type "ValueError") = some b9)
    (next : KindF K mg C b1 b2 b3 b4 b5 b6 b7 b8 b9 → R) : R :=
  next ⟨⟨hg, hk, hs, hd, ha, hn, ht, hm⟩, ⟨.ref A1, fun X e => .own (by rw [e]; exact g1), q1⟩, ⟨.ref A2, fun X e => .own (by rw [e]; exact g2), q2⟩, ⟨.ref A3, fun X e => .own (by rw [e]; exact g3), q3⟩, ⟨.ref A4, fun X e => .own (by rw [e]; exact g4), q4⟩, ⟨.ref A5, fun X e => .own (by rw [e]; exact g5), q5⟩, ⟨.ref A6, fun X e => .own (by rw [e]; exact g6), q6⟩, ⟨.ref A7, fun X e => .own (by rw [e]; exact g7), q7⟩, ⟨.ref A8, fun X e => .own (by rw [e]; exact g8), q8⟩, ⟨.ty "ValueError", fun X e => .blt (by rw [e]; exact n9) (by decide +kernel), q9⟩⟩
theorem mk_exm {h : Heap} (KX : K.In h) {C D : Addr} {x y : Str} (gC : mg x = some (.ref C)) (gD : mg y = some (.ref D)) {R : Prop} (q : PySem.W.exmOne K (.ref C) (.ref D) = some true) (next : PySem.W.exmOne K (.ref C) (.ref D) = some true → R) : R := next q
theorem mk_exc {h : Heap} (KX : K.In h) {x : Str} {C : Addr} {R : Prop} (g : mg x = some (.ref C)) (e : PySem.W.excIn K C [.type "ValueError", .type "Exception", .type "BaseException", .type "object"] "ValueError.__new__" = true)
    (k : PySem.W.keepIn K (.ref C) = true) (b : PySem.W.subIn K (.ref C) (.type "BaseException") = some true) (t : PySem.W.typeIn K (.ref C) = some (.type "type")) (next : ExcK K mg x C → R) : R := next ⟨g, e, k, b, t⟩
theorem all_law (B : Glb K mg) {c_NoBowl : Addr} {c_NoStack : Addr} {c_NoPlace : Addr} {c_BowlError : Addr} (k_NoBowl : ExcK K mg "NoBowl" c_NoBowl) (k_NoStack : ExcK K mg "NoStack" c_NoStack) (k_NoPlace : ExcK K mg "NoPlace" c_NoPlace) (kf_NoBowl : KindF K mg c_NoBowl true false false false false false false true true) (xm_NoBowl : PySem.W.exmOne K (.ref c_NoBowl) (.ref c_BowlError) = some true) (kf_NoStack : KindF K mg c_NoStack false true false false false false false true true) (xm_NoStack : PySem.W.exmOne K (.ref c_NoStack) (.ref c_BowlError) = some true) (kf_NoPlace : KindF K mg c_NoPlace false false true false false false false true true) (xm_NoPlace : PySem.W.exmOne K (.ref c_NoPlace) (.ref c_BowlError) = some true) (gc : mg "BowlError" = some (.ref c_BowlError)) (h_divisor : Dn K mg "divisor" s_divisor) (h_fraction : Dn K mg "fraction" s_fraction) (h_plus : Dn K mg "plus" s_plus) (h_minus : Dn K mg "minus" s_minus) (h_is_less : Dn K mg "is_less" s_is_less) (h_is_whole : Dn K mg "is_whole" s_is_whole) (h_is_bowl : Dn K mg "is_bowl" s_is_bowl) (h_need_bowl : Dn K mg "need_bowl" s_need_bowl) (h_greatest : Dn K mg "greatest" s_greatest) (h_rest_of : Dn K mg "rest_of" s_rest_of) (h_rest : Dn K mg "rest" s_rest) (h_is_stack : Dn K mg "is_stack" s_is_stack) (h_need_stack : Dn K mg "need_stack" s_need_stack) (h_wants : Dn K mg "wants" s_wants) (h_heights_of : Dn K mg "heights_of" s_heights_of) (h_heights : Dn K mg "heights" s_heights) (h_high_of : Dn K mg "high_of" s_high_of) (h_high : Dn K mg "high" s_high) (h_held_by : Dn K mg "held_by" s_held_by) (h_need_place : Dn K mg "need_place" s_need_place) (h_left : Dn K mg "left" s_left) (h_sunk : Dn K mg "sunk" s_sunk) (h__law_well : Dn K mg "_law_well" s__law_well) (h__law_take : Dn K mg "_law_take" s__law_take) (h__law_frac : Dn K mg "_law_frac" s__law_frac) (h__law_plus : Dn K mg "_law_plus" s__law_plus) (h__law_minus : Dn K mg "_law_minus" s__law_minus) (h__law_less : Dn K mg "_law_less" s__law_less) (h__law_kinds : Dn K mg "_law_kinds" s__law_kinds) (h__law_refusal : Dn K mg "_law_refusal" s__law_refusal) (h__law_bowl : Dn K mg "_law_bowl" s__law_bowl) (h__law_stack : Dn K mg "_law_stack" s__law_stack) (h__law_demands : Dn K mg "_law_demands" s__law_demands) (h__law_heights : Dn K mg "_law_heights" s__law_heights) (h__law_high : Dn K mg "_law_high" s__law_high) (h__law_word : Dn K mg "_law_word" s__law_word) (h__law_held : Dn K mg "_law_held" s__law_held) (h__law_drawn : Dn K mg "_law_drawn" s__law_drawn) {f : Addr} {fd : FuncData} (F : Fun K "law" "law" s_law f fd) : FnOk P w K mg base CX0 lev_law f fd ["script"] (toSp K sp_law) := by
  have hw : ∀ C w_, (C, w_) ∈ [(c_NoBowl, ("bowl" : Str)), (c_NoStack, ("stack" : Str)), (c_NoPlace, ("place" : Str))] → PySem.W.exmOne K (.ref C) (.ref c_BowlError) = some true ∧ ∀ a, FcE P w K mg base 2 "_law_refusal" a C (spRef a w_) := by
    intro C w_ h
    simp only [List.mem_cons, Prod.mk.injEq, List.not_mem_nil, or_false] at h
    rcases h with ⟨rfl, rfl⟩ | ⟨rfl, rfl⟩ | ⟨rfl, rfl⟩
    · exact ⟨xm_NoBowl, fun a => fcE__law_refusal (k := 0) B h__law_refusal (by simp) (fcE__law_kinds B h__law_kinds kf_NoBowl)⟩
    · exact ⟨xm_NoStack, fun a => fcE__law_refusal (k := 1) B h__law_refusal (by simp) (fcE__law_kinds B h__law_kinds kf_NoStack)⟩
    · exact ⟨xm_NoPlace, fun a => fcE__law_refusal (k := 2) B h__law_refusal (by simp) (fcE__law_kinds B h__law_kinds kf_NoPlace)⟩
  have g_divisor : Fc P w K mg base CX0 1 "divisor" sp_divisor := fc_divisor B h_divisor
  have g_fraction : Fc P w K mg base CX0 2 "fraction" sp_fraction := fc_fraction B h_fraction g_divisor
  have g_plus : Fc P w K mg base CX0 3 "plus" sp_plus := fc_plus B h_plus g_fraction
  have g_minus : Fc P w K mg base CX0 3 "minus" sp_minus := fc_minus B h_minus g_fraction
  have g_is_less : Fc P w K mg base CX0 1 "is_less" sp_is_less := fc_is_less B h_is_less
  have g_is_whole : Fc P w K mg base CX0 1 "is_whole" sp_is_whole := fc_is_whole B h_is_whole
  have g_is_bowl : Fc P w K mg base CX0 2 "is_bowl" sp_is_bowl := fc_is_bowl B h_is_bowl g_is_whole
  have g_need_bowl : Fc P w K mg base (L2N.CX P w) 3 "need_bowl" (sp_need_bowl c_NoBowl) := fc_need_bowl (c_NoBowl := c_NoBowl) B h_need_bowl k_NoBowl g_is_bowl
  have g_greatest : Fc P w K mg base CX0 2 "greatest" sp_greatest := fc_greatest B h_greatest g_is_less
  have g_rest_of : Fc P w K mg base CX0 4 "rest_of" sp_rest_of := fc_rest_of B h_rest_of g_greatest g_fraction g_minus
  have g_rest : Fc P w K mg base (L2N.CX P w) 5 "rest" (sp_rest c_NoBowl) := fc_rest (c_NoBowl := c_NoBowl) B h_rest g_need_bowl g_rest_of
  have g_is_stack : Fc P w K mg base CX0 3 "is_stack" sp_is_stack := fc_is_stack B h_is_stack g_is_bowl
  have g_need_stack : Fc P w K mg base (L2N.CX P w) 4 "need_stack" (sp_need_stack c_NoStack) := fc_need_stack (c_NoStack := c_NoStack) B h_need_stack k_NoStack g_is_stack
  have g_wants : Fc P w K mg base CX0 5 "wants" sp_wants := fc_wants B h_wants g_plus g_rest_of
  have g_heights_of : Fc P w K mg base CX0 6 "heights_of" sp_heights_of := fc_heights_of B h_heights_of g_greatest g_wants
  have g_heights : Fc P w K mg base (L2N.CX P w) 7 "heights" (sp_heights c_NoStack) := fc_heights (c_NoStack := c_NoStack) B h_heights g_need_stack g_heights_of
  have g_high_of : Fc P w K mg base CX0 7 "high_of" sp_high_of := fc_high_of B h_high_of g_greatest g_plus g_heights_of
  have g_high : Fc P w K mg base (L2N.CX P w) 8 "high" (sp_high c_NoStack) := fc_high (c_NoStack := c_NoStack) B h_high g_need_stack g_high_of
  have g_held_by : Fc P w K mg base (L2N.CX P w) 7 "held_by" (sp_held_by c_NoStack) := fc_held_by (c_NoStack := c_NoStack) B h_held_by g_need_stack g_heights_of g_wants
  have g_need_place : Fc P w K mg base (L2N.CX P w) 2 "need_place" (sp_need_place c_NoPlace) := fc_need_place (c_NoPlace := c_NoPlace) B h_need_place k_NoPlace g_is_whole
  have g_left : Fc P w K mg base (L2N.CX P w) 7 "left" (sp_left c_NoStack c_NoPlace) := fc_left (c_NoStack := c_NoStack) (c_NoPlace := c_NoPlace) B h_left g_need_stack g_need_place g_heights_of
  have g_sunk : Fc P w K mg base (L2N.CX P w) 7 "sunk" (sp_sunk c_NoStack c_NoPlace) := fc_sunk (c_NoStack := c_NoStack) (c_NoPlace := c_NoPlace) B h_sunk g_need_stack g_need_place g_minus g_heights_of
  have g__law_well : Fc P w K mg base CX0 1 "_law_well" sp__law_well := fc__law_well B h__law_well
  have g__law_take : Fc P w K mg base CX0 1 "_law_take" sp__law_take := fc__law_take B h__law_take
  have g__law_frac : Fc P w K mg base CX0 1 "_law_frac" sp__law_frac := fc__law_frac B h__law_frac
  have g__law_plus : Fc P w K mg base CX0 2 "_law_plus" sp__law_plus := fc__law_plus B h__law_plus g__law_frac
  have g__law_minus : Fc P w K mg base CX0 2 "_law_minus" sp__law_minus := fc__law_minus B h__law_minus g__law_frac
  have g__law_less : Fc P w K mg base CX0 1 "_law_less" sp__law_less := fc__law_less B h__law_less
  have g__law_bowl : Fc P w K mg base CX0 2 "_law_bowl" sp__law_bowl := fc__law_bowl B h__law_bowl g__law_take
  have g__law_stack : Fc P w K mg base CX0 3 "_law_stack" sp__law_stack := fc__law_stack B h__law_stack g__law_bowl g__law_take
  have g__law_demands : Fc P w K mg base CX0 6 "_law_demands" sp__law_demands := fc__law_demands (c_NoBowl := c_NoBowl) B h__law_demands g__law_plus g_rest
  have g__law_heights : Fc P w K mg base CX0 7 "_law_heights" sp__law_heights := fc__law_heights B h__law_heights g__law_demands g__law_less
  have g__law_high : Fc P w K mg base CX0 8 "_law_high" sp__law_high := fc__law_high B h__law_high g__law_heights g__law_plus g__law_less
  have g__law_word : Fc P w K mg base CX0 9 "_law_word" (sp__law_word [(c_NoBowl, ("bowl" : Str)), (c_NoStack, ("stack" : Str)), (c_NoPlace, ("place" : Str))] c_NoStack c_NoPlace) := fc__law_word (c_NoStack := c_NoStack) (c_NoPlace := c_NoPlace) (wd := [(c_NoBowl, ("bowl" : Str)), (c_NoStack, ("stack" : Str)), (c_NoPlace, ("place" : Str))]) B h__law_word hw gc g_heights g_high g_held_by g_left g_sunk
  have g__law_held : Fc P w K mg base CX0 7 "_law_held" sp__law_held := fc__law_held B h__law_held g__law_demands
  have g__law_drawn : Fc P w K mg base CX0 8 "_law_drawn" sp__law_drawn := fc__law_drawn (c_NoStack := c_NoStack) (c_NoPlace := c_NoPlace) B h__law_drawn g__law_heights g__law_minus g_left g_sunk
  exact ok_law (c_NoStack := c_NoStack) (c_NoPlace := c_NoPlace) (wd := [(c_NoBowl, ("bowl" : Str)), (c_NoStack, ("stack" : Str)), (c_NoPlace, ("place" : Str))]) B F (by simp) (by simp) g__law_well g__law_stack g_heights g_held_by g__law_held g_high g_sunk g_left g__law_heights g__law_high g__law_word g__law_drawn
end
theorem start_ok (ns : List Int) (hn : ns.length ≤ 63) : sp_law [.scr ns] (fun _ => none) (fun x _ => x = .d (.bool true)) X0 := ⟨ns, rfl, hn, rfl⟩
end BN
open PySem PySem.W PyProof.Rows
set_option maxRecDepth 100000 in
set_option maxHeartbeats 0 in
theorem PySem.Challenge.cw_bowlnest_k21_whole_stacks_holds : PySem.Challenge.rw_bowlnest_k21_whole_stacks.Holds := by
  w_on; o_law; k_head; (case hw => w_witness2)
  k_fill
  refine BN.walk (sp := BN.sp_law) (k := BN.lev_law) (l := PySem.Challenge.rw_bowlnest_k21_whole_stacks) rfl rfl ⟨rfl, by decide, by decide⟩ (fun ns hn => BN.start_ok ns hn) (fun w h Y => PySem.W.kIn_of Y) ?F
  case F =>
    intro w mg fa h KX G hmg
    refine' BN.with_none (x := "len") KX G ?a fun n_len => ?_
    (case a => k_is)
    refine' BN.with_none (x := "abs") KX G ?a fun n_abs => ?_
    (case a => k_is)
    refine' BN.with_none (x := "min") KX G ?a fun n_min => ?_
    (case a => k_is)
    refine' BN.with_none (x := "max") KX G ?a fun n_max => ?_
    (case a => k_is)
    refine' BN.with_none (x := "all") KX G ?a fun n_all => ?_
    (case a => k_is)
    refine' BN.with_none (x := "list") KX G ?a fun n_list => ?_
    (case a => k_is)
    refine' BN.with_none (x := "tuple") KX G ?a fun n_tuple => ?_
    (case a => k_is)
    refine' BN.with_none (x := "int") KX G ?a fun n_int => ?_
    (case a => k_is)
    refine' BN.with_none (x := "bool") KX G ?a fun n_bool => ?_
    (case a => k_is)
    refine' BN.with_none (x := "isinstance") KX G ?a fun n_isinstance => ?_
    (case a => k_is)
    refine' BN.with_none (x := "range") KX G ?a fun n_range => ?_
    (case a => k_is)
    refine' BN.with_none (x := "zip") KX G ?a fun n_zip => ?_
    (case a => k_is)
    refine' BN.with_none (x := "enumerate") KX G ?a fun n_enumerate => ?_
    (case a => k_is)
    refine' BN.with_pair (x := "NOUGHT") KX G ?a ?l fun g_NOUGHT => ?_
    (case a => k_is); (case l => k_is)
    refine' BN.with_int (x := "MOST") KX G ?a fun g_MOST => ?_
    (case a => k_is)
    refine' BN.with_int (x := "MOST_BOWLS") KX G ?a fun g_MOST_BOWLS => ?_
    (case a => k_is)
    refine' BN.with_cls (x := "NoBowl") KX G ?a fun a_NoBowl => ?_
    (case a => k_is)
    refine' BN.with_cls (x := "NoStack") KX G ?a fun a_NoStack => ?_
    (case a => k_is)
    refine' BN.with_cls (x := "NoPlace") KX G ?a fun a_NoPlace => ?_
    (case a => k_is)
    refine' BN.with_cls (x := "NoRest") KX G ?a fun a_NoRest => ?_
    (case a => k_is)
    refine' BN.with_cls (x := "Full") KX G ?a fun a_Full => ?_
    (case a => k_is)
    refine' BN.with_cls (x := "Empty") KX G ?a fun a_Empty => ?_
    (case a => k_is)
    refine' BN.with_cls (x := "NothingLeft") KX G ?a fun a_NothingLeft => ?_
    (case a => k_is)
    refine' BN.with_cls (x := "BowlError") KX G ?a fun a_BowlError => ?_
    (case a => k_is)
    refine' BN.with_none (x := "ValueError") KX G ?a fun n_ValueError => ?_
    (case a => k_is)
    refine' BN.mk_exc KX a_NoBowl ?e ?k ?b ?t fun k_NoBowl => ?_
    (case e => k_exc); (case k => k_is); (case b => k_is); (case t => k_is)
    refine' BN.mk_kind KX a_NoBowl a_NoBowl a_NoStack a_NoPlace a_NoRest a_Full a_Empty a_NothingLeft a_BowlError n_ValueError true false false false false false false true true ?hg ?hk ?hs ?hd ?ha ?hn ?ht ?hm ?q1 ?q2 ?q3 ?q4 ?q5 ?q6 ?q7 ?q8 ?q9 fun kf_NoBowl => ?_
    (case hg => k_is); (case hk => k_is); (case hs => k_is); (case hd => k_is); (case ha => k_is); (case hn => k_is); (case ht => k_is); (case hm => k_is); (case q1 => kit_is); (case q2 => kit_is); (case q3 => kit_is); (case q4 => kit_is); (case q5 => kit_is); (case q6 => kit_is); (case q7 => kit_is); (case q8 => kit_is); (case q9 => kit_is)
    refine' BN.mk_exm KX a_NoBowl a_BowlError ?xq fun xm_NoBowl => ?_
    (case xq => kts_exm)
    refine' BN.mk_exc KX a_NoStack ?e ?k ?b ?t fun k_NoStack => ?_
    (case e => k_exc); (case k => k_is); (case b => k_is); (case t => k_is)
    refine' BN.mk_kind KX a_NoStack a_NoBowl a_NoStack a_NoPlace a_NoRest a_Full a_Empty a_NothingLeft a_BowlError n_ValueError false true false false false false false true true ?hg ?hk ?hs ?hd ?ha ?hn ?ht ?hm ?q1 ?q2 ?q3 ?q4 ?q5 ?q6 ?q7 ?q8 ?q9 fun kf_NoStack => ?_
    (case hg => k_is); (case hk => k_is); (case hs => k_is); (case hd => k_is); (case ha => k_is); (case hn => k_is); (case ht => k_is); (case hm => k_is); (case q1 => kit_is); (case q2 => kit_is); (case q3 => kit_is); (case q4 => kit_is); (case q5 => kit_is); (case q6 => kit_is); (case q7 => kit_is); (case q8 => kit_is); (case q9 => kit_is)
    refine' BN.mk_exm KX a_NoStack a_BowlError ?xq fun xm_NoStack => ?_
    (case xq => kts_exm)
    refine' BN.mk_exc KX a_NoPlace ?e ?k ?b ?t fun k_NoPlace => ?_
    (case e => k_exc); (case k => k_is); (case b => k_is); (case t => k_is)
    refine' BN.mk_kind KX a_NoPlace a_NoBowl a_NoStack a_NoPlace a_NoRest a_Full a_Empty a_NothingLeft a_BowlError n_ValueError false false true false false false false true true ?hg ?hk ?hs ?hd ?ha ?hn ?ht ?hm ?q1 ?q2 ?q3 ?q4 ?q5 ?q6 ?q7 ?q8 ?q9 fun kf_NoPlace => ?_
    (case hg => k_is); (case hk => k_is); (case hs => k_is); (case hd => k_is); (case ha => k_is); (case hn => k_is); (case ht => k_is); (case hm => k_is); (case q1 => kit_is); (case q2 => kit_is); (case q3 => kit_is); (case q4 => kit_is); (case q5 => kit_is); (case q6 => kit_is); (case q7 => kit_is); (case q8 => kit_is); (case q9 => kit_is)
    refine' BN.mk_exm KX a_NoPlace a_BowlError ?xq fun xm_NoPlace => ?_
    (case xq => kts_exm)
    refine' BN.with_fn (x := "divisor") (st := BN.s_divisor) KX G ?a ?l ?c ?k fun h_divisor => ?_
    (case a => k_is); (case l => k_is); (case c => k_is); (case k => k_is)
    refine' BN.with_fn (x := "fraction") (st := BN.s_fraction) KX G ?a ?l ?c ?k fun h_fraction => ?_
    (case a => k_is); (case l => k_is); (case c => k_is); (case k => k_is)
    refine' BN.with_fn (x := "plus") (st := BN.s_plus) KX G ?a ?l ?c ?k fun h_plus => ?_
    (case a => k_is); (case l => k_is); (case c => k_is); (case k => k_is)
    refine' BN.with_fn (x := "minus") (st := BN.s_minus) KX G ?a ?l ?c ?k fun h_minus => ?_
    (case a => k_is); (case l => k_is); (case c => k_is); (case k => k_is)
    refine' BN.with_fn (x := "is_less") (st := BN.s_is_less) KX G ?a ?l ?c ?k fun h_is_less => ?_
    (case a => k_is); (case l => k_is); (case c => k_is); (case k => k_is)
    refine' BN.with_fn (x := "is_whole") (st := BN.s_is_whole) KX G ?a ?l ?c ?k fun h_is_whole => ?_
    (case a => k_is); (case l => k_is); (case c => k_is); (case k => k_is)
    refine' BN.with_fn (x := "is_bowl") (st := BN.s_is_bowl) KX G ?a ?l ?c ?k fun h_is_bowl => ?_
    (case a => k_is); (case l => k_is); (case c => k_is); (case k => k_is)
    refine' BN.with_fn (x := "need_bowl") (st := BN.s_need_bowl) KX G ?a ?l ?c ?k fun h_need_bowl => ?_
    (case a => k_is); (case l => k_is); (case c => k_is); (case k => k_is)
    refine' BN.with_fn (x := "greatest") (st := BN.s_greatest) KX G ?a ?l ?c ?k fun h_greatest => ?_
    (case a => k_is); (case l => k_is); (case c => k_is); (case k => k_is)
    refine' BN.with_fn (x := "rest_of") (st := BN.s_rest_of) KX G ?a ?l ?c ?k fun h_rest_of => ?_
    (case a => k_is); (case l => k_is); (case c => k_is); (case k => k_is)
    refine' BN.with_fn (x := "rest") (st := BN.s_rest) KX G ?a ?l ?c ?k fun h_rest => ?_
    (case a => k_is); (case l => k_is); (case c => k_is); (case k => k_is)
    refine' BN.with_fn (x := "is_stack") (st := BN.s_is_stack) KX G ?a ?l ?c ?k fun h_is_stack => ?_
    (case a => k_is); (case l => k_is); (case c => k_is); (case k => k_is)
    refine' BN.with_fn (x := "need_stack") (st := BN.s_need_stack) KX G ?a ?l ?c ?k fun h_need_stack => ?_
    (case a => k_is); (case l => k_is); (case c => k_is); (case k => k_is)
    refine' BN.with_fn (x := "wants") (st := BN.s_wants) KX G ?a ?l ?c ?k fun h_wants => ?_
    (case a => k_is); (case l => k_is); (case c => k_is); (case k => k_is)
    refine' BN.with_fn (x := "heights_of") (st := BN.s_heights_of) KX G ?a ?l ?c ?k fun h_heights_of => ?_
    (case a => k_is); (case l => k_is); (case c => k_is); (case k => k_is)
    refine' BN.with_fn (x := "heights") (st := BN.s_heights) KX G ?a ?l ?c ?k fun h_heights => ?_
    (case a => k_is); (case l => k_is); (case c => k_is); (case k => k_is)
    refine' BN.with_fn (x := "high_of") (st := BN.s_high_of) KX G ?a ?l ?c ?k fun h_high_of => ?_
    (case a => k_is); (case l => k_is); (case c => k_is); (case k => k_is)
    refine' BN.with_fn (x := "high") (st := BN.s_high) KX G ?a ?l ?c ?k fun h_high => ?_
    (case a => k_is); (case l => k_is); (case c => k_is); (case k => k_is)
    refine' BN.with_fn (x := "held_by") (st := BN.s_held_by) KX G ?a ?l ?c ?k fun h_held_by => ?_
    (case a => k_is); (case l => k_is); (case c => k_is); (case k => k_is)
    refine' BN.with_fn (x := "need_place") (st := BN.s_need_place) KX G ?a ?l ?c ?k fun h_need_place => ?_
    (case a => k_is); (case l => k_is); (case c => k_is); (case k => k_is)
    refine' BN.with_fn (x := "left") (st := BN.s_left) KX G ?a ?l ?c ?k fun h_left => ?_
    (case a => k_is); (case l => k_is); (case c => k_is); (case k => k_is)
    refine' BN.with_fn (x := "sunk") (st := BN.s_sunk) KX G ?a ?l ?c ?k fun h_sunk => ?_
    (case a => k_is); (case l => k_is); (case c => k_is); (case k => k_is)
    refine' BN.with_fn (x := "_law_well") (st := BN.s__law_well) KX G ?a ?l ?c ?k fun h__law_well => ?_
    (case a => k_is); (case l => k_is); (case c => k_is); (case k => k_is)
    refine' BN.with_fn (x := "_law_take") (st := BN.s__law_take) KX G ?a ?l ?c ?k fun h__law_take => ?_
    (case a => k_is); (case l => k_is); (case c => k_is); (case k => k_is)
    refine' BN.with_fn (x := "_law_frac") (st := BN.s__law_frac) KX G ?a ?l ?c ?k fun h__law_frac => ?_
    (case a => k_is); (case l => k_is); (case c => k_is); (case k => k_is)
    refine' BN.with_fn (x := "_law_plus") (st := BN.s__law_plus) KX G ?a ?l ?c ?k fun h__law_plus => ?_
    (case a => k_is); (case l => k_is); (case c => k_is); (case k => k_is)
    refine' BN.with_fn (x := "_law_minus") (st := BN.s__law_minus) KX G ?a ?l ?c ?k fun h__law_minus => ?_
    (case a => k_is); (case l => k_is); (case c => k_is); (case k => k_is)
    refine' BN.with_fn (x := "_law_less") (st := BN.s__law_less) KX G ?a ?l ?c ?k fun h__law_less => ?_
    (case a => k_is); (case l => k_is); (case c => k_is); (case k => k_is)
    refine' BN.with_fn (x := "_law_kinds") (st := BN.s__law_kinds) KX G ?a ?l ?c ?k fun h__law_kinds => ?_
    (case a => k_is); (case l => k_is); (case c => k_is); (case k => k_is)
    refine' BN.with_fn (x := "_law_refusal") (st := BN.s__law_refusal) KX G ?a ?l ?c ?k fun h__law_refusal => ?_
    (case a => k_is); (case l => k_is); (case c => k_is); (case k => k_is)
    refine' BN.with_fn (x := "_law_bowl") (st := BN.s__law_bowl) KX G ?a ?l ?c ?k fun h__law_bowl => ?_
    (case a => k_is); (case l => k_is); (case c => k_is); (case k => k_is)
    refine' BN.with_fn (x := "_law_stack") (st := BN.s__law_stack) KX G ?a ?l ?c ?k fun h__law_stack => ?_
    (case a => k_is); (case l => k_is); (case c => k_is); (case k => k_is)
    refine' BN.with_fn (x := "_law_demands") (st := BN.s__law_demands) KX G ?a ?l ?c ?k fun h__law_demands => ?_
    (case a => k_is); (case l => k_is); (case c => k_is); (case k => k_is)
    refine' BN.with_fn (x := "_law_heights") (st := BN.s__law_heights) KX G ?a ?l ?c ?k fun h__law_heights => ?_
    (case a => k_is); (case l => k_is); (case c => k_is); (case k => k_is)
    refine' BN.with_fn (x := "_law_high") (st := BN.s__law_high) KX G ?a ?l ?c ?k fun h__law_high => ?_
    (case a => k_is); (case l => k_is); (case c => k_is); (case k => k_is)
    refine' BN.with_fn (x := "_law_word") (st := BN.s__law_word) KX G ?a ?l ?c ?k fun h__law_word => ?_
    (case a => k_is); (case l => k_is); (case c => k_is); (case k => k_is)
    refine' BN.with_fn (x := "_law_held") (st := BN.s__law_held) KX G ?a ?l ?c ?k fun h__law_held => ?_
    (case a => k_is); (case l => k_is); (case c => k_is); (case k => k_is)
    refine' BN.with_fn (x := "_law_drawn") (st := BN.s__law_drawn) KX G ?a ?l ?c ?k fun h__law_drawn => ?_
    (case a => k_is); (case l => k_is); (case c => k_is); (case k => k_is)
    refine' BN.with_fn (x := "law") (st := BN.s_law) KX G ?a ?l ?c ?k fun h_law => ?_
    (case a => k_is); (case l => k_is); (case c => k_is); (case k => k_is)
    obtain ⟨f, fd, hf, F⟩ := h_law
    cases hmg.symm.trans hf
    exact ⟨fd, BN.binds1 F (fun _ _ _ _ _ _ _ => rfl), fun base _ _ => BN.all_law ⟨n_len, n_abs, n_min, n_max, n_all, n_list, n_tuple, n_int, n_bool, n_isinstance, n_range, n_zip, n_enumerate, g_NOUGHT, g_MOST, g_MOST_BOWLS⟩ k_NoBowl k_NoStack k_NoPlace kf_NoBowl xm_NoBowl kf_NoStack xm_NoStack kf_NoPlace xm_NoPlace a_BowlError h_divisor h_fraction h_plus h_minus h_is_less h_is_whole h_is_bowl h_need_bowl h_greatest h_rest_of h_rest h_is_stack h_need_stack h_wants h_heights_of h_heights h_high_of h_high h_held_by h_need_place h_left h_sunk h__law_well h__law_take h__law_frac h__law_plus h__law_minus h__law_less h__law_kinds h__law_refusal h__law_bowl h__law_stack h__law_demands h__law_heights h__law_high h__law_word h__law_held h__law_drawn F⟩

