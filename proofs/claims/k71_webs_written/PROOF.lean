import PyProof.Rows.All
import Wide.All
import OpenK.AllK
import Wide.FinOn
import HandS.ForMost
import HandS.Flow
import HandS.Deep
import HandS.More
import HandS.IsInst
import HandS.Zip
import HandS.Style
import HandS.RaiseMore
import HandS.IntHex
import HandS.Remove
import HandS.WordsExc
import KE.KUnpackStar
import HandS.Codes
import HandS.Defaults
import HandS.HeadHook3
import HandS.Text
import PySem.Challenge.RW_coverrows_k71_webs_written
set_option Elab.async false
set_option linter.all false
set_option Elab.async false
set_option maxRecDepth 100000
set_option maxHeartbeats 4000000
/-! Values told as data: states of a def by what its names hold, objects that it changes by number. -/
namespace Dv
open PySem PySem.Spec PyProof.Rows L2

/-! ### data in the heap -/
def Imm : HO → Prop
  | .tup _ => True
  | .frz _ _ => True
  | _ => False
/-- av: what data keeps off; wr: what may be written -/
structure Bad where
  av : Addr → Prop
  wr : Addr → Prop
  le : ∀ a, wr a → av a
def Bad.add (b : Bad) (p : Addr) : Bad := ⟨fun a => b.av a ∨ a = p, fun a => b.wr a ∨ a = p, fun a h => h.elim (fun z => .inl (b.le a z)) .inr⟩
mutual
inductive Rp (K : PySem.W.Frag) (bad : Bad) (H : Hp) : V → PyData → Prop
  | non : Rp K bad H .non .none
  | bl (b : Bool) : Rp K bad H (.bl b) (.bool b)
  | int (i : Int) : Rp K bad H (.int i) (.int i)
  | str (x : Str) : Rp K bad H (.str x) (.str x)
  | lst {a : Addr} {xs : List V} {ds : List PyData} : H a = some (.lst xs) → ¬ bad.av a → Rps K bad H xs ds → Rp K bad H (.ref a) (.list ds)
  | tup {a : Addr} {xs : List V} {ds : List PyData} : SqT K H a xs → Rps K bad H xs ds → Rp K bad H (.ref a) (.tuple ds)
inductive Rps (K : PySem.W.Frag) (bad : Bad) (H : Hp) : List V → List PyData → Prop
  | nil : Rps K bad H [] []
  | cons {v : V} {vs : List V} {d : PyData} {ds : List PyData} : Rp K bad H v d → Rps K bad H vs ds → Rps K bad H (v :: vs) (d :: ds)
end
/-- what is kept -/
def Kept (bad : Bad) (H H' : Hp) : Prop := ∀ a o, H a = some o → (bad.wr a → Imm o) → H' a = some o
def Stays (H H' : Hp) : Prop := ∀ a, H a ≠ none → H' a ≠ none
section
variable {K : PySem.W.Frag} {bad bad' : Bad} {H H' : Hp} {a p : Addr} {v : V} {d : PyData} {vs : List V} {ds : List PyData}
theorem Kept.refl : Kept bad H H := fun _ _ h _ => h
theorem rd_kept {u : HO} (k : Kept bad H H') (n : ¬ bad.av a) (r : Rd H a u) : Rd H' a u := by
  rcases r with r | ⟨o, r⟩
  · exact .inl (k _ _ r fun z => (n (bad.le _ z)).elim)
  · exact .inr ⟨o, k _ _ r fun _ => True.intro⟩
theorem sqt_kept {xs : List V} (k : Kept bad H H') (r : SqT K H a xs) : SqT K H' a xs := by
  rcases r with (r | ⟨o, r⟩) | r
  · exact .inl (.inl (k _ _ r fun _ => True.intro))
  · exact .inl (.inr ⟨o, k _ _ r fun _ => True.intro⟩)
  · exact .inr r
theorem rd_there {u : HO} (r : Rd H a u) : H a ≠ none := by
  rcases r with r | ⟨o, r⟩ <;> (rw [r]; exact fun z => by cases z)
mutual
theorem Rp.step (k : Kept bad H H') (n : ∀ a, bad'.av a → bad.av a ∨ H a = none) : ∀ {v : V} {d : PyData}, Rp K bad H v d → Rp K bad' H' v d
  | _, _, .non => .non
  | _, _, .bl b => .bl b
  | _, _, .int i => .int i
  | _, _, .str x => .str x
  | _, _, .lst r m rs =>   .lst (k _ _ r fun z => (m (bad.le _ z)).elim) (fun z => (n _ z).elim m (by rw [r]; exact fun q => by cases q)) (Rps.step k n rs)
  | _, _, .tup r rs => .tup (sqt_kept k r) (Rps.step k n rs)
theorem Rps.step (k : Kept bad H H') (n : ∀ a, bad'.av a → bad.av a ∨ H a = none) : ∀ {vs : List V} {ds : List PyData}, Rps K bad H vs ds → Rps K bad' H' vs ds
  | _, _, .nil => .nil
  | _, _, .cons r rs => .cons (Rp.step k n r) (Rps.step k n rs)
end
theorem Rp.sub (n : ∀ a, bad'.av a → bad.av a) (r : Rp K bad H v d) : Rp K bad' H v d := r.step Kept.refl fun a z => .inl (n a z)
theorem Rps.sub (n : ∀ a, bad'.av a → bad.av a) (r : Rps K bad H vs ds) : Rps K bad' H vs ds := r.step Kept.refl fun a z => .inl (n a z)
mutual
theorem Rp.dp : ∀ {v : V} {d : PyData}, Rp K bad H v d → Dp K H v d
  | _, _, .non => .non
  | _, _, .bl b => .bl b
  | _, _, .int i => .int i
  | _, _, .str x => .str x
  | _, _, .lst r m rs => .lst (.inl (.inl r)) (Rps.dp rs)
  | _, _, .tup r rs => .tup r (Rps.dp rs)
theorem Rps.dp : ∀ {vs : List V} {ds : List PyData}, Rps K bad H vs ds → DpAll K H vs ds
  | _, _, .nil => .nil
  | _, _, .cons r rs => .cons (Rp.dp r) (Rps.dp rs)
end
theorem Rps.length : ∀ {vs : List V} {ds : List PyData}, Rps K bad H vs ds → vs.length = ds.length
  | _, _, .nil => rfl
  | _, _, .cons _ t => congrArg (· + 1) (Rps.length t)
theorem Rps.append : ∀ {vs ws : List V} {ds es : List PyData}, Rps K bad H vs ds → Rps K bad H ws es → Rps K bad H (vs ++ ws) (ds ++ es)
  | _, _, _, _, .nil, s => s
  | _, _, _, _, .cons r t, s => .cons r (Rps.append t s)
theorem Rps.get : ∀ {vs : List V} {ds : List PyData} {i : Nat} {d : PyData}, Rps K bad H vs ds → ds[i]? = some d → ∃ v, vs[i]? = some v ∧ Rp K bad H v d
  | _, _, _, _, .nil, e => by simp at e
  | _, _, 0, _, .cons r _, e => by simp at e; subst e; exact ⟨_, rfl, r⟩
  | _, _, i + 1, d, .cons _ t, e => by
    obtain ⟨u, h1, h2⟩ := Rps.get (i := i) (d := d) t (by simpa using e)
    exact ⟨u, by simpa using h1, h2⟩
theorem Rps.set : ∀ {vs : List V} {ds : List PyData} {v : V} {d : PyData} (i : Nat), Rps K bad H vs ds → Rp K bad H v d → Rps K bad H (vs.set i v) (ds.set i d)
  | _, _, _, _, _, .nil, _ => .nil
  | _, _, _, _, 0, .cons _ t, r => .cons r t
  | _, _, _, _, i + 1, .cons q t, r => .cons q (Rps.set i t r)
theorem Rps.take : ∀ {vs : List V} {ds : List PyData} (n : Nat), Rps K bad H vs ds → Rps K bad H (vs.take n) (ds.take n)
  | _, _, 0, _ => .nil
  | _, _, _ + 1, .nil => .nil
  | _, _, n + 1, .cons r t => .cons r (Rps.take n t)
theorem Rps.drop : ∀ {vs : List V} {ds : List PyData} (n : Nat), Rps K bad H vs ds → Rps K bad H (vs.drop n) (ds.drop n)
  | _, _, 0, r => r
  | _, _, _ + 1, .nil => .nil
  | _, _, n + 1, .cons _ t => Rps.drop n t
theorem Rps.eraseIdx : ∀ {vs : List V} {ds : List PyData} (n : Nat), Rps K bad H vs ds → Rps K bad H (vs.eraseIdx n) (ds.eraseIdx n)
  | _, _, _, .nil => .nil
  | _, _, 0, .cons _ t => t
  | _, _, n + 1, .cons r t => .cons r (Rps.eraseIdx n t)
theorem Rps.reverse : ∀ {vs : List V} {ds : List PyData}, Rps K bad H vs ds → Rps K bad H vs.reverse ds.reverse
  | _, _, .nil => .nil
  | _, _, .cons r t => by
    rw [List.reverse_cons, List.reverse_cons]
    exact (Rps.reverse t).append (.cons r .nil)
end

/-! ### what a def changes -/
/-- an object that the def changes, by what it holds -/
inductive MO where
  | lst (ds : List PyData)
abbrev Mu := List (Option MO)
/-- what a name holds: data, or the j-th of the objects that are changed -/
inductive Sl where
  | dat (d : PyData)
  | obj (j : Nat)
  | scr (ns : List Int)
  | glo (a : Addr)
  | typ (n : String)
/-- a list of the written part -/
def KLst (K : PySem.W.Frag) (a : Addr) (xs : List V) : Prop :=
  ∃ (o : Obj) (its : Array Value) (n : Nat), K.lookup a = some o ∧ o.cls = .type "list" ∧ o.dict = none ∧ o.data = .seq its n ∧ its.size ≤ sizeLine ∧ Vals xs its.toList
/-- a list that nobody changes -/
def SL (K : PySem.W.Frag) (bad : Bad) (H : Hp) (a : Addr) (xs : List V) : Prop := (Rd H a (.lst xs) ∧ ¬ bad.av a) ∨ KLst K a xs
theorem SL.sq {K : PySem.W.Frag} {bad : Bad} {H : Hp} {a : Addr} {xs : List V} (h : SL K bad H a xs) : SqL K H a xs := by
  rcases h with h | h
  · exact .inl h.1
  · exact .inr h
theorem SL.step {K : PySem.W.Frag} {bad bad' : Bad} {H H' : Hp} {a : Addr} {xs : List V} (k : Kept bad H H') (n : ∀ a, bad'.av a → bad.av a ∨ H a = none) (h : SL K bad H a xs) : SL K bad' H' a xs := by
  rcases h with ⟨h, m⟩ | h
  · exact .inl ⟨rd_kept k m h, fun z => (n _ z).elim m (rd_there h)⟩
  · exact .inr h
abbrev Env := List (Option Sl)
def MRep (K : PySem.W.Frag) (bad : Bad) (H : Hp) (a : Addr) : MO → Prop
  | .lst ds => ∃ vs, H a = some (.lst vs) ∧ Rps K bad H vs ds
def SRep (K : PySem.W.Frag) (bad : Bad) (as : List Addr) (H : Hp) (v : V) : Sl → Prop
  | .dat d => Rp K bad H v d
  | .obj j => ∃ a, as[j]? = some a ∧ v = .ref a
  | .scr ns => ∃ a, v = .ref a ∧ SL K bad H a (ns.map V.int)
  | .glo a => v = .ref a
  | .typ n => v = .ty n
theorem MRep.nim {K : PySem.W.Frag} {bad : Bad} {H : Hp} {a : Addr} {m : MO} (r : MRep K bad H a m) : ∃ o, H a = some o ∧ ¬ Imm o := by
  cases m with
  | lst ds => obtain ⟨vs, h, _⟩ := r; exact ⟨_, h, fun z => z⟩
theorem MRep.step {K : PySem.W.Frag} {bad bad' : Bad} {H H' : Hp} {a : Addr} {m : MO} (k : Kept bad H H') (n : ∀ a, bad'.av a → bad.av a ∨ H a = none) (e : H' a = H a) (r : MRep K bad H a m) : MRep K bad' H' a m := by
  cases m with
  | lst ds => obtain ⟨vs, h, q⟩ := r; exact ⟨vs, e.trans h, q.step k n⟩

/-- from one state on: nothing that was there and isn't changed by number has changed; new objects may be changed -/
structure Go (bad : Bad) (as : List Addr) (H : Hp) (bad' : Bad) (as' : List Addr) (H' : Hp) : Prop where
  pre : ∃ t, as' = as ++ t
  sub : ∀ a, bad.av a → bad'.av a
  new : ∀ a, bad'.av a → bad.av a ∨ H a = none
  newW : ∀ a, bad'.wr a → bad.wr a ∨ H a = none
  newA : ∀ j a, as.length ≤ j → as'[j]? = some a → H a = none
  keep : Kept bad H H'
  stay : Stays H H'
section
variable {bad bad1 bad2 : Bad} {as as1 as2 : List Addr} {H H1 H2 : Hp}
theorem Go.refl : Go bad as H bad as H :=
  ⟨⟨[], by simp⟩, fun _ h => h, fun _ h => .inl h, fun _ h => .inl h, fun j a h e => by
    have := (List.getElem?_eq_some_iff.mp e).1
    omega, Kept.refl, fun _ h => h⟩
theorem Go.at_ (g : Go bad as H bad1 as1 H1) {j : Nat} {a : Addr} (e : as[j]? = some a) : as1[j]? = some a := by
  obtain ⟨t, h⟩ := g.pre
  rw [h, List.getElem?_append_left (List.getElem?_eq_some_iff.mp e).1]
  exact e
theorem Go.trans (g : Go bad as H bad1 as1 H1) (k : Go bad1 as1 H1 bad2 as2 H2) : Go bad as H bad2 as2 H2 where
  pre := by
    obtain ⟨t, h⟩ := g.pre
    obtain ⟨u, h2⟩ := k.pre
    exact ⟨t ++ u, by rw [h2, h, List.append_assoc]⟩
  sub := fun a h => k.sub a (g.sub a h)
  new := fun a h => by
    have dn : H1 a = none → H a = none := fun z => by
      cases e : H a with
      | none => rfl
      | some o => exact ((g.stay a (by rw [e]; exact fun q => by cases q)) z).elim
    rcases k.new a h with h | h
    · exact g.new a h
    · exact .inr (dn h)
  newW := fun a h => by
    have dn : H1 a = none → H a = none := fun z => by
      cases e : H a with
      | none => rfl
      | some o => exact ((g.stay a (by rw [e]; exact fun q => by cases q)) z).elim
    rcases k.newW a h with h | h
    · exact g.newW a h
    · exact .inr (dn h)
  newA := fun j a hj e => by
    have dn : H1 a = none → H a = none := fun z => by
      cases e : H a with
      | none => rfl
      | some o => exact ((g.stay a (by rw [e]; exact fun q => by cases q)) z).elim
    by_cases h : j < as1.length
    · have e1 : as1[j]? = some a := by
        obtain ⟨u, h2⟩ := k.pre
        rw [h2, List.getElem?_append_left h] at e
        exact e
      exact g.newA j a hj e1
    · exact dn (k.newA j a (by omega) e)
  keep := fun a o e n => k.keep a o (g.keep a o e n) fun z => by
    rcases g.newW a z with z | z
    · exact n z
    · rw [e] at z; cases z
  stay := fun a h => k.stay a (g.stay a h)
theorem Rp.go {K : PySem.W.Frag} {v : V} {d : PyData} (g : Go bad as H bad1 as1 H1) (r : Rp K bad H v d) : Rp K bad1 H1 v d := r.step g.keep g.new
theorem Rps.go {K : PySem.W.Frag} {v : List V} {d : List PyData} (g : Go bad as H bad1 as1 H1) (r : Rps K bad H v d) : Rps K bad1 H1 v d := r.step g.keep g.new
theorem SRep.go {K : PySem.W.Frag} {v : V} {s : Sl} (g : Go bad as H bad1 as1 H1) (r : SRep K bad as H v s) : SRep K bad1 as1 H1 v s := by
  cases s with
  | dat d => exact Rp.go g r
  | obj j => obtain ⟨a, h, e⟩ := r; exact ⟨a, g.at_ h, e⟩
  | scr ns => obtain ⟨a, e, h⟩ := r; exact ⟨a, e, h.step g.keep g.new⟩
  | glo a => exact r
  | typ n => exact r
theorem Go.alloc {p : Addr} {o : HO} (h : H p = none) : Go bad as H bad as (upd H p o) :=
  ⟨⟨[], by simp⟩, fun _ h => h, fun _ h => .inl h, fun _ h => .inl h, fun j a h e => by
    have := (List.getElem?_eq_some_iff.mp e).1
    omega, fun a u e _ => by rw [upd_ne (ne_of_none e h)]; exact e, fun a z => by
      by_cases q : a = p
      · subst q; rw [upd_same]; exact fun z => by cases z
      · rw [upd_ne q]; exact z⟩
end

/-- a state: names told by ρ, changed objects by μ (at as, among the bad ones) -/
structure SOk (K : PySem.W.Frag) (bad : Bad) (as : List Addr) (σ : L2.St) (H : Hp) (ρ : Env) (μ : Mu) : Prop where
  ls : σ.length = ρ.length
  la : as.length = μ.length
  nd : ∀ (i j : Nat) (a : Addr) (x y : MO), as[i]? = some a → as[j]? = some a → μ[i]? = some (some x) → μ[j]? = some (some y) → i = j
  muts : ∀ (i : Nat) (a : Addr) (m : MO), as[i]? = some a → μ[i]? = some (some m) → bad.wr a ∧ MRep K bad H a m
  bin : ∀ a, bad.av a → H a ≠ none
  slot : ∀ (i : Nat) (s : Sl), ρ[i]? = some (some s) → ∃ v, σ[i]? = some (some v) ∧ SRep K bad as H v s
section
variable {K : PySem.W.Frag} {bad : Bad} {as : List Addr} {σ : L2.St} {H H' : Hp} {ρ : Env} {μ : Mu} {p : Addr}
theorem SOk.nbad (k : SOk K bad as σ H ρ μ) (h : H p = none) : ¬ bad.av p := fun z => k.bin p z h
theorem SOk.alloc {o : HO} (k : SOk K bad as σ H ρ μ) (h : H p = none) : SOk K bad as σ (upd H p o) ρ μ where
  ls := k.ls
  la := k.la
  nd := k.nd
  muts := fun i a m e q => by
    obtain ⟨b, r⟩ := k.muts i a m e q
    refine ⟨b, r.step (Go.alloc (as := as) h).keep (fun _ z => .inl z) (upd_ne ?_)⟩
    rintro rfl
    exact k.nbad h (bad.le _ b)
  bin := fun a b => (Go.alloc (bad := bad) (as := as) h).stay a (k.bin a b)
  slot := fun i s e => by
    obtain ⟨v, h1, h2⟩ := k.slot i s e
    exact ⟨v, h1, h2.go (Go.alloc h)⟩
theorem addN {H : Hp} {p : Addr} {bad : Bad} (h : H p = none) : ∀ a, (bad.add p).av a → bad.av a ∨ H a = none := fun _ z => Or.elim z .inl fun z => .inr (z ▸ h)
/-- a new object that is changed from now on -/
theorem SOk.push {o : HO} {m : MO} (k : SOk K bad as σ H ρ μ) (h : H p = none) (r : MRep K (bad.add p) (upd H p o) p m) :
    SOk K (bad.add p) (as ++ [p]) σ (upd H p o) ρ (μ ++ [some m]) where
  ls := k.ls
  la := by rw [List.length_append, List.length_append, k.la]; rfl
  nd := fun i j a x y e1 e2 e3 e4 => by
    have la := k.la
    have key : ∀ (i : Nat) (a : Addr) (x : MO), (as ++ [p])[i]? = some a → (μ ++ [some m])[i]? = some (some x) → (i < as.length ∧ as[i]? = some a ∧ μ[i]? = some (some x)) ∨ (i = as.length ∧ a = p) := fun i a x e1 e2 => by
      by_cases hi : i < as.length
      · rw [List.getElem?_append_left hi] at e1
        rw [List.getElem?_append_left (by omega)] at e2
        exact .inl ⟨hi, e1, e2⟩
      · rw [List.getElem?_append_right (by omega)] at e1
        have : i - as.length = 0 := by
          have := (List.getElem?_eq_some_iff.mp e1).1
          simp at this
          omega
        rw [this] at e1
        have e1 : p = a := Option.some.inj e1
        exact .inr ⟨by omega, e1.symm⟩
    rcases key i a x e1 e3 with ⟨_, h1, h2⟩ | ⟨h1, h2⟩
    · rcases key j a y e2 e4 with ⟨_, h3, h4⟩ | ⟨h3, h4⟩
      · exact k.nd i j a x y h1 h3 h2 h4
      · subst h4
        exact (k.nbad h (bad.le _ (k.muts i _ x h1 h2).1)).elim
    · rcases key j a y e2 e4 with ⟨_, h3, h4⟩ | ⟨h3, h4⟩
      · subst h2
        exact (k.nbad h (bad.le _ (k.muts j _ y h3 h4).1)).elim
      · omega
  muts := fun i a x e q => by
    have la := k.la
    by_cases hi : i < as.length
    · rw [List.getElem?_append_left hi] at e
      rw [List.getElem?_append_left (by omega)] at q
      obtain ⟨b, r⟩ := k.muts i a x e q
      refine ⟨.inl b, r.step (Go.alloc (as := as) h).keep (addN h) (upd_ne ?_)⟩
      rintro rfl
      exact k.nbad h (bad.le _ b)
    · rw [List.getElem?_append_right (by omega)] at e
      have i0 : i - as.length = 0 := by
        have := (List.getElem?_eq_some_iff.mp e).1
        simp at this
        omega
      rw [i0] at e
      have e : p = a := Option.some.inj e
      subst e
      rw [List.getElem?_append_right (by omega), show i - μ.length = 0 by omega] at q
      have q : m = x := Option.some.inj (Option.some.inj q)
      subst q
      exact ⟨.inr rfl, r⟩
  bin := fun a b => by
    by_cases q : a = p
    · subst q; rw [upd_same]; exact fun z => by cases z
    · rw [upd_ne q]; exact k.bin a (b.resolve_right q)
  slot := fun i s e => by
    obtain ⟨v, h1, h2⟩ := k.slot i s e
    refine ⟨v, h1, ?_⟩
    cases s with
    | dat d => exact Rp.step (Go.alloc (as := as) h).keep (addN h) h2
    | obj j =>
      obtain ⟨a, h3, h4⟩ := h2
      exact ⟨a, by rw [List.getElem?_append_left (List.getElem?_eq_some_iff.mp h3).1]; exact h3, h4⟩
    | scr ns => obtain ⟨a, h3, h4⟩ := h2; exact ⟨a, h3, h4.step (Go.alloc (as := as) h).keep (addN h)⟩
    | glo a => exact h2
    | typ n => exact h2
theorem Go.push {o : HO} (h : H p = none) : Go bad as H (bad.add p) (as ++ [p]) (upd H p o) where
  pre := ⟨[p], rfl⟩
  sub := fun _ z => .inl z
  new := fun a z => z.elim .inl fun z => .inr (z ▸ h)
  newW := fun a z => z.elim .inl fun z => .inr (z ▸ h)
  newA := fun j a hj e => by
    rw [List.getElem?_append_right hj] at e
    have i0 : j - as.length = 0 := by
      have := (List.getElem?_eq_some_iff.mp e).1
      simp at this
      omega
    rw [i0] at e
    have e : p = a := Option.some.inj e
    exact e ▸ h
  keep := (Go.alloc (as := as) h).keep
  stay := (Go.alloc (bad := bad) (as := as) h).stay
/-- the j-th object is written -/
theorem SOk.kept_at {j : Nat} {a : Addr} {m : MO} {o : HO} (k : SOk K bad as σ H ρ μ) (ha : as[j]? = some a) (hm : μ[j]? = some (some m)) : Kept bad H (upd H a o) := fun b u e n => by
  by_cases q : b = a
  · subst q
    obtain ⟨bd, r⟩ := k.muts j b m ha hm
    obtain ⟨o', e', ni⟩ := r.nim
    rw [e] at e'; cases e'
    exact (ni (n bd)).elim
  · rw [upd_ne q]; exact e
theorem Go.write {j : Nat} {a : Addr} {m : MO} {o : HO} (k : SOk K bad as σ H ρ μ) (ha : as[j]? = some a) (hm : μ[j]? = some (some m)) : Go bad as H bad as (upd H a o) :=
  ⟨⟨[], by simp⟩, fun _ h => h, fun _ h => .inl h, fun _ h => .inl h, fun j a h e => by
    have := (List.getElem?_eq_some_iff.mp e).1
    omega, k.kept_at ha hm, fun b z => by
      by_cases q : b = a
      · subst q; rw [upd_same]; exact fun z => by cases z
      · rw [upd_ne q]; exact z⟩
theorem SOk.write {j : Nat} {a : Addr} {m m' : MO} {o : HO} (k : SOk K bad as σ H ρ μ) (ha : as[j]? = some a) (hm : μ[j]? = some (some m)) (r : MRep K bad (upd H a o) a m') :
    SOk K bad as σ (upd H a o) ρ (μ.set j (some m')) where
  ls := k.ls
  la := by rw [List.length_set]; exact k.la
  nd := fun i i' b x y e1 e2 e3 e4 => by
    have key : ∀ (i : Nat) (x : MO), (μ.set j (some m'))[i]? = some (some x) → ∃ x', μ[i]? = some (some x') := fun i x e => by
      by_cases q : i = j
      · subst q; exact ⟨m, hm⟩
      · rw [List.getElem?_set_ne (Ne.symm q)] at e; exact ⟨x, e⟩
    obtain ⟨x', h1⟩ := key i x e3
    obtain ⟨y', h2⟩ := key i' y e4
    exact k.nd i i' b x' y' e1 e2 h1 h2
  muts := fun i b x e q => by
    by_cases z : i = j
    · subst z
      rw [ha] at e; cases e
      rw [List.getElem?_set_self (List.getElem?_eq_some_iff.mp hm).1] at q
      cases q
      exact ⟨(k.muts i _ m ha hm).1, r⟩
    · rw [List.getElem?_set_ne (Ne.symm z)] at q
      obtain ⟨b1, r1⟩ := k.muts i b x e q
      refine ⟨b1, r1.step (k.kept_at ha hm) (fun _ z => .inl z) (upd_ne ?_)⟩
      rintro rfl
      exact z (k.nd i j _ x m e ha q hm)
  bin := fun c z => (Go.write k ha hm).stay c (k.bin c z)
  slot := fun i s e => by
    obtain ⟨v, h1, h2⟩ := k.slot i s e
    exact ⟨v, h1, h2.go (Go.write k ha hm)⟩
theorem SOk.set {v : V} {s : Sl} (k : SOk K bad as σ H ρ μ) (i : Nat) (r : SRep K bad as H v s) : SOk K bad as (σ.set i (some v)) H (ρ.set i (some s)) μ where
  ls := by rw [List.length_set, List.length_set]; exact k.ls
  la := k.la
  nd := k.nd
  muts := k.muts
  bin := k.bin
  slot := fun j t e => by
    by_cases q : j = i
    · subst q
      have hl : j < ρ.length := by
        have := (List.getElem?_eq_some_iff.mp e).1
        rwa [List.length_set] at this
      rw [List.getElem?_set_self hl] at e
      cases e
      exact ⟨v, List.getElem?_set_self (by rw [k.ls]; exact hl), r⟩
    · rw [List.getElem?_set_ne (Ne.symm q)] at e
      obtain ⟨w, h1, h2⟩ := k.slot j t e
      exact ⟨w, by rw [List.getElem?_set_ne (Ne.symm q)]; exact h1, h2⟩
/-- less is told of the names -/
theorem SOk.fewer {ρ' : Env} (k : SOk K bad as σ H ρ μ) (hl : ρ'.length = ρ.length) (h : ∀ (i : Nat) (s : Sl), ρ'[i]? = some (some s) → ρ[i]? = some (some s)) : SOk K bad as σ H ρ' μ :=
  ⟨by rw [hl]; exact k.ls, k.la, k.nd, k.muts, k.bin, fun i s e => k.slot i s (h i s e)⟩
end

/-! ### what is shown of expressions -/
def wpE (X : Cx) (e : Expr) : TE := fun σ H Q => ∀ pins s, Inv X pins σ H s → wpAny (model X.prog X.w) X.A (eval e X.env) (EP X pins σ Q) X.xe s
theorem wpE_pe {X : Cx} {e : Expr} : PE X e (wpE X e) := ⟨fun pins s σ H Q I h => h pins s I⟩
theorem wpE_of {X : Cx} {e : Expr} {t : TE} (p : PE X e t) {σ : L2.St} {H : Hp} {Q : VK} (h : t σ H Q) : wpE X e σ H Q := fun pins s I => p.run pins s σ H Q I h
def wpT (X : Cx) (e : Expr) : TT := fun σ H Q => ∀ pins s, Inv X pins σ H s → wpAny (model X.prog X.w) X.A (isTrue e X.env (eval e X.env)) (TP X pins σ Q) X.xe s
theorem wpT_pt {X : Cx} {e : Expr} : PT X e (wpT X e) := ⟨fun pins s σ H Q I h => h pins s I⟩
theorem wpT_of {X : Cx} {e : Expr} {t : TT} (p : PT X e t) {σ : L2.St} {H : Hp} {Q : Bool → Hp → Prop} (h : t σ H Q) : wpT X e σ H Q := fun pins s I => p.run pins s σ H Q I h
def wpW (X : Cx) (e : Expr) : TT := fun σ H Q => ∀ (whole : Sem Value) pins s, Inv X pins σ H s → wpAny (model X.prog X.w) X.A (isTrue e X.env whole) (TP X pins σ Q) X.xe s
theorem wpW_pw {X : Cx} {e : Expr} : PW X e (wpW X e) := ⟨fun w pins s σ H Q I h => h w pins s I⟩
theorem wpW_of {X : Cx} {e : Expr} {t : TT} (p : PW X e t) {σ : L2.St} {H : Hp} {Q : Bool → Hp → Prop} (h : t σ H Q) : wpW X e σ H Q := fun w pins s I => p.run w pins s σ H Q I h
def wpA (X : Cx) (es : List Expr) : TA := fun σ H Q => ∀ pos pins s, Inv X pins σ H s → wpAny (model X.prog X.w) X.A (spliced (backTo pos (starEach es X.env))) (AP X pins σ Q) X.xe s
theorem wpA_pa {X : Cx} {es : List Expr} : PA X es (wpA X es) := ⟨fun pos pins s σ H Q I h => h pos pins s I⟩
theorem wpA_of {X : Cx} {es : List Expr} {t : TA} (p : PA X es t) {σ : L2.St} {H : Hp} {Q : List V → Hp → Prop} (h : t σ H Q) : wpA X es σ H Q := fun pos pins s I => p.run pos pins s σ H Q I h
def wpO (X : Cx) (f : Value → Value → Sem Value) : R2 := fun x y H Q => ∀ pins s σ v u, Inv X pins σ H s → RelV x v → RelV y u → wpAny (model X.prog X.w) X.A (f v u) (EP X pins σ Q) X.xe s
theorem wpO_op {X : Cx} {f : Value → Value → Sem Value} : OpR X f (wpO X f) := fun pins s σ _ _ _ v u _ I rx ry h => h pins s σ v u I rx ry
theorem wpO_of {X : Cx} {f : Value → Value → Sem Value} {r : R2} (p : OpR X f r) {x y : V} {H : Hp} {Q : VK} (h : r x y H Q) : wpO X f x y H Q := fun pins s σ v u I rx ry => p pins s σ H x y v u Q I rx ry h

/-- behind an expression -/
def Post (K : PySem.W.Frag) (σ : L2.St) (ρ : Env) (bad : Bad) (as : List Addr) (H : Hp) (P : Sl → Mu → Prop) (Q : VK) : Prop :=
  ∀ bad' as' H' v r μ', Go bad as H bad' as' H' → SOk K bad' as' σ H' ρ μ' → SRep K bad' as' H' v r → P r μ' → Q v H'
def PostT (K : PySem.W.Frag) (σ : L2.St) (ρ : Env) (bad : Bad) (as : List Addr) (H : Hp) (P : Bool → Mu → Prop) (Q : Bool → Hp → Prop) : Prop :=
  ∀ bad' as' H' b μ', Go bad as H bad' as' H' → SOk K bad' as' σ H' ρ μ' → P b μ' → Q b H'
inductive SReps (K : PySem.W.Frag) (bad : Bad) (as : List Addr) (H : Hp) : List V → List Sl → Prop
  | nil : SReps K bad as H [] []
  | cons {v : V} {s : Sl} {vs : List V} {ss : List Sl} : SRep K bad as H v s → SReps K bad as H vs ss → SReps K bad as H (v :: vs) (s :: ss)
def PostA (K : PySem.W.Frag) (σ : L2.St) (ρ : Env) (bad : Bad) (as : List Addr) (H : Hp) (P : List Sl → Mu → Prop) (Q : List V → Hp → Prop) : Prop :=
  ∀ bad' as' H' vs rs μ', Go bad as H bad' as' H' → SOk K bad' as' σ H' ρ μ' → SReps K bad' as' H' vs rs → P rs μ' → Q vs H'
/-- e evaluates so that P holds of what comes of it and of the changed objects behind it -/
def Ev (X : Cx) (e : Expr) (ρ : Env) (μ : Mu) (P : Sl → Mu → Prop) : Prop :=
  ∀ bad as σ H Q, SOk X.K bad as σ H ρ μ → Post X.K σ ρ bad as H P Q → wpE X e σ H Q
def Et (X : Cx) (e : Expr) (ρ : Env) (μ : Mu) (P : Bool → Mu → Prop) : Prop :=
  ∀ bad as σ H Q, SOk X.K bad as σ H ρ μ → PostT X.K σ ρ bad as H P Q → wpT X e σ H Q
def Ew (X : Cx) (e : Expr) (ρ : Env) (μ : Mu) (P : Bool → Mu → Prop) : Prop :=
  ∀ bad as σ H Q, SOk X.K bad as σ H ρ μ → PostT X.K σ ρ bad as H P Q → wpW X e σ H Q
def Ea (X : Cx) (es : List Expr) (ρ : Env) (μ : Mu) (P : List Sl → Mu → Prop) : Prop :=
  ∀ bad as σ H Q, SOk X.K bad as σ H ρ μ → PostA X.K σ ρ bad as H P Q → wpA X es σ H Q
/-- an operation on two values, by what they hold -/
def BinD (X : Cx) (f : Value → Value → Sem Value) (r : Sl → Sl → Mu → (Sl → Mu → Prop) → Prop) : Prop :=
  ∀ bad as σ H ρ μ x y vx vy P Q, SOk X.K bad as σ H ρ μ → SRep X.K bad as H vx x → SRep X.K bad as H vy y → r x y μ P → Post X.K σ ρ bad as H P Q → wpO X f vx vy H Q

section
variable {X : Cx} {ρ : Env} {μ : Mu} {P : Sl → Mu → Prop} {PT' : Bool → Mu → Prop} {a b c : Expr} {pos : Pos}
theorem SReps.go {K : PySem.W.Frag} {bad bad1 : Bad} {as as1 : List Addr} {H H1 : Hp} (g : Go bad as H bad1 as1 H1) : ∀ {vs : List V} {ss : List Sl}, SReps K bad as H vs ss → SReps K bad1 as1 H1 vs ss
  | _, _, .nil => .nil
  | _, _, .cons r t => .cons (r.go g) (SReps.go g t)
theorem Post.go {K : PySem.W.Frag} {σ : L2.St} {bad bad1 : Bad} {as as1 : List Addr} {H H1 : Hp} {Q : VK} (h : Post K σ ρ bad as H P Q) (g : Go bad as H bad1 as1 H1) : Post K σ ρ bad1 as1 H1 P Q :=
  fun bad' as' H' v r μ' g' => h bad' as' H' v r μ' (g.trans g')
theorem PostT.go {K : PySem.W.Frag} {σ : L2.St} {bad bad1 : Bad} {as as1 : List Addr} {H H1 : Hp} {Q : Bool → Hp → Prop} (h : PostT K σ ρ bad as H PT' Q) (g : Go bad as H bad1 as1 H1) : PostT K σ ρ bad1 as1 H1 PT' Q :=
  fun bad' as' H' b μ' g' => h bad' as' H' b μ' (g.trans g')
theorem Post.now {K : PySem.W.Frag} {σ : L2.St} {bad : Bad} {as : List Addr} {H : Hp} {Q : VK} {v : V} {r : Sl} (h : Post K σ ρ bad as H P Q) (k : SOk K bad as σ H ρ μ) (r1 : SRep K bad as H v r) (p : P r μ) : Q v H :=
  h bad as H v r μ Go.refl k r1 p
theorem Post.nowD {K : PySem.W.Frag} {σ : L2.St} {bad : Bad} {as : List Addr} {H : Hp} {Q : VK} {v : V} {d : PyData} (h : Post K σ ρ bad as H P Q) (k : SOk K bad as σ H ρ μ) (r1 : Rp K bad H v d) (p : P (.dat d) μ) : Q v H :=
  h bad as H v (.dat d) μ Go.refl k r1 p
theorem Post.goD {K : PySem.W.Frag} {σ : L2.St} {bad bad' : Bad} {as as' : List Addr} {H H' : Hp} {Q : VK} {v : V} {d : PyData} {μ' : Mu} (h : Post K σ ρ bad as H P Q) (g : Go bad as H bad' as' H') (k : SOk K bad' as' σ H' ρ μ') (r1 : Rp K bad' H' v d) (p : P (.dat d) μ') : Q v H' :=
  h bad' as' H' v (.dat d) μ' g k r1 p
theorem Ev.imp {P' : Sl → Mu → Prop} (h : Ev X a ρ μ P') (i : ∀ r μ', P' r μ' → P r μ') : Ev X a ρ μ P := fun bad as σ H Q k p =>
  h bad as σ H Q k fun bad' as' H' v r μ' g k' r' q => p bad' as' H' v r μ' g k' r' (i r μ' q)

theorem ev_int {i j} (h : P (.dat (.int i)) μ) : Ev X (.Constant (.int i) j pos) ρ μ P := fun bad as σ H Q k p => wpE_of pe_int (p.nowD k (.int i) h)
theorem ev_bool {i j} (h : P (.dat (.bool i)) μ) : Ev X (.Constant (.bool i) j pos) ρ μ P := fun bad as σ H Q k p => wpE_of pe_bl (p.nowD k (.bl i) h)
theorem ev_none {j} (h : P (.dat .none) μ) : Ev X (.Constant .none j pos) ρ μ P := fun bad as σ H Q k p => wpE_of pe_non (p.nowD k .non h)
theorem ev_str {x j} (h : P (.dat (.str x)) μ) : Ev X (.Constant (.str x) j pos) ρ μ P := fun bad as σ H Q k p => wpE_of pe_str (p.nowD k (.str x) h)
/-- the name in slot i -/
theorem ev_name (i : Nat) {x : Str} {s : Sl} (hs : ρ[i]? = some (some s)) (h : P s μ) (hN : X.N[i]? = some x := by rfl) (hv : Vis X.env.scope x := by first | exact Or.inl rfl | exact Or.inr (Or.inl rfl) | exact Or.inr (Or.inr rfl)) (hd : (x == ("__debug__" : Str)) = false := by decide)
    (hcd : (x == ("__classdict__" : Str)) = false := by decide) : Ev X (.Name x pos) ρ μ P := fun bad as σ H Q k p => by
  obtain ⟨v, e, r⟩ := k.slot i s hs
  exact wpE_of (pe_var hN hv hd hcd) ⟨v, e, p.now k r h⟩
theorem ev_bin {op : Operator} {r : Sl → Sl → Mu → (Sl → Mu → Prop) → Prop} (ho : BinD X (binaryOp op) r) (h : Ev X a ρ μ fun x μ1 => Ev X b ρ μ1 fun y μ2 => r x y μ2 P) : Ev X (.BinOp a op b pos) ρ μ P := fun bad as σ H Q k p => by
  refine wpE_of (pe_op wpO_op wpE_pe wpE_pe) ?_
  refine h bad as σ H _ k fun bad1 as1 H1 vx x μ1 g1 k1 r1 h1 => ?_
  refine h1 bad1 as1 σ H1 _ k1 fun bad2 as2 H2 vy y μ2 g2 k2 r2 h2 => ?_
  exact ho bad2 as2 σ H2 ρ μ2 x y vx vy P Q k2 (r1.go g2) r2 h2 (p.go (g1.trans g2))
theorem ev_cmp {op : CmpOp} {r : Sl → Sl → Mu → (Sl → Mu → Prop) → Prop} (ho : BinD X (compareOp op) r) (hm : behindInMarks op b = false) (h : Ev X a ρ μ fun x μ1 => Ev X b ρ μ1 fun y μ2 => r x y μ2 P) : Ev X (.Compare a [op] [b] pos) ρ μ P := fun bad as σ H Q k p => by
  refine wpE_of (pe_cmpR wpO_op wpE_pe wpE_pe hm) ?_
  refine h bad as σ H _ k fun bad1 as1 H1 vx x μ1 g1 k1 r1 h1 => ?_
  refine h1 bad1 as1 σ H1 _ k1 fun bad2 as2 H2 vy y μ2 g2 k2 r2 h2 => ?_
  exact ho bad2 as2 σ H2 ρ μ2 x y vx vy P Q k2 (r1.go g2) r2 h2 (p.go (g1.trans g2))
/-- what a test wants of a value -/
def TB (P : Bool → Mu → Prop) : Sl → Mu → Prop := fun r μ => ∃ b, r = .dat (.bool b) ∧ P b μ
theorem post_tb {K : PySem.W.Frag} {σ : L2.St} {bad : Bad} {as : List Addr} {H : Hp} {Q : Bool → Hp → Prop} (p : PostT K σ ρ bad as H PT' Q) : Post K σ ρ bad as H (TB PT') fun x H' => ∃ k, x = .bl k ∧ Q k H' :=
  fun bad' as' H' v r μ' g k r1 ⟨b, e, q⟩ => by
    subst e
    have r1 : Rp K bad' H' v (.bool b) := r1
    cases r1
    exact ⟨b, rfl, p bad' as' H' b μ' g k q⟩
theorem et_cmp {op : CmpOp} {r : Sl → Sl → Mu → (Sl → Mu → Prop) → Prop} (ho : BinD X (compareOp op) r) (hm : behindInMarks op b = false) (h : Ev X a ρ μ fun x μ1 => Ev X b ρ μ1 fun y μ2 => r x y μ2 (TB PT')) : Et X (.Compare a [op] [b] pos) ρ μ PT' := fun bad as σ H Q k p => by
  refine wpT_of (pt_cmpR wpO_op wpE_pe wpE_pe hm) ?_
  refine h bad as σ H _ k fun bad1 as1 H1 vx x μ1 g1 k1 r1 h1 => ?_
  refine h1 bad1 as1 σ H1 _ k1 fun bad2 as2 H2 vy y μ2 g2 k2 r2 h2 => ?_
  exact ho bad2 as2 σ H2 ρ μ2 x y vx vy _ _ k2 (r1.go g2) r2 h2 (post_tb (p.go (g1.trans g2)))
end
end Dv

set_option maxRecDepth 100000
set_option maxHeartbeats 4000000
namespace Dv
open PySem PySem.Spec PyProof.Rows L2

/-! ### what stands in a place -/
def lstOf (μ : Mu) : Sl → Option (List PyData)
  | .dat (.list ds) => some ds
  | .obj j => (match μ[j]? with
    | some (some (.lst ds)) => some ds
    | _ => none)
  | _ => none
def valOf (μ : Mu) : Sl → Option PyData
  | .dat d => some d
  | .obj j => (match μ[j]? with
    | some (some (.lst ds)) => some (.list ds)
    | _ => none)
  | _ => none
section
variable {K : PySem.W.Frag} {bad : Bad} {as : List Addr} {σ : L2.St} {H : Hp} {ρ : Env} {μ : Mu} {v : V} {s : Sl} {ds : List PyData} {d : PyData}
theorem obj_lst {j : Nat} (h : (match μ[j]? with
    | some (some (MO.lst ds)) => some ds
    | _ => none) = some ds') : μ[j]? = some (some (.lst ds')) := by
  split at h
  · rename_i e
    cases h
    exact e
  · cases h
theorem lst_at (k : SOk K bad as σ H ρ μ) (r : SRep K bad as H v s) (h : lstOf μ s = some ds) : ∃ a vs, v = .ref a ∧ H a = some (.lst vs) ∧ Rps K bad H vs ds := by
  cases s with
  | dat d =>
    cases d with
    | list es =>
      cases h
      have r : Rp K bad H v (.list ds) := r
      cases r with
      | lst e _ q => exact ⟨_, _, rfl, e, q⟩
    | _ => cases h
  | obj j =>
    obtain ⟨a, ha, e⟩ := r
    have hm := obj_lst h
    obtain ⟨_, vs, q1, q2⟩ := k.muts j a _ ha hm
    exact ⟨a, vs, e, q1, q2⟩
  | scr ns => cases h
  | glo a => cases h
  | typ n => cases h
theorem val_dp (k : SOk K bad as σ H ρ μ) (r : SRep K bad as H v s) (h : valOf μ s = some d) : Dp K H v d := by
  cases s with
  | dat e => cases h; exact Rp.dp r
  | obj j =>
    obtain ⟨a, ha, e⟩ := r
    subst e
    have z : ∃ ds, μ[j]? = some (some (.lst ds)) ∧ d = .list ds := by
      have h : (match μ[j]? with
        | some (some (MO.lst ds)) => some (PyData.list ds)
        | _ => none) = some d := h
      split at h
      · rename_i e; cases h; exact ⟨_, e, rfl⟩
      · cases h
    obtain ⟨ds, hm, rfl⟩ := z
    obtain ⟨_, vs, q1, q2⟩ := k.muts j a _ ha hm
    exact .lst (.inl (.inl q1)) q2.dp
  | scr ns => cases h
  | glo a => cases h
  | typ n => cases h
/-- an object of the written part that is a tuple, or any data -/
theorem SRep.dat_int {i : Int} (r : SRep K bad as H v (.dat (.int i))) : v = .int i := by
  have r : Rp K bad H v (.int i) := r
  cases r; rfl
theorem SRep.dat_str {i : Str} (r : SRep K bad as H v (.dat (.str i))) : v = .str i := by
  have r : Rp K bad H v (.str i) := r
  cases r; rfl
theorem SRep.dat_bool {i : Bool} (r : SRep K bad as H v (.dat (.bool i))) : v = .bl i := by
  have r : Rp K bad H v (.bool i) := r
  cases r; rfl
theorem SRep.dat_none (r : SRep K bad as H v (.dat .none)) : v = .non := by
  have r : Rp K bad H v .none := r
  cases r; rfl
/-- a new list: an object from now on -/
theorem new_lst (k : SOk K bad as σ H ρ μ) {p : Addr} {vs : List V} (h : H p = none) (q : Rps K bad H vs ds) :
    SOk K (bad.add p) (as ++ [p]) σ (upd H p (.lst vs)) ρ (μ ++ [some (.lst ds)]) ∧ SRep K (bad.add p) (as ++ [p]) (upd H p (.lst vs)) (.ref p) (.obj μ.length) := by
  refine ⟨k.push h ⟨vs, upd_same, q.step (Go.alloc (as := as) h).keep (addN h)⟩, p, ?_, rfl⟩
  rw [← k.la, List.getElem?_append_right (Nat.le_refl _), Nat.sub_self]
  rfl
theorem post_new {P : Sl → Mu → Prop} {Q : VK} (k : SOk K bad as σ H ρ μ) (p : Post K σ ρ bad as H P Q) {vs : List V} (q : Rps K bad H vs ds) (h : P (.obj μ.length) (μ ++ [some (.lst ds)])) :
    ∀ a, H a = none → Q (.ref a) (upd H a (.lst vs)) := fun a ha =>
  p _ _ _ _ _ _ (Go.push ha) (new_lst k ha q).1 (new_lst k ha q).2 h
/-- a new tuple -/
theorem post_tup {P : Sl → Mu → Prop} {Q : VK} (k : SOk K bad as σ H ρ μ) (p : Post K σ ρ bad as H P Q) {vs : List V} (q : Rps K bad H vs ds) (h : P (.dat (.tuple ds)) μ) :
    ∀ a, H a = none → Q (.ref a) (upd H a (.tup vs)) := fun a ha =>
  p _ _ _ _ (.dat (.tuple ds)) _ (Go.alloc ha) (k.alloc ha) (Rp.tup (SqT.of upd_same) (q.step (Go.alloc (as := as) ha).keep fun _ z => .inl z)) h
end

/-! ### operators -/
abbrev BR := Sl → Sl → Mu → (Sl → Mu → Prop) → Prop
def dInt (C : Int → Int → Prop) (g : Int → Int → PyData) : BR := fun x y μ P => match x, y with
  | .dat (.int i), .dat (.int j) => C i j ∧ P (.dat (g i j)) μ
  | _, _ => False
def dInt0 (g : Int → Int → PyData) : BR := fun x y μ P => match x, y with
  | .dat (.int i), .dat (.int j) => P (.dat (g i j)) μ
  | _, _ => False
def dCat : BR := fun x y μ P => ∃ xs ys, lstOf μ x = some xs ∧ lstOf μ y = some ys ∧ xs.length + ys.length ≤ sizeLine ∧ P (.obj μ.length) (μ ++ [some (.lst (xs ++ ys))])
def dAdd : BR := fun x y μ P => match x with
  | .dat (.int i) => (match y with
    | .dat (.int j) => P (.dat (.int (i + j))) μ
    | .dat (.bool b) => P (.dat (.int (i + b2i b))) μ
    | _ => False)
  | .dat (.str i) => (match y with
    | .dat (.str j) => i.length + j.length ≤ sizeLine ∧ P (.dat (.str (i ++ j))) μ
    | _ => False)
  | x => dCat x y μ P
section
variable {X : Cx}
theorem bin_int {f : Value → Value → Sem Value} {C : Int → Int → Prop} {g : Int → Int → Int} (h : OpR X f (rI C fun i j => .int (g i j))) : BinD X f (dInt C fun i j => .int (g i j)) := by
  intro bad as σ H ρ μ x y vx vy P Q k rx ry hr p
  unfold dInt at hr
  split at hr
  · obtain ⟨hc, q⟩ := hr
    rw [rx.dat_int, ry.dat_int]
    exact wpO_of h ⟨_, _, rfl, rfl, hc, p.nowD k (.int _) q⟩
  · exact hr.elim
theorem bin_int0 {f : Value → Value → Sem Value} {g : Int → Int → Int} (h : OpR X f (rI0 fun i j => .int (g i j))) : BinD X f (dInt0 fun i j => .int (g i j)) := by
  intro bad as σ H ρ μ x y vx vy P Q k rx ry hr p
  unfold dInt0 at hr
  split at hr
  · rw [rx.dat_int, ry.dat_int]
    exact wpO_of h ⟨_, _, rfl, rfl, p.nowD k (.int _) hr⟩
  · exact hr.elim
theorem bin_intB {f : Value → Value → Sem Value} {g : Int → Int → Bool} (h : OpR X f (rI0 fun i j => .bl (g i j))) : BinD X f (dInt0 fun i j => .bool (g i j)) := by
  intro bad as σ H ρ μ x y vx vy P Q k rx ry hr p
  unfold dInt0 at hr
  split at hr
  · rw [rx.dat_int, ry.dat_int]
    exact wpO_of h ⟨_, _, rfl, rfl, p.nowD k (.bl _) hr⟩
  · exact hr.elim
theorem b_cat : BinD X (binaryOp .Add) dCat := by
  intro bad as σ H ρ μ x y vx vy P Q k rx ry hr p
  obtain ⟨xs, ys, hx, hy, hz, q⟩ := hr
  obtain ⟨a, vs, rfl, ha, ra⟩ := lst_at k rx hx
  obtain ⟨b, ws, rfl, hb, rb⟩ := lst_at k ry hy
  exact wpO_of op_cat ⟨a, b, vs, ws, rfl, rfl, ha, hb, by rw [ra.length, rb.length]; exact hz, post_new k p (ra.append rb) q⟩
theorem b_add : BinD X (binaryOp .Add) dAdd := by
  intro bad as σ H ρ μ x y vx vy P Q k rx ry hr p
  unfold dAdd at hr
  split at hr
  · split at hr
    · rw [rx.dat_int, ry.dat_int]
      exact wpO_of op_add ⟨_, _, rfl, rfl, p.nowD k (.int _) hr⟩
    · rw [rx.dat_int, ry.dat_bool]
      exact wpO_of op_add_ib ⟨_, _, rfl, rfl, p.nowD k (.int _) hr⟩
    · exact hr.elim
  · split at hr
    · obtain ⟨hz, q⟩ := hr
      rw [rx.dat_str, ry.dat_str]
      exact wpO_of op_add_str ⟨_, _, rfl, rfl, hz, p.nowD k (.str _) q⟩
    · exact hr.elim
  · exact b_cat bad as σ H ρ μ x y vx vy P Q k rx ry hr p
theorem b_sub : BinD X (binaryOp .Sub) (dInt0 fun i j => .int (i - j)) := bin_int0 op_sub
theorem b_mul : BinD X (binaryOp .Mult) (dInt CMul fun i j => .int (i * j)) := bin_int op_mul
theorem b_mod : BinD X (binaryOp .Mod) (dInt (fun _ j => 0 < j) fun i j => .int (i % j)) := bin_int op_mod
theorem b_fdiv : BinD X (binaryOp .FloorDiv) (dInt CDiv fun i j => .int (i / j)) := bin_int op_fdiv
theorem b_pow : BinD X (binaryOp .Pow) (dInt CPow fun i j => .int (i ^ j.toNat)) := bin_int op_pow
end

/-! ### comparisons -/
def dOrd (f : Int → Int → Bool) (g : Str → Str → Bool) : BR := fun x y μ P => match x with
  | .dat (.int i) => (match y with
    | .dat (.int j) => P (.dat (.bool (f i j))) μ
    | _ => False)
  | .dat (.str i) => (match y with
    | .dat (.str j) => P (.dat (.bool (g i j))) μ
    | _ => False)
  | _ => False
def scalD : PyData → PyData → Bool
  | .none, .none => true | .none, .int _ => true | .int _, .none => true | .none, .bool _ => true | .bool _, .none => true | .none, .str _ => true | .str _, .none => true
  | .int _, .int _ => true | .bool _, .bool _ => true | .str _, .str _ => true
  | .int _, .str _ => true | .str _, .int _ => true | .bool _, .str _ => true | .str _, .bool _ => true
  | _, _ => false
def okEq (d e : PyData) : Prop := scalD d e = true ∨ (SeqAt.shaped d = true ∧ SeqAt.shaped e = true)
def dEqv (neg : Bool) : BR := fun x y μ P => match valOf μ x with
  | some d => (match valOf μ y with
    | some e => okEq d e ∧ P (.dat (.bool (if neg then !PyData.eqv d e else PyData.eqv d e))) μ
    | none => False)
  | none => False
def isNon : Sl → Bool
  | .dat .none => true
  | _ => false
def dIsN (neg : Bool) : BR := fun x y μ P => match y with
  | .dat .none => P (.dat (.bool (if neg then !isNon x else isNon x))) μ
  | _ => False
section
variable {X : Cx} {K : PySem.W.Frag} {bad : Bad} {as : List Addr} {H : Hp} {v : V}
theorem ord_by {op : CmpOp} {f : Int → Int → Bool} {g : Str → Str → Bool} (h1 : OpR X (compareOp op) (rI0 fun i j => .bl (f i j)))
    (h2 : OpR X (compareOp op) (fun x y H Q => ∃ i j, x = .str i ∧ y = .str j ∧ Q (.bl (g i j)) H)) : BinD X (compareOp op) (dOrd f g) := by
  intro bad as σ H ρ μ x y vx vy P Q k rx ry hr p
  unfold dOrd at hr
  split at hr
  · split at hr
    · rw [rx.dat_int, ry.dat_int]
      exact wpO_of h1 ⟨_, _, rfl, rfl, p.nowD k (.bl _) hr⟩
    · exact hr.elim
  · split at hr
    · rw [rx.dat_str, ry.dat_str]
      exact wpO_of h2 ⟨_, _, rfl, rfl, p.nowD k (.bl _) hr⟩
    · exact hr.elim
  · exact hr.elim
theorem c_lt : BinD X (compareOp .Lt) (dOrd (fun i j => decide (i < j)) fun i j => decide (i.cps.toList < j.cps.toList)) := ord_by op_lt op_lt_str
theorem c_le : BinD X (compareOp .LtE) (dOrd (fun i j => decide (i ≤ j)) fun i j => !decide (j.cps.toList < i.cps.toList)) := ord_by op_le op_le_str
theorem c_gt : BinD X (compareOp .Gt) (dOrd (fun i j => decide (j < i)) fun i j => decide (j.cps.toList < i.cps.toList)) := ord_by op_gt op_gt_str
theorem c_ge : BinD X (compareOp .GtE) (dOrd (fun i j => decide (j ≤ i)) fun i j => !decide (i.cps.toList < j.cps.toList)) := ord_by op_ge op_ge_str
theorem eqv_scal {vx vy : V} {d e : PyData} (h : scalD d e = true) (rx : Dp K H vx d) (ry : Dp K H vy e) : scal vx vy = true ∧ decide (vx = vy) = PyData.eqv d e := by
  have bq : ∀ (p : Prop) [Decidable p] (b : Bool), (p ↔ b = true) → decide p = b := fun p _ b z => by
    cases b with
    | true => exact decide_eq_true (z.mpr rfl)
    | false => exact decide_eq_false fun q => Bool.noConfusion (z.mp q)
  cases d <;> cases e <;> first
    | exact absurd (show false = true from h) Bool.false_ne_true
    | (cases rx; cases ry; refine ⟨rfl, bq _ _ ?_⟩; simp [PyData.eqv])
theorem c_eqv (hu : X.A.units + 64 < cLine) : BinD X (compareOp .Eq) (dEqv false) := by
  intro bad as σ H ρ μ x y vx vy P Q k rx ry hr p
  unfold dEqv at hr
  split at hr
  · rename_i d hd
    split at hr
    · rename_i e he
      have qx := val_dp k rx hd
      have qy := val_dp k ry he
      obtain ⟨ok | ⟨s1, s2⟩, q⟩ := hr
      · obtain ⟨z1, z2⟩ := eqv_scal ok qx qy
        exact wpO_of op_eq ⟨z1, p.nowD k (.bl _) (by rw [z2]; exact q)⟩
      · exact wpO_of (op_eqD hu) ⟨d, e, qx, qy, s1, s2, p.nowD k (.bl _) q⟩
    · exact hr.elim
  · exact hr.elim
theorem c_neqv (hu : X.A.units + 64 < cLine) : BinD X (compareOp .NotEq) (dEqv true) := by
  intro bad as σ H ρ μ x y vx vy P Q k rx ry hr p
  unfold dEqv at hr
  split at hr
  · rename_i d hd
    split at hr
    · rename_i e he
      have qx := val_dp k rx hd
      have qy := val_dp k ry he
      obtain ⟨ok | ⟨s1, s2⟩, q⟩ := hr
      · obtain ⟨z1, z2⟩ := eqv_scal ok qx qy
        exact wpO_of op_ne ⟨z1, p.nowD k (.bl _) (by rw [z2]; exact q)⟩
      · exact wpO_of (op_neD hu) ⟨d, e, qx, qy, s1, s2, p.nowD k (.bl _) q⟩
    · exact hr.elim
  · exact hr.elim
theorem isNon_rep {s : Sl} (r : SRep K bad as H v s) : decide (v = .non) = isNon s := by
  cases s with
  | dat d =>
    have r : Rp K bad H v d := r
    cases r <;> rfl
  | obj j => obtain ⟨a, _, e⟩ := r; subst e; rfl
  | scr ns => obtain ⟨a, e, _⟩ := r; subst e; rfl
  | glo a => have r : v = .ref a := r; subst r; rfl
  | typ n => have r : v = .ty n := r; subst r; rfl
theorem c_isN : BinD X (compareOp .Is) (dIsN false) := by
  intro bad as σ H ρ μ x y vx vy P Q k rx ry hr p
  unfold dIsN at hr
  split at hr
  · rw [ry.dat_none]
    exact wpO_of op_isN ⟨rfl, p.nowD k (.bl _) (by rw [isNon_rep rx]; exact hr)⟩
  · exact hr.elim
theorem c_notN : BinD X (compareOp .IsNot) (dIsN true) := by
  intro bad as σ H ρ μ x y vx vy P Q k rx ry hr p
  unfold dIsN at hr
  split at hr
  · rw [ry.dat_none]
    exact wpO_of op_notN ⟨rfl, p.nowD k (.bl _) (by rw [isNon_rep rx]; exact hr)⟩
  · exact hr.elim
end

/-! ### written dicts with text keys; in -/
/-- the written dict at a: its pairs -/
def KD (K : PySem.W.Frag) (w : World) (a : Addr) (kvs : List (Str × PyData)) : Prop :=
  (∃ es n, KDict K w a es n) ∧ ∀ z : Str, (∃ d u v, kvs.lookup z = some d ∧ PySem.W.nsIn K a z = some (some u) ∧ RelV v u ∧ ∀ bad H, Rp K bad H v d) ∨ (kvs.lookup z = none ∧ PySem.W.nsIn K a z = some none)
def flatD : PyData → Bool
  | .none => true | .bool _ => true | .int _ => true | .str _ => true
  | _ => false
def seqOf (μ : Mu) : Sl → Option (List PyData)
  | .dat (.tuple ds) => some ds
  | s => lstOf μ s
def dIn (K : PySem.W.Frag) (w : World) (neg : Bool) : BR := fun x y μ P => match y with
  | .dat (.str z) => ∃ c, x = .dat (.str ⟨#[c]⟩) ∧ P (.dat (.bool (if neg then !decide (c ∈ z.cps.toList) else decide (c ∈ z.cps.toList)))) μ
  | .glo a => ∃ z kvs, x = .dat (.str z) ∧ KD K w a kvs ∧ P (.dat (.bool (if neg then !(kvs.lookup z).isSome else (kvs.lookup z).isSome))) μ
  | y => ∃ d ds, x = .dat d ∧ seqOf μ y = some ds ∧ flatD d = true ∧ ds.all flatD = true ∧ P (.dat (.bool (if neg then !ds.any fun e => PyData.eqv e d else ds.any fun e => PyData.eqv e d))) μ
section
variable {X : Cx} {K : PySem.W.Frag} {bad : Bad} {as : List Addr} {H : Hp} {v : V}
theorem flat_rep {d : PyData} (h : flatD d = true) (r : Rp K bad H v d) : flatV v = true := by
  cases r <;> first
    | rfl
    | exact absurd (show false = true from h) Bool.false_ne_true
theorem flat_reps {vs : List V} {ds : List PyData} (h : ds.all flatD = true) (r : Rps K bad H vs ds) : vs.all flatV = true := by
  induction ds generalizing vs with
  | nil => cases r; rfl
  | cons d ds ih =>
    cases r with
    | cons r1 r2 =>
      rw [List.all_cons, Bool.and_eq_true] at h ⊢
      exact ⟨flat_rep h.1 r1, ih h.2 r2⟩
theorem eqV_rep {v w : V} {d e : PyData} (h1 : flatD d = true) (h2 : flatD e = true) (r1 : Rp K bad H v d) (r2 : Rp K bad H w e) : eqV v w = PyData.eqv d e := by
  cases r1 <;> cases r2 <;> first
    | exact absurd (show false = true from h1) Bool.false_ne_true
    | exact absurd (show false = true from h2) Bool.false_ne_true
    | (simp [eqV, PyData.eqv, b2i]; done)
    | (simp [eqV, PyData.eqv]; done)
    | rfl
theorem inV_rep {vs : List V} {ds : List PyData} {w : V} {d : PyData} (h : ds.all flatD = true) (hd : flatD d = true) (r : Rps K bad H vs ds) (rw' : Rp K bad H w d) : inV w vs = ds.any fun e => PyData.eqv e d := by
  induction ds generalizing vs with
  | nil => cases r; rfl
  | cons e ds ih =>
    cases r with
    | cons r1 r2 =>
      rw [List.all_cons, Bool.and_eq_true] at h
      have z := ih h.2 r2
      unfold inV at z ⊢
      rw [List.any_cons, List.any_cons, z, eqV_rep h.1 hd r1 rw']
theorem seq_at {σ : L2.St} {ρ : Env} {μ : Mu} {s : Sl} {ds : List PyData} (k : SOk K bad as σ H ρ μ) (r : SRep K bad as H v s) (h : seqOf μ s = some ds) :
    ∃ a vs, v = .ref a ∧ (SqL K H a vs ∨ SqT K H a vs) ∧ Rps K bad H vs ds := by
  have other : lstOf μ s = some ds → ∃ a vs, v = .ref a ∧ (SqL K H a vs ∨ SqT K H a vs) ∧ Rps K bad H vs ds := fun h => by
    obtain ⟨a, vs, e, ha, q⟩ := lst_at k r h
    exact ⟨a, vs, e, .inl (SqL.of ha), q⟩
  unfold seqOf at h
  split at h
  · cases h
    have r : Rp K bad H v (.tuple ds) := r
    cases r with
    | tup e q => exact ⟨_, _, rfl, .inr e, q⟩
  · exact other h
theorem c_in : BinD X (compareOp .In) (dIn X.K X.w false) := by
  intro bad as σ H ρ μ x y vx vy P Q k rx ry hr p
  unfold dIn at hr
  split at hr
  · obtain ⟨c, rfl, q⟩ := hr
    rw [rx.dat_str, ry.dat_str]
    exact wpO_of op_in_sign ⟨c, _, rfl, rfl, p.nowD k (.bl _) q⟩
  · obtain ⟨z, kvs, rfl, ⟨⟨es, n, D⟩, hk⟩, q⟩ := hr
    rw [rx.dat_str]
    have ry : vy = _ := ry
    subst ry
    rcases hk z with ⟨d, u, v, h1, h2, _⟩ | ⟨h1, h2⟩
    · exact wpO_of (op_in_kd D) ⟨z, _, rfl, rfl, h2, p.nowD k (.bl _) (by rw [h1] at q; exact q)⟩
    · exact wpO_of (op_in_kd D) ⟨z, _, rfl, rfl, h2, p.nowD k (.bl _) (by rw [h1] at q; exact q)⟩
  · obtain ⟨d, ds, rfl, hs, h1, h2, q⟩ := hr
    obtain ⟨a, vs, rfl, ha, ra⟩ := seq_at k ry hs
    have rx : Rp X.K bad H vx d := rx
    exact wpO_of op_in_seq ⟨a, vs, rfl, ha, flat_rep h1 rx, flat_reps h2 ra, p.nowD k (.bl _) (by rw [if_neg Bool.false_ne_true, inV_rep h2 h1 ra rx]; exact q)⟩
theorem c_notIn : BinD X (compareOp .NotIn) (dIn X.K X.w true) := by
  intro bad as σ H ρ μ x y vx vy P Q k rx ry hr p
  unfold dIn at hr
  split at hr
  · obtain ⟨c, rfl, q⟩ := hr
    rw [rx.dat_str, ry.dat_str]
    exact wpO_of op_notIn_sign ⟨c, _, rfl, rfl, p.nowD k (.bl _) q⟩
  · obtain ⟨z, kvs, rfl, ⟨⟨es, n, D⟩, hk⟩, q⟩ := hr
    rw [rx.dat_str]
    have ry : vy = _ := ry
    subst ry
    rcases hk z with ⟨d, u, v, h1, h2, _⟩ | ⟨h1, h2⟩
    · exact wpO_of (op_notIn_kd D) ⟨z, _, rfl, rfl, h2, p.nowD k (.bl _) (by rw [h1] at q; exact q)⟩
    · exact wpO_of (op_notIn_kd D) ⟨z, _, rfl, rfl, h2, p.nowD k (.bl _) (by rw [h1] at q; exact q)⟩
  · obtain ⟨d, ds, rfl, hs, h1, h2, q⟩ := hr
    obtain ⟨a, vs, rfl, ha, ra⟩ := seq_at k ry hs
    have rx : Rp X.K bad H vx d := rx
    exact wpO_of op_notIn_seq ⟨a, vs, rfl, ha, flat_rep h1 rx, flat_reps h2 ra, p.nowD k (.bl _) (by rw [if_pos rfl, inV_rep h2 h1 ra rx]; exact q)⟩
end
end Dv

set_option maxRecDepth 100000
set_option maxHeartbeats 4000000
namespace Dv
open PySem PySem.Spec PyProof.Rows L2

/-! ### what was made on the way is forgotten -/
def trimP (n : Nat) (P : Sl → Mu → Prop) : Sl → Mu → Prop := fun r μ => match r with
  | .obj j => if j < n then P (.obj j) (μ.take n) else ∃ m, μ[j]? = some (some m) ∧ P (.obj n) (μ.take n ++ [some m])
  | r => P r (μ.take n)
section
variable {K : PySem.W.Frag} {bad bad' : Bad} {as as' : List Addr} {σ : L2.St} {H H' : Hp} {ρ : Env} {μ μ' : Mu} {n : Nat}
/-- the objects behind the first n are let go -/
def less (bad : Bad) (as : List Addr) (μ : Mu) (n : Nat) : Bad :=
  ⟨fun a => bad.av a ∧ ¬ ∃ j m, n ≤ j ∧ as[j]? = some a ∧ μ[j]? = some (some m), fun a => bad.wr a ∧ ¬ ∃ j m, n ≤ j ∧ as[j]? = some a ∧ μ[j]? = some (some m), fun a h => ⟨bad.le a h.1, h.2⟩⟩
theorem MRep.sub {a : Addr} {m : MO} (h : ∀ a, bad'.av a → bad.av a) (r : MRep K bad H a m) : MRep K bad' H a m := r.step Kept.refl (fun a z => .inl (h a z)) rfl
theorem SRep.subD {v : V} {s : Sl} (h : ∀ a, bad'.av a → bad.av a) (r : SRep K bad as H v s) (o : ∀ j, s = .obj j → as'[j]? = as[j]?) : SRep K bad' as' H v s := by
  cases s with
  | dat d => exact Rp.sub h r
  | obj j => obtain ⟨a, h1, h2⟩ := r; exact ⟨a, by rw [o j rfl]; exact h1, h2⟩
  | scr ns => obtain ⟨a, h1, h2⟩ := r; exact ⟨a, h1, h2.step Kept.refl fun a z => .inl (h a z)⟩
  | glo a => exact r
  | typ n => exact r
theorem SOk.take (k : SOk K bad as σ H ρ μ) (hρ : ∀ (i : Nat) (j : Nat), ρ[i]? = some (some (.obj j)) → j < n) : SOk K (less bad as μ n) (as.take n) σ H ρ (μ.take n) where
  ls := k.ls
  la := by rw [List.length_take, List.length_take, k.la]
  nd := fun i j a x y e1 e2 e3 e4 => by
    rw [List.getElem?_take] at e1 e2 e3 e4
    split at e1
    · split at e2
      · rename_i h1 h2
        rw [if_pos h1] at e3
        rw [if_pos h2] at e4
        exact k.nd i j a x y e1 e2 e3 e4
      · cases e2
    · cases e1
  muts := fun i a m e q => by
    rw [List.getElem?_take] at e q
    split at e
    · rename_i h
      rw [if_pos h] at q
      obtain ⟨b, r⟩ := k.muts i a m e q
      refine ⟨⟨b, ?_⟩, r.sub fun a z => z.1⟩
      rintro ⟨j, m', hj, h1, h2⟩
      have := k.nd i j a m m' e h1 q h2
      omega
    · cases e
  bin := fun a z => k.bin a z.1
  slot := fun i s e => by
    obtain ⟨v, h1, h2⟩ := k.slot i s e
    refine ⟨v, h1, h2.subD (fun a z => z.1) fun j ej => ?_⟩
    subst ej
    rw [List.getElem?_take, if_pos (hρ i j e)]
theorem go_take (g : Go bad as H bad' as' H') (k : ∀ a, bad.av a → H a ≠ none) (hn : as.length ≤ n) : Go bad as H (less bad' as' μ' n) (as'.take n) H' where
  pre := by
    obtain ⟨t, e⟩ := g.pre
    refine ⟨t.take (n - as.length), ?_⟩
    rw [e, List.take_append, List.take_of_length_le hn]
  sub := fun a b => ⟨g.sub a b, fun ⟨j, m, hj, h1, _⟩ => k a b (g.newA j a (by omega) h1)⟩
  new := fun a b => g.new a b.1
  newW := fun a b => g.newW a b.1
  newA := fun j a hj e => by
    rw [List.getElem?_take] at e
    split at e
    · exact g.newA j a hj e
    · cases e
  keep := g.keep
  stay := g.stay
/-- .. but the j-th, which comes to the place n -/
theorem SOk.pick {j : Nat} {m : MO} (k : SOk K bad as σ H ρ μ) (hj : n ≤ j) (hm : μ[j]? = some (some m)) (hρ : ∀ (i : Nat) (j : Nat), ρ[i]? = some (some (.obj j)) → j < n) :
    ∃ a, as[j]? = some a ∧ SOk K ((less bad as μ n).add a) (as.take n ++ [a]) σ H ρ (μ.take n ++ [some m]) := by
  have la := k.la
  have hjl := (List.getElem?_eq_some_iff.mp hm).1
  obtain ⟨a, ha⟩ : ∃ a, as[j]? = some a := ⟨as[j], List.getElem?_eq_getElem (by omega)⟩
  have hnl : (as.take n).length = n := by rw [List.length_take]; omega
  have hml : (μ.take n).length = n := by rw [List.length_take]; omega
  have t := k.take hρ
  have sb : ∀ b, ((less bad as μ n).add a).av b → bad.av b := fun b z => z.elim (·.1) fun e => by subst e; exact bad.le _ (k.muts j b m ha hm).1
  have old : ∀ (i : Nat) (b : Addr) (x : MO), (as.take n ++ [a])[i]? = some b → (μ.take n ++ [some m])[i]? = some (some x) → (i < n ∧ as[i]? = some b ∧ μ[i]? = some (some x)) ∨ (i = n ∧ b = a ∧ x = m) := fun i b x e1 e2 => by
    by_cases hi : i < n
    · rw [List.getElem?_append_left (by omega), List.getElem?_take, if_pos hi] at e1
      rw [List.getElem?_append_left (by omega), List.getElem?_take, if_pos hi] at e2
      exact .inl ⟨hi, e1, e2⟩
    · rw [List.getElem?_append_right (by omega)] at e1 e2
      have i0 : i - n = 0 := by
        have := (List.getElem?_eq_some_iff.mp e1).1
        rw [hnl] at this
        simp at this
        omega
      rw [hnl, i0] at e1
      rw [hml, i0] at e2
      exact .inr ⟨by omega, (Option.some.inj e1).symm, (Option.some.inj (Option.some.inj e2)).symm⟩
  refine ⟨a, ha, k.ls, by rw [List.length_append, List.length_append, hnl, hml]; rfl, fun i i' b x y e1 e2 e3 e4 => ?_, fun i b x e1 e2 => ?_, fun b z => k.bin b (sb b z), fun i s e => ?_⟩
  · rcases old i b x e1 e3 with ⟨h1, h2, h3⟩ | ⟨h1, h2, h3⟩
    · rcases old i' b y e2 e4 with ⟨h4, h5, h6⟩ | ⟨h4, h5, h6⟩
      · exact k.nd i i' b x y h2 h5 h3 h6
      · subst h5
        have := k.nd i j b x m h2 ha h3 hm
        omega
    · rcases old i' b y e2 e4 with ⟨h4, h5, h6⟩ | ⟨h4, h5, h6⟩
      · subst h2
        have := k.nd i' j b y m h5 ha h6 hm
        omega
      · omega
  · rcases old i b x e1 e2 with ⟨h1, h2, h3⟩ | ⟨h1, h2, h3⟩
    · obtain ⟨b1, r1⟩ := k.muts i b x h2 h3
      refine ⟨.inl ⟨b1, ?_⟩, r1.sub sb⟩
      rintro ⟨j', m', hj', h4, h5⟩
      have := k.nd i j' b x m' h2 h4 h3 h5
      omega
    · subst h2 h3
      exact ⟨.inr rfl, (k.muts j b x ha hm).2.sub sb⟩
  · obtain ⟨v, h1, h2⟩ := k.slot i s e
    refine ⟨v, h1, h2.subD sb fun j' ej => ?_⟩
    subst ej
    have := hρ i j' e
    rw [List.getElem?_append_left (by omega), List.getElem?_take, if_pos this]
theorem go_pick {a : Addr} {j : Nat} (g : Go bad as H bad' as' H') (k : ∀ a, bad.av a → H a ≠ none) (hn : as.length ≤ n) (hl : n ≤ as'.length) (hj : n ≤ j) (ha : as'[j]? = some a) (hb : bad'.wr a) :
    Go bad as H ((less bad' as' μ' n).add a) (as'.take n ++ [a]) H' where
  pre := by
    obtain ⟨t, e⟩ := (go_take (μ' := μ') g k hn).pre
    exact ⟨t ++ [a], by rw [e, List.append_assoc]⟩
  sub := fun b z => .inl ((go_take g k hn).sub b z)
  new := fun b z => z.elim (fun z => g.new b z.1) fun e => by subst e; exact g.new b (bad'.le _ hb)
  newW := fun b z => z.elim (fun z => g.newW b z.1) fun e => by subst e; exact g.newW b hb
  newA := fun i b hi e => by
    by_cases h : i < n
    · rw [List.getElem?_append_left (by rw [List.length_take]; omega)] at e
      exact (go_take (μ' := μ') g k hn).newA i b hi e
    · rw [List.getElem?_append_right (by rw [List.length_take]; omega)] at e
      have e' : a = b := by
        have h2 := (List.getElem?_eq_some_iff.mp e).1
        have : i - (as'.take n).length = 0 := by simp at h2 ⊢; omega
        rw [this] at e
        exact Option.some.inj e
      subst e'
      exact g.newA j a (by omega) ha
  keep := g.keep
  stay := g.stay
end
section
variable {X : Cx} {ρ : Env} {μ : Mu} {P : Sl → Mu → Prop} {e : Expr}
theorem Ev.trim (h : Ev X e ρ μ (trimP μ.length P)) : Ev X e ρ μ P := fun bad as σ H Q k p =>
  h bad as σ H Q k fun bad' as' H' v r μ' g k' r' q => by
    have la := k.la
    have hρ : ∀ (i j : Nat), ρ[i]? = some (some (.obj j)) → j < μ.length := fun i j e => by
      obtain ⟨v, _, a, h2, _⟩ := k.slot i _ e
      have := (List.getElem?_eq_some_iff.mp h2).1
      omega
    have hn : as.length ≤ μ.length := by omega
    have other : (∀ j, r ≠ .obj j) → P r (μ'.take μ.length) → Q v H' := fun no q =>
      p _ _ _ v r _ (go_take (μ' := μ') g k.bin hn) (k'.take hρ) (r'.subD (fun a z => z.1) fun j ej => (no j ej).elim) q
    cases r with
    | obj j =>
      have q : if j < μ.length then P (.obj j) (μ'.take μ.length) else ∃ m, μ'[j]? = some (some m) ∧ P (.obj μ.length) (μ'.take μ.length ++ [some m]) := q
      split at q
      · rename_i hj
        refine p _ _ _ v (.obj j) _ (go_take (μ' := μ') g k.bin hn) (k'.take hρ) (r'.subD (fun a z => z.1) fun j' ej => ?_) q
        cases ej
        rw [List.getElem?_take, if_pos hj]
      · rename_i hj
        obtain ⟨m, hm, q⟩ := q
        obtain ⟨a, ha, k2⟩ := k'.pick (n := μ.length) (by omega) hm hρ
        obtain ⟨a', ha', ev⟩ := r'
        rw [ha] at ha'
        cases ha'
        have hl : μ.length ≤ as'.length := by
          have := (List.getElem?_eq_some_iff.mp ha).1
          omega
        refine p _ _ _ v (.obj μ.length) _ (go_pick (μ' := μ') g k.bin hn hl (by omega) ha (k'.muts j a m ha hm).1) k2 ⟨a, ?_, ev⟩ q
        have z : (as'.take μ.length).length = μ.length := by rw [List.length_take]; omega
        rw [List.getElem?_append_right (by omega), z, Nat.sub_self]
        rfl
    | dat d => exact other (fun j z => by cases z) q
    | scr ns => exact other (fun j z => by cases z) q
    | glo a => exact other (fun j z => by cases z) q
    | typ n => exact other (fun j z => by cases z) q
end

/-! ### subscripts -/
def wpX (X : Cx) : R2 := fun x y H Q => ∀ value slice pins s σ v u, Inv X pins σ H s → RelV x v → RelV y u → subscripted slice false v u = operate [v, u] (getItem v u) →
  wpAny (model X.prog X.w) X.A (subscriptTail value slice v u) (EP X pins σ Q) X.xe s
theorem wpX_ix {X : Cx} : IxR X (wpX X) := fun value slice pins s σ _ _ _ v u _ I rx ry h hs => h value slice pins s σ v u I rx ry hs
theorem wpX_of {X : Cx} {r : R2} (p : IxR X r) {x y : V} {H : Hp} {Q : VK} (h : r x y H Q) : wpX X x y H Q := fun value slice pins s σ v u I rx ry hs => p value slice pins s σ H x y v u Q I rx ry h hs
def dIx (K : PySem.W.Frag) (w : World) : BR := fun x y μ P => match y with
  | .dat (.int i) => (match x with
    | .dat (.str s) => s.length ≤ sizeLine ∧ ∃ c, atI s.cps.toList i = some c ∧ P (.dat (.str ⟨#[c]⟩)) μ
    | .scr ns => ∃ n, atI ns i = some n ∧ P (.dat (.int n)) μ
    | x => ∃ ds d, seqOf μ x = some ds ∧ atI ds i = some d ∧ P (.dat d) μ)
  | .dat (.str z) => ∃ a kvs d, x = .glo a ∧ KD K w a kvs ∧ kvs.lookup z = some d ∧ P (.dat d) μ
  | _ => False
section
variable {X : Cx} {ρ : Env} {μ : Mu} {P : Sl → Mu → Prop} {a b : Expr} {pos : Pos}
theorem ix_kd {d : Addr} {es : Array DictEntry} {n : Nat} (D : KDict X.K X.w d es n) : IxR X (fun x y H Q => ∃ (z : Str) (u0 : Value) (v0 : V), x = .ref d ∧ y = .str z ∧ PySem.W.nsIn X.K d z = some (some u0) ∧ RelV v0 u0 ∧ Q v0 H) := by
  intro value slice pins s σ H x y v u Q I rx ry h hs
  obtain ⟨z, u0, v0, rfl, rfl, h1, h2, q⟩ := h
  have ty := kd_type D I
  have w := op_item_kd D pins s σ H (.ref d) (.str z) v u Q I rx ry ⟨z, u0, v0, rfl, rfl, h1, h2, q⟩
  cases rx
  exact tail_any ty slot_dict_getitem.lookup w hs
theorem atI_rep {K : PySem.W.Frag} {bad : Bad} {H : Hp} {vs : List V} {ds : List PyData} {i : Int} {d : PyData} (r : Rps K bad H vs ds) (h : atI ds i = some d) : ∃ v, atI vs i = some v ∧ Rp K bad H v d := by
  unfold atI at h ⊢
  rw [r.length]
  cases e : ixN ds.length i with
  | none => rw [e] at h; cases h
  | some j =>
    rw [e] at h
    exact r.get h
theorem atI_map {ns : List Int} {i n : Int} (h : atI ns i = some n) : atI (ns.map V.int) i = some (.int n) := by
  unfold atI at h ⊢
  rw [List.length_map]
  cases e : ixN ns.length i with
  | none => rw [e] at h; cases h
  | some j =>
    rw [e] at h
    show (ns.map V.int)[j]? = some (.int n)
    rw [List.getElem?_map]
    have h : ns[j]? = some n := h
    rw [h]
    rfl
theorem x_ix {bad : Bad} {as : List Addr} {σ : L2.St} {H : Hp} {x y : Sl} {vx vy : V} {Q : VK} (k : SOk X.K bad as σ H ρ μ) (rx : SRep X.K bad as H vx x) (ry : SRep X.K bad as H vy y) (hr : dIx X.K X.w x y μ P) (p : Post X.K σ ρ bad as H P Q) : wpX X vx vy H Q := by
  unfold dIx at hr
  split at hr
  · rw [ry.dat_int]
    split at hr
    · obtain ⟨hz, c, hc, q⟩ := hr
      rw [rx.dat_str]
      exact wpX_of ix_str ⟨_, _, c, rfl, rfl, hz, hc, p.nowD k (.str _) q⟩
    · obtain ⟨n, hn, q⟩ := hr
      obtain ⟨a, rfl, ha⟩ := rx
      exact wpX_of ix_list ⟨a, _, _, .int n, rfl, rfl, ha.sq, atI_map hn, p.nowD k (.int n) q⟩
    · obtain ⟨ds, d, hs, hd, q⟩ := hr
      obtain ⟨a, vs, rfl, ha, ra⟩ := seq_at k rx hs
      obtain ⟨v, hv, rv⟩ := atI_rep ra hd
      rcases ha with ha | ha
      · exact wpX_of ix_list ⟨a, vs, _, v, rfl, rfl, ha, hv, p.nowD k rv q⟩
      · exact wpX_of ix_tup ⟨a, vs, _, v, rfl, rfl, ha, hv, p.nowD k rv q⟩
  · obtain ⟨a, kvs, d, rfl, ⟨⟨es, n, D⟩, hk⟩, hd, q⟩ := hr
    rw [ry.dat_str]
    have rx : vx = .ref a := rx
    subst rx
    rcases hk _ with ⟨d', u, v, h1, h2, h3, h4⟩ | ⟨h1, h2⟩
    · rw [hd] at h1
      cases h1
      exact wpX_of (ix_kd D) ⟨_, u, v, rfl, rfl, h2, h3, p.nowD k (h4 _ _) q⟩
    · rw [hd] at h1
      cases h1
  · exact hr.elim
theorem ev_sub (hs : PlainIx b) (h : Ev X a ρ μ fun x μ1 => Ev X b ρ μ1 fun y μ2 => dIx X.K X.w x y μ2 P) : Ev X (.Subscript a b pos) ρ μ P := fun bad as σ H Q k p => by
  refine wpE_of (pe_ix wpX_ix wpE_pe wpE_pe hs) ?_
  refine h bad as σ H _ k fun bad1 as1 H1 vx x μ1 g1 k1 r1 h1 => ?_
  refine h1 bad1 as1 σ H1 _ k1 fun bad2 as2 H2 vy y μ2 g2 k2 r2 h2 => ?_
  exact x_ix k2 (r1.go g2) r2 h2 (p.go (g1.trans g2))
end

/-! ### slices -/
def cutD (ds : List PyData) (lo hi : Option Int) : List PyData := (ds.drop (HT.sIx ds.length 0 lo)).take (HT.sIx ds.length ds.length hi - HT.sIx ds.length 0 lo)
def wpS (X : Cx) : V → Option Int → Option Int → Hp → VK → Prop := fun x lo hi H Q => ∀ pins s σ v vl vu sl, Inv X pins σ H s → RelV x v → s.heap.IsSliceOf sl vl vu .none → IsPart vl lo → IsPart vu hi →
  ∃ T id, typeLookup (.type T) "__getitem__" = pure (some (.builtin id)) ∧ s.TypeIs v T ∧ wpAny (model X.prog X.w) X.A (getItem v (.ref sl)) (EP X pins σ Q) X.xe s
theorem wpS_sl {X : Cx} : SlR X (wpS X) := fun pins s σ _ _ v vl vu _ _ sl _ I rx hs pl pu h => h pins s σ v vl vu sl I rx hs pl pu
theorem wpS_of {X : Cx} {r : V → Option Int → Option Int → Hp → VK → Prop} (p : SlR X r) {x : V} {lo hi : Option Int} {H : Hp} {Q : VK} (h : r x lo hi H Q) : wpS X x lo hi H Q :=
  fun pins s σ v vl vu sl I rx hs pl pu => p pins s σ H x v vl vu lo hi sl Q I rx hs pl pu h
/-- an optional part -/
def Eo (X : Cx) (o : Option Expr) (ρ : Env) (μ : Mu) (P : Option Int → Mu → Prop) : Prop := match o with
  | none => P none μ
  | some e => Ev X e ρ μ fun r μ' => ∃ i, r = .dat (.int i) ∧ P (some i) μ'
def dSl (x : Sl) (lo hi : Option Int) (μ : Mu) (P : Sl → Mu → Prop) : Prop := match x with
  | .dat (.str s) => s.length ≤ sizeLine ∧ P (.dat (.str (cutS s lo hi))) μ
  | .dat (.tuple ds) => ¬ (HT.sIx ds.length 0 lo = 0 ∧ HT.sIx ds.length ds.length hi = ds.length) ∧ P (.dat (.tuple (cutD ds lo hi))) μ
  | x => ∃ ds, lstOf μ x = some ds ∧ P (.obj μ.length) (μ ++ [some (.lst (cutD ds lo hi))])
section
variable {X : Cx} {ρ : Env} {μ : Mu} {P : Sl → Mu → Prop} {a : Expr} {pos p2 : Pos}
theorem eo_po {lo : Option Expr} {Po : Option Int → Mu → Prop} (h : Eo X lo ρ μ Po) : ∃ to, PO X lo to ∧ ∀ bad as σ H (Q : Option Int → Hp → Prop), SOk X.K bad as σ H ρ μ →
    (∀ bad' as' H' i μ', Go bad as H bad' as' H' → SOk X.K bad' as' σ H' ρ μ' → Po i μ' → Q i H') → to σ H Q := by
  cases lo with
  | none => exact ⟨_, po_none, fun bad as σ H Q k q => q bad as H none μ Go.refl k h⟩
  | some e =>
    refine ⟨_, po_some wpE_pe, fun bad as σ H Q k q => ?_⟩
    have h : Ev X e ρ μ fun r μ' => ∃ i, r = .dat (.int i) ∧ Po (some i) μ' := h
    refine h bad as σ H _ k fun bad' as' H' v r μ' g k' r' ⟨i, e', hp⟩ => ?_
    subst e'
    exact ⟨i, r'.dat_int, q _ _ _ _ _ g k' hp⟩
theorem cutV_rep {K : PySem.W.Frag} {bad : Bad} {H : Hp} {vs : List V} {ds : List PyData} {lo hi : Option Int} (r : Rps K bad H vs ds) : Rps K bad H (cutV vs lo hi) (cutD ds lo hi) := by
  unfold cutV cutD
  rw [r.length]
  exact (r.drop _).take _
theorem x_sl {bad : Bad} {as : List Addr} {σ : L2.St} {H : Hp} {x : Sl} {vx : V} {lo hi : Option Int} {Q : VK} (k : SOk X.K bad as σ H ρ μ) (rx : SRep X.K bad as H vx x) (hr : dSl x lo hi μ P) (p : Post X.K σ ρ bad as H P Q) : wpS X vx lo hi H Q := by
  unfold dSl at hr
  split at hr
  · obtain ⟨hz, q⟩ := hr
    rw [rx.dat_str]
    exact wpS_of sl_str ⟨_, rfl, hz, p.nowD k (.str _) q⟩
  · obtain ⟨hz, q⟩ := hr
    have rx : Rp X.K bad H vx (.tuple _) := rx
    cases rx with
    | tup e ra =>
      refine wpS_of sl_tup ⟨_, _, rfl, e, by rw [ra.length]; exact hz, post_tup k p (cutV_rep ra) q⟩
  · obtain ⟨ds, hs, q⟩ := hr
    obtain ⟨a, vs, rfl, ha, ra⟩ := lst_at k rx hs
    exact wpS_of sl_list ⟨a, vs, rfl, SqL.of ha, post_new k p (cutV_rep ra) q⟩
theorem ev_slice {lo hi : Option Expr} (h : Ev X a ρ μ fun x μ1 => Eo X lo ρ μ1 fun l μ2 => Eo X hi ρ μ2 fun u μ3 => dSl x l u μ3 P) : Ev X (.Subscript a (.Slice lo hi none p2) pos) ρ μ P := fun bad as σ H Q k p => by
  -- the parts' readings don't hang on what was read ahead: taken as their own wishes
  have hl : ∃ tl, PO X lo tl ∧ ∀ ρ μ Po, Eo X lo ρ μ Po → ∀ bad as σ H (Q : Option Int → Hp → Prop), SOk X.K bad as σ H ρ μ →
      (∀ bad' as' H' i μ', Go bad as H bad' as' H' → SOk X.K bad' as' σ H' ρ μ' → Po i μ' → Q i H') → tl σ H Q := by
    cases lo with
    | none => exact ⟨_, po_none, fun ρ μ Po h bad as σ H Q k q => q bad as H none μ Go.refl k h⟩
    | some e =>
      refine ⟨_, po_some wpE_pe, fun ρ μ Po h bad as σ H Q k q => ?_⟩
      have h : Ev X e ρ μ fun r μ' => ∃ i, r = .dat (.int i) ∧ Po (some i) μ' := h
      refine h bad as σ H _ k fun bad' as' H' v r μ' g k' r' ⟨i, e', hp⟩ => ?_
      subst e'
      exact ⟨i, r'.dat_int, q _ _ _ _ _ g k' hp⟩
  have hh : ∃ tl, PO X hi tl ∧ ∀ ρ μ Po, Eo X hi ρ μ Po → ∀ bad as σ H (Q : Option Int → Hp → Prop), SOk X.K bad as σ H ρ μ →
      (∀ bad' as' H' i μ', Go bad as H bad' as' H' → SOk X.K bad' as' σ H' ρ μ' → Po i μ' → Q i H') → tl σ H Q := by
    cases hi with
    | none => exact ⟨_, po_none, fun ρ μ Po h bad as σ H Q k q => q bad as H none μ Go.refl k h⟩
    | some e =>
      refine ⟨_, po_some wpE_pe, fun ρ μ Po h bad as σ H Q k q => ?_⟩
      have h : Ev X e ρ μ fun r μ' => ∃ i, r = .dat (.int i) ∧ Po (some i) μ' := h
      refine h bad as σ H _ k fun bad' as' H' v r μ' g k' r' ⟨i, e', hp⟩ => ?_
      subst e'
      exact ⟨i, r'.dat_int, q _ _ _ _ _ g k' hp⟩
  obtain ⟨tl, pl, hl⟩ := hl
  obtain ⟨th, ph, hh⟩ := hh
  refine wpE_of (pe_slice wpS_sl wpE_pe pl ph) ?_
  refine h bad as σ H _ k fun bad1 as1 H1 vx x μ1 g1 k1 r1 h1 => ?_
  refine hl ρ μ1 _ h1 bad1 as1 σ H1 _ k1 fun bad2 as2 H2 l μ2 g2 k2 h2 => ?_
  refine hh ρ μ2 _ h2 bad2 as2 σ H2 _ k2 fun bad3 as3 H3 u μ3 g3 k3 h3 => ?_
  exact x_sl k3 ((r1.go g2).go g3) h3 (p.go ((g1.trans g2).trans g3))
end

/-! ### argument lists, displays -/
def datOf : Sl → Option PyData
  | .dat d => some d
  | _ => none
def datsOf : List Sl → Option (List PyData)
  | [] => some []
  | s :: ss => (datOf s).bind fun d => (datsOf ss).map fun ds => d :: ds
section
variable {X : Cx} {ρ : Env} {μ : Mu} {P : Sl → Mu → Prop} {PA' : List Sl → Mu → Prop} {e : Expr} {es : List Expr} {pos : Pos}
theorem ea_nil (h : PA' [] μ) : Ea X [] ρ μ PA' := fun bad as σ H Q k p => wpA_of pa_nil (p bad as H [] [] μ Go.refl k .nil h)
theorem ea_cons (h : Ev X e ρ μ fun x μ1 => Ea X es ρ μ1 fun xs μ2 => PA' (x :: xs) μ2) (hs : starEach (e :: es) X.env = (false, eval e X.env) :: starEach es X.env := by rfl) : Ea X (e :: es) ρ μ PA' := fun bad as σ H Q k p => by
  refine wpA_of (pa_cons wpE_pe wpA_pa hs) ?_
  refine h bad as σ H _ k fun bad1 as1 H1 vx x μ1 g1 k1 r1 h1 => ?_
  refine h1 bad1 as1 σ H1 _ k1 fun bad2 as2 H2 vs rs μ2 g2 k2 r2 h2 => ?_
  exact p _ _ _ _ _ _ (g1.trans g2) k2 (.cons (r1.go g2) r2) h2
theorem dats_rep {K : PySem.W.Frag} {bad : Bad} {as : List Addr} {H : Hp} : ∀ {vs : List V} {rs : List Sl} {ds : List PyData}, SReps K bad as H vs rs → datsOf rs = some ds → Rps K bad H vs ds
  | _, _, _, .nil, h => by cases h; exact .nil
  | _, _, _, .cons (s := s) r t, h => by
    cases s with
    | dat d =>
      have h : ((datsOf _).map fun ds => d :: ds) = some _ := h
      cases e : datsOf (_ : List Sl) with
      | none => rw [e] at h; cases h
      | some es =>
        rw [e] at h
        cases h
        exact .cons r (dats_rep t e)
    | _ => cases h
theorem dats_len : ∀ {rs : List Sl} {ds : List PyData}, datsOf rs = some ds → rs.length = ds.length
  | [], _, h => by cases h; rfl
  | .dat d :: ss, _, h => by
    have h : ((datsOf ss).map fun ds => d :: ds) = some _ := h
    cases e : datsOf ss with
    | none => rw [e] at h; cases h
    | some es => rw [e] at h; cases h; exact congrArg (· + 1) (dats_len e)
  | .obj _ :: _, _, h => by cases h
  | .scr _ :: _, _, h => by cases h
  | .glo _ :: _, _, h => by cases h
  | .typ _ :: _, _, h => by cases h
def dTup : List Sl → Mu → (Sl → Mu → Prop) → Prop := fun rs μ P => ∃ ds, datsOf rs = some ds ∧ ds.length ≤ sizeLine ∧ P (.dat (.tuple ds)) μ
def dLst : List Sl → Mu → (Sl → Mu → Prop) → Prop := fun rs μ P => ∃ ds, datsOf rs = some ds ∧ ds.length ≤ sizeLine ∧ P (.obj μ.length) (μ ++ [some (.lst ds)])
theorem ev_tuple {x1} (h : Ea X es ρ μ fun rs μ1 => dTup rs μ1 P) : Ev X (.Tuple es x1 pos) ρ μ P := fun bad as σ H Q k p => by
  refine wpE_of (pe_tup wpA_pa) ?_
  refine h bad as σ H _ k fun bad1 as1 H1 vs rs μ1 g1 k1 r1 ⟨ds, hd, hz, q⟩ => ?_
  have r := dats_rep r1 hd
  exact ⟨by rw [r.length]; exact hz, post_tup k1 (p.go g1) r q⟩
theorem ev_list (h : Ea X es ρ μ fun rs μ1 => dLst rs μ1 P) : Ev X (.List es pos) ρ μ P := fun bad as σ H Q k p => by
  refine wpE_of (pe_lst wpA_pa) ?_
  refine h bad as σ H _ k fun bad1 as1 H1 vs rs μ1 g1 k1 r1 ⟨ds, hd, hz, q⟩ => ?_
  have r := dats_rep r1 hd
  exact ⟨by rw [r.length]; exact hz, post_new k1 (p.go g1) r q⟩
end

/-! ### and, or, not, if -/
section
variable {X : Cx} {ρ : Env} {μ : Mu} {P : Sl → Mu → Prop} {PB : Bool → Mu → Prop} {a b c : Expr} {rest : List Expr} {pos : Pos}
theorem wpW_val {e : Expr} {ρ : Env} {μ : Mu} (h : Et X e ρ μ PB) : Et X e ρ μ PB := h
theorem et_of_ew (h : Ew X a ρ μ PB) : Et X a ρ μ PB := fun bad as σ H Q k p pins s I => h bad as σ H Q k p (eval a X.env) pins s I
theorem ew_and1 (h : Et X a ρ μ PB) : Ew X (.BoolOp .And [a] pos) ρ μ PB := fun bad as σ H Q k p => wpW_of (pw_and1 wpT_pt) (h bad as σ H Q k p)
theorem ew_or1 (h : Et X a ρ μ PB) : Ew X (.BoolOp .Or [a] pos) ρ μ PB := fun bad as σ H Q k p => wpW_of (pw_or1 wpT_pt) (h bad as σ H Q k p)
theorem ew_and (h : Et X a ρ μ fun k μ1 => (k = true → Ew X (.BoolOp .And (b :: rest) pos) ρ μ1 PB) ∧ (k = false → PB false μ1)) : Ew X (.BoolOp .And (a :: b :: rest) pos) ρ μ PB := fun bad as σ H Q k p => by
  refine wpW_of (pw_and wpT_pt wpW_pw) ?_
  refine h bad as σ H _ k fun bad1 as1 H1 c μ1 g1 k1 ⟨h1, h2⟩ => ?_
  cases c with
  | true => exact h1 rfl bad1 as1 σ H1 Q k1 (p.go g1)
  | false => exact p _ _ _ _ _ g1 k1 (h2 rfl)
theorem ew_or (h : Et X a ρ μ fun k μ1 => (k = true → PB true μ1) ∧ (k = false → Ew X (.BoolOp .Or (b :: rest) pos) ρ μ1 PB)) : Ew X (.BoolOp .Or (a :: b :: rest) pos) ρ μ PB := fun bad as σ H Q k p => by
  refine wpW_of (pw_or wpT_pt wpW_pw) ?_
  refine h bad as σ H _ k fun bad1 as1 H1 c μ1 g1 k1 ⟨h1, h2⟩ => ?_
  cases c with
  | true => exact p _ _ _ _ _ g1 k1 (h1 rfl)
  | false => exact h2 rfl bad1 as1 σ H1 Q k1 (p.go g1)
theorem et_not (h : Et X a ρ μ fun k μ1 => PB (!k) μ1) : Et X (.UnaryOp .Not a pos) ρ μ PB := fun bad as σ H Q k p =>
  wpT_of (pt_not wpT_pt) (h bad as σ H _ k fun bad1 as1 H1 c μ1 g1 k1 h1 => p _ _ _ _ _ g1 k1 h1)
theorem ev_one {op} (h : Ev X a ρ μ P) : Ev X (.BoolOp op [a] pos) ρ μ P := fun bad as σ H Q k p => wpE_of (pe_one wpE_pe) (h bad as σ H Q k p)
theorem ev_and (h : Ev X a ρ μ fun x μ1 => ∃ k, x = .dat (.bool k) ∧ (k = true → Ev X (.BoolOp .And (b :: rest) pos) ρ μ1 P) ∧ (k = false → P (.dat (.bool false)) μ1)) : Ev X (.BoolOp .And (a :: b :: rest) pos) ρ μ P := fun bad as σ H Q k p => by
  refine wpE_of (pe_and wpE_pe wpE_pe) ?_
  refine h bad as σ H _ k fun bad1 as1 H1 v x μ1 g1 k1 r1 ⟨c, e, h1, h2⟩ => ?_
  subst e
  refine ⟨c, r1.dat_bool, ?_⟩
  cases c with
  | true => exact h1 rfl bad1 as1 σ H1 Q k1 (p.go g1)
  | false => exact p.goD g1 k1 (Rp.bl false) (h2 rfl)
theorem ev_or (h : Ev X a ρ μ fun x μ1 => ∃ k, x = .dat (.bool k) ∧ (k = true → P (.dat (.bool true)) μ1) ∧ (k = false → Ev X (.BoolOp .Or (b :: rest) pos) ρ μ1 P)) : Ev X (.BoolOp .Or (a :: b :: rest) pos) ρ μ P := fun bad as σ H Q k p => by
  refine wpE_of (pe_or wpE_pe wpE_pe) ?_
  refine h bad as σ H _ k fun bad1 as1 H1 v x μ1 g1 k1 r1 ⟨c, e, h1, h2⟩ => ?_
  subst e
  refine ⟨c, r1.dat_bool, ?_⟩
  cases c with
  | true => exact p.goD g1 k1 (Rp.bl true) (h1 rfl)
  | false => exact h2 rfl bad1 as1 σ H1 Q k1 (p.go g1)
theorem ev_not (h : Ev X a ρ μ fun x μ1 => ∃ k, x = .dat (.bool k) ∧ P (.dat (.bool (!k))) μ1) : Ev X (.UnaryOp .Not a pos) ρ μ P := fun bad as σ H Q k p => by
  refine wpE_of (pe_not wpE_pe) ?_
  refine h bad as σ H _ k fun bad1 as1 H1 v x μ1 g1 k1 r1 ⟨c, e, h1⟩ => ?_
  subst e
  exact ⟨c, r1.dat_bool, p.goD g1 k1 (Rp.bl _) h1⟩
theorem ev_neg (h : Ev X a ρ μ fun x μ1 => ∃ i, x = .dat (.int i) ∧ P (.dat (.int (-i))) μ1) : Ev X (.UnaryOp .USub a pos) ρ μ P := fun bad as σ H Q k p => by
  refine wpE_of (pe_un un_neg wpE_pe) ?_
  refine h bad as σ H _ k fun bad1 as1 H1 v x μ1 g1 k1 r1 ⟨c, e, h1⟩ => ?_
  subst e
  exact ⟨c, r1.dat_int, p.goD g1 k1 (Rp.int _) h1⟩
theorem ev_if (h : Et X c ρ μ fun k μ1 => (k = true → Ev X a ρ μ1 P) ∧ (k = false → Ev X b ρ μ1 P)) : Ev X (.IfExp c a b pos) ρ μ P := fun bad as σ H Q k p => by
  refine wpE_of (pe_ifExp wpT_pt wpE_pe wpE_pe) ?_
  refine h bad as σ H _ k fun bad1 as1 H1 c μ1 g1 k1 ⟨h1, h2⟩ => ?_
  cases c with
  | true => exact h1 rfl bad1 as1 σ H1 Q k1 (p.go g1)
  | false => exact h2 rfl bad1 as1 σ H1 Q k1 (p.go g1)
/-- a value that is a truth, as a test -/
theorem et_val (h : Ev X a ρ μ (TB PB)) (he : ∀ whole, isTrue a X.env whole = (do let v ← whole; standAt a.pos; holding [v] (truthy v)) := by intro _; rfl) : Et X a ρ μ PB := fun bad as σ H Q k p =>
  wpT_of (pt_val wpE_pe he) (h bad as σ H _ k (post_tb p))
/-- a op b op' c -/
theorem ev_chain {op op' : CmpOp} {r r' : BR} (ho : BinD X (compareOp op) r) (ho' : BinD X (compareOp op') r')
    (h : Ev X a ρ μ fun x μ1 => Ev X b ρ μ1 fun y μ2 => r x y μ2 fun z μ3 => ∃ k, z = .dat (.bool k) ∧ (k = true → Ev X c ρ μ3 fun w μ4 => r' y w μ4 P) ∧ (k = false → P (.dat (.bool false)) μ3))
    (hm : lastMarks [op, op'] [b, c] = false := by with_unfolding_all rfl) : Ev X (.Compare a [op, op'] [b, c] pos) ρ μ P := fun bad as σ H Q k p => by
  refine wpE_of (pe_chain wpO_op wpO_op wpE_pe wpE_pe wpE_pe hm) ?_
  refine h bad as σ H _ k fun bad1 as1 H1 vx x μ1 g1 k1 r1 h1 => ?_
  refine h1 bad1 as1 σ H1 _ k1 fun bad2 as2 H2 vy y μ2 g2 k2 r2 h2 => ?_
  refine ho bad2 as2 σ H2 ρ μ2 x y vx vy _ _ k2 (r1.go g2) r2 h2 fun bad3 as3 H3 vz z μ3 g3 k3 r3 ⟨c, e, h3, h4⟩ => ?_
  subst e
  refine ⟨c, r3.dat_bool, ?_⟩
  cases c with
  | true =>
    refine h3 rfl bad3 as3 σ H3 _ k3 fun bad4 as4 H4 vw w μ4 g4 k4 r4 h5 => ?_
    exact ho' bad4 as4 σ H4 ρ μ4 y w vy vw P Q k4 ((r2.go g3).go g4) r4 h5 (p.go (((g1.trans g2).trans g3).trans g4))
  | false => exact p.goD ((g1.trans g2).trans g3) k3 (Rp.bl false) (h4 rfl)
theorem et_chain {op op' : CmpOp} {r r' : BR} (ho : BinD X (compareOp op) r) (ho' : BinD X (compareOp op') r')
    (h : Ev X a ρ μ fun x μ1 => Ev X b ρ μ1 fun y μ2 => r x y μ2 fun z μ3 => ∃ k, z = .dat (.bool k) ∧ (k = true → Ev X c ρ μ3 fun w μ4 => r' y w μ4 (TB PB)) ∧ (k = false → PB false μ3))
    (hm : lastMarks [op, op'] [b, c] = false := by with_unfolding_all rfl) : Et X (.Compare a [op, op'] [b, c] pos) ρ μ PB := fun bad as σ H Q k p => by
  refine wpT_of (pt_chain wpO_op wpO_op wpE_pe wpE_pe wpE_pe hm) ?_
  refine h bad as σ H _ k fun bad1 as1 H1 vx x μ1 g1 k1 r1 h1 => ?_
  refine h1 bad1 as1 σ H1 _ k1 fun bad2 as2 H2 vy y μ2 g2 k2 r2 h2 => ?_
  refine ho bad2 as2 σ H2 ρ μ2 x y vx vy _ _ k2 (r1.go g2) r2 h2 fun bad3 as3 H3 vz z μ3 g3 k3 r3 ⟨c, e, h3, h4⟩ => ?_
  subst e
  refine ⟨c, r3.dat_bool, ?_⟩
  cases c with
  | true =>
    refine h3 rfl bad3 as3 σ H3 _ k3 fun bad4 as4 H4 vw w μ4 g4 k4 r4 h5 => ?_
    exact ho' bad4 as4 σ H4 ρ μ4 y w vy vw _ _ k4 ((r2.go g3).go g4) r4 h5 (post_tb (p.go (((g1.trans g2).trans g3).trans g4)))
  | false => exact ⟨false, rfl, p _ _ _ _ _ ((g1.trans g2).trans g3) k3 (h4 rfl)⟩
end
end Dv

set_option maxRecDepth 100000
set_option maxHeartbeats 4000000
namespace Dv
open PySem PySem.Spec PyProof.Rows L2

/-! ### a made object as data -/
def dataP (n : Nat) (P : Sl → Mu → Prop) : Sl → Mu → Prop := fun r μ => match r with
  | .obj j => n ≤ j ∧ ∃ ds, μ[j]? = some (some (.lst ds)) ∧ P (.dat (.list ds)) (μ.take n)
  | r => P r (μ.take n)
section
variable {X : Cx} {ρ : Env} {μ : Mu} {P : Sl → Mu → Prop} {e : Expr}
theorem Ev.data (h : Ev X e ρ μ (dataP μ.length P)) : Ev X e ρ μ P := fun bad as σ H Q k p =>
  h bad as σ H Q k fun bad' as' H' v r μ' g k' r' q => by
    have la := k.la
    have hρ : ∀ (i j : Nat), ρ[i]? = some (some (.obj j)) → j < μ.length := fun i j e => by
      obtain ⟨v, _, a, h2, _⟩ := k.slot i _ e
      have := (List.getElem?_eq_some_iff.mp h2).1
      omega
    have hn : as.length ≤ μ.length := by omega
    have other : (∀ j, r ≠ .obj j) → P r (μ'.take μ.length) → Q v H' := fun no q =>
      p _ _ _ v r _ (go_take (μ' := μ') g k.bin hn) (k'.take hρ) (r'.subD (fun a z => z.1) fun j ej => (no j ej).elim) q
    cases r with
    | obj j =>
      obtain ⟨hj, ds, hm, q⟩ := q
      obtain ⟨a, ha, ev⟩ := r'
      obtain ⟨_, vs, h1, h2⟩ := k'.muts j a _ ha hm
      subst ev
      exact p _ _ _ _ (.dat (.list ds)) _ (go_take (μ' := μ') g k.bin hn) (k'.take hρ) (Rp.lst h1 (fun z => z.2 ⟨j, _, hj, ha, hm⟩) (h2.sub fun a z => z.1)) q
    | dat d => exact other (fun j z => by cases z) q
    | scr ns => exact other (fun j z => by cases z) q
    | glo a => exact other (fun j z => by cases z) q
    | typ n => exact other (fun j z => by cases z) q
end

/-! ### where a def stands -/
structure Snap where
  as0 : List Addr
  bad0 : Bad
  bad1 : Bad
  H1 : Hp
structure Reach (S : Snap) (bad : Bad) (as : List Addr) (H : Hp) : Prop where
  pre : ∃ t, as = S.as0 ++ t
  sub : ∀ a, S.bad0.av a → bad.av a
  new : ∀ a, bad.av a → S.bad1.av a ∨ S.H1 a = none
  newW : ∀ a, bad.wr a → S.bad1.wr a ∨ S.H1 a = none
  newA : ∀ (j : Nat) (a : Addr), S.as0.length ≤ j → as[j]? = some a → ¬ S.bad0.av a
  keep : Kept S.bad1 S.H1 H
  stay : Stays S.H1 H
abbrev Snap.at (S : Snap) (bad : Bad) (H : Hp) : Snap := { S with bad1 := bad, H1 := H }
section
variable {S : Snap} {bad bad1 bad' : Bad} {as as1 as' : List Addr} {H H1 H' : Hp}
theorem back {a : Addr} (s : Stays H H') (z : H' a = none) : H a = none := by
  cases e : H a with
  | none => rfl
  | some o => exact ((s a (by rw [e]; exact fun q => by cases q)) z).elim
theorem Reach.go (r : Reach S bad as H) (b : ∀ a, bad.av a → H a ≠ none) (g : Go bad as H bad' as' H') : Reach S bad' as' H' where
  pre := by
    obtain ⟨t, h⟩ := r.pre
    obtain ⟨u, h2⟩ := g.pre
    exact ⟨t ++ u, by rw [h2, h, List.append_assoc]⟩
  sub := fun a h => g.sub a (r.sub a h)
  new := fun a h => by
    rcases g.new a h with h | h
    · exact r.new a h
    · exact .inr (back r.stay h)
  newW := fun a h => by
    rcases g.newW a h with h | h
    · exact r.newW a h
    · exact .inr (back r.stay h)
  newA := fun j a hj e => by
    by_cases h : j < as.length
    · have e1 : as[j]? = some a := by
        obtain ⟨u, h2⟩ := g.pre
        rw [h2, List.getElem?_append_left h] at e
        exact e
      exact r.newA j a hj e1
    · exact fun z => b a (r.sub a z) (g.newA j a (by omega) e)
  keep := fun a o e n => g.keep a o (r.keep a o e n) fun z => by
    rcases r.newW a z with z | z
    · exact n z
    · rw [e] at z; cases z
  stay := fun a h => g.stay a (r.stay a h)
theorem Reach.nest (r : Reach S bad as H) : Reach (S.at bad H) bad as H :=
  ⟨r.pre, r.sub, fun _ h => .inl h, fun _ h => .inl h, r.newA, Kept.refl, fun _ h => h⟩
theorem Reach.un (r : Reach S bad1 as1 H1) (q : Reach (S.at bad1 H1) bad as H) : Reach S bad as H where
  pre := q.pre
  sub := q.sub
  new := fun a h => by
    rcases q.new a h with h | h
    · exact r.new a h
    · exact .inr (back r.stay h)
  newW := fun a h => by
    rcases q.newW a h with h | h
    · exact r.newW a h
    · exact .inr (back r.stay h)
  newA := q.newA
  keep := fun a o e n => q.keep a o (r.keep a o e n) fun z => by
    rcases r.newW a z with z | z
    · exact n z
    · rw [e] at z; cases z
  stay := fun a h => q.stay a (r.stay a h)
theorem Reach.start : Reach ⟨as, bad, bad, H⟩ bad as H :=
  ⟨⟨[], by simp⟩, fun _ h => h, fun _ h => .inl h, fun _ h => .inl h, fun j a h e => by
    have := (List.getElem?_eq_some_iff.mp e).1
    have h : as.length ≤ j := h
    omega, Kept.refl, fun _ h => h⟩
end
/-- what is wanted behind a statement -/
structure DE where
  nx : Env → Mu → Prop
  rt : Sl → Mu → Prop
  bk : Env → Mu → Prop := fun _ _ => False
  ct : Env → Mu → Prop := fun _ _ => False
def EndN (K : PySem.W.Frag) (S : Snap) (P : Env → Mu → Prop) (Q : L2.St → Hp → Prop) : Prop := ∀ bad as σ H ρ μ, Reach S bad as H → SOk K bad as σ H ρ μ → P ρ μ → Q σ H
def EndR (K : PySem.W.Frag) (S : Snap) (P : Sl → Mu → Prop) (Q : VK) : Prop := ∀ bad as σ H ρ μ v r, Reach S bad as H → SOk K bad as σ H ρ μ → SRep K bad as H v r → P r μ → Q v H
structure EndsOk (K : PySem.W.Frag) (S : Snap) (D : DE) (De : Ends) : Prop where
  nx : EndN K S D.nx De.nx
  rt : EndR K S D.rt De.rt
  bk : EndN K S D.bk De.bk
  ct : EndN K S D.ct De.ct
def wpSt (X : Cx) (st : Stmt) : TS := fun D σ H => ∀ pins s, Inv X pins σ H s → wpAny (model X.prog X.w) X.A (exec st X.env) (SP X pins D) X.xe s
theorem wpSt_ps {X : Cx} {st : Stmt} : PS X st (wpSt X st) := ⟨fun pins s σ H D I h => h pins s I⟩
theorem wpSt_of {X : Cx} {st : Stmt} {t : TS} (p : PS X st t) {D : Ends} {σ : L2.St} {H : Hp} (h : t D σ H) : wpSt X st D σ H := fun pins s I => p.run pins s σ H D I h
def wpSs (X : Cx) (sts : List Stmt) : TS := fun D σ H => ∀ pins s, Inv X pins σ H s → wpAny (model X.prog X.w) X.A (execs sts X.env) (SP X pins D) X.xe s
theorem wpSs_pss {X : Cx} {sts : List Stmt} : PSs X sts (wpSs X sts) := ⟨fun pins s σ H D I h => h pins s I⟩
theorem wpSs_of {X : Cx} {sts : List Stmt} {t : TS} (p : PSs X sts t) {D : Ends} {σ : L2.St} {H : Hp} (h : t D σ H) : wpSs X sts D σ H := fun pins s I => p.run pins s σ H D I h
def S1 (X : Cx) (S : Snap) (st : Stmt) (ρ : Env) (μ : Mu) (D : DE) : Prop := ∀ bad as σ H De, Reach S bad as H → SOk X.K bad as σ H ρ μ → EndsOk X.K S D De → wpSt X st De σ H
def Sx (X : Cx) (S : Snap) (sts : List Stmt) (ρ : Env) (μ : Mu) (D : DE) : Prop := ∀ bad as σ H De, Reach S bad as H → SOk X.K bad as σ H ρ μ → EndsOk X.K S D De → wpSs X sts De σ H

section
variable {X : Cx} {S : Snap} {st : Stmt} {rest : List Stmt} {ρ : Env} {μ : Mu} {D : DE} {e c : Expr} {pos : Pos}
theorem s_nil (h : D.nx ρ μ) : Sx X S [] ρ μ D := fun bad as σ H De r k d => wpSs_of pss_nil (d.nx bad as σ H ρ μ r k h)
theorem s_cons (h : S1 X S st ρ μ { D with nx := fun ρ' μ' => Sx X S rest ρ' μ' D }) : Sx X S (st :: rest) ρ μ D := fun bad as σ H De r k d => by
  refine wpSs_of (pss_cons wpSt_ps wpSs_pss) (h bad as σ H _ r k ⟨fun bad' as' σ' H' ρ' μ' r' k' h' => h' bad' as' σ' H' De r' k' d, d.rt, d.bk, d.ct⟩)
/-- from behind an expression to what is wanted -/
theorem Reach.post {K : PySem.W.Frag} {bad : Bad} {as : List Addr} {σ : L2.St} {H : Hp} (r : Reach S bad as H) (k : SOk K bad as σ H ρ μ) {P : Sl → Mu → Prop} {Q : VK}
    (h : ∀ bad' as' H' v s μ', Reach S bad' as' H' → SOk K bad' as' σ H' ρ μ' → SRep K bad' as' H' v s → P s μ' → Q v H') : Post K σ ρ bad as H P Q := fun bad' as' H' v s μ' g k' r' p =>
  h bad' as' H' v s μ' (r.go k.bin g) k' r' p
theorem s_expr (h : Ev X e ρ μ fun _ μ' => D.nx ρ μ') (hs : swapsWith e none pos.line X.env = pure false := by rfl) : S1 X S (.Expr e pos) ρ μ D := fun bad as σ H De r k d =>
  wpSt_of (ps_expr wpE_pe hs) (h bad as σ H _ k (r.post k fun bad' as' H' v s μ' r' k' _ p => d.nx _ _ _ _ _ _ r' k' p))
theorem s_ret (h : Ev X e ρ μ D.rt) : S1 X S (.Return (some e) pos) ρ μ D := fun bad as σ H De r k d =>
  wpSt_of (ps_ret wpE_pe) (h bad as σ H _ k (r.post k fun bad' as' H' v s μ' r' k' r1 p => d.rt _ _ _ _ _ _ _ _ r' k' r1 p))
theorem s_retN (h : D.rt (.dat .none) μ) : S1 X S (.Return none pos) ρ μ D := fun bad as σ H De r k d =>
  wpSt_of ps_retN (d.rt _ _ _ _ _ _ _ (.dat .none) r k Rp.non h)
theorem s_pass (h : D.nx ρ μ) : S1 X S (.Pass pos) ρ μ D := fun bad as σ H De r k d => wpSt_of ps_pass (d.nx _ _ _ _ _ _ r k h)
theorem s_break (h : D.bk ρ μ) : S1 X S (.Break pos) ρ μ D := fun bad as σ H De r k d => wpSt_of ps_break (d.bk _ _ _ _ _ _ r k h)
theorem s_continue (h : D.ct ρ μ) : S1 X S (.Continue pos) ρ μ D := fun bad as σ H De r k d => wpSt_of ps_continue (d.ct _ _ _ _ _ _ r k h)
theorem s_never {st : Stmt} (h : False) : S1 X S st ρ μ D := h.elim
theorem s_if {a b : List Stmt} (h : Et X c ρ μ fun q μ1 => (q = true → Sx X S a ρ μ1 D) ∧ (q = false → Sx X S b ρ μ1 D)) : S1 X S (.If c a b pos) ρ μ D := fun bad as σ H De r k d => by
  refine wpSt_of (ps_if wpT_pt wpSs_pss wpSs_pss) ?_
  refine h bad as σ H _ k fun bad' as' H' q μ' g k' ⟨h1, h2⟩ => ?_
  cases q with
  | true => exact h1 rfl bad' as' σ H' De (r.go k.bin g) k' d
  | false => exact h2 rfl bad' as' σ H' De (r.go k.bin g) k' d
/-- name = e -/
theorem s_set (i : Nat) {x : Str} {pos' : Pos} (hN : X.N.Nodup) (h : Ev X e ρ μ fun r μ' => D.nx (ρ.set i (some r)) μ') (hi : X.N[i]? = some x := by rfl) (hx : Loc X.env.scope x := by first | exact Or.inl rfl | exact Or.inr rfl) (hs : swapsWith e (some (.Name x pos')) pos.line X.env = pure false := by rfl)
    (hf : X.fn x = true ∨ X.env.scope.names.lookup x = some .local := by first | exact .inl rfl | exact .inr rfl) : S1 X S (.Assign [.Name x pos'] e pos) ρ μ D := fun bad as σ H De r k d =>
  wpSt_of (ps_set hN hi hx wpE_pe hs hf) (h bad as σ H _ k (r.post k fun bad' as' H' v s μ' r' k' r1 p => d.nx _ _ _ _ _ _ r' (k'.set i r1) p))
/-- a state that stands is told otherwise -/
theorem s_cut {st : Stmt} (Mid : Env → Mu → Prop) (h : S1 X S st ρ μ { D with nx := Mid }) (h2 : ∀ ρ' μ', Mid ρ' μ' → Sx X S rest ρ' μ' D) : Sx X S (st :: rest) ρ μ D :=
  s_cons fun bad as σ H De r k d => h bad as σ H De r k ⟨fun bad' as' σ' H' ρ' μ' r' k' p => d.nx bad' as' σ' H' ρ' μ' r' k' (h2 ρ' μ' p), d.rt, d.bk, d.ct⟩
theorem Sx.imp {D' : DE} {sts : List Stmt} (h : Sx X S sts ρ μ D') (h1 : ∀ ρ μ, D'.nx ρ μ → D.nx ρ μ) (h2 : ∀ r μ, D'.rt r μ → D.rt r μ) (h3 : ∀ ρ μ, D'.bk ρ μ → D.bk ρ μ) (h4 : ∀ ρ μ, D'.ct ρ μ → D.ct ρ μ) : Sx X S sts ρ μ D := fun bad as σ H De r k d =>
  h bad as σ H De r k ⟨fun _ _ _ _ _ _ r' k' p => d.nx _ _ _ _ _ _ r' k' (h1 _ _ p), fun _ _ _ _ _ _ _ _ r' k' q p => d.rt _ _ _ _ _ _ _ _ r' k' q (h2 _ _ p), fun _ _ _ _ _ _ r' k' p => d.bk _ _ _ _ _ _ r' k' (h3 _ _ p), fun _ _ _ _ _ _ r' k' p => d.ct _ _ _ _ _ _ r' k' (h4 _ _ p)⟩

/-! ### ghosts: a name is forgotten; objects are let go; an object becomes data -/
theorem s_fewer {sts : List Stmt} {ρ' : Env} (hl : ρ'.length = ρ.length) (hs : ∀ (i : Nat) (s : Sl), ρ'[i]? = some (some s) → ρ[i]? = some (some s)) (h : Sx X S sts ρ' μ D) : Sx X S sts ρ μ D := fun bad as σ H De r k d =>
  h bad as σ H De r (k.fewer hl hs) d
def clip (n : Nat) : Option Sl → Option Sl
  | some (.obj j) => if j < n then some (.obj j) else none
  | s => s
theorem reach_take {n : Nat} {bad : Bad} {as : List Addr} {H : Hp} {μ : Mu} (r : Reach S bad as H) (hn : S.as0.length ≤ n) : Reach S (less bad as μ n) (as.take n) H where
  pre := by
    obtain ⟨t, e⟩ := r.pre
    exact ⟨t.take (n - S.as0.length), by rw [e, List.take_append, List.take_of_length_le hn]⟩
  sub := fun a b => ⟨r.sub a b, fun ⟨j, m, hj, h1, _⟩ => r.newA j a (by omega) h1 b⟩
  new := fun a b => r.new a b.1
  newW := fun a b => r.newW a b.1
  newA := fun j a hj e => by
    rw [List.getElem?_take] at e
    split at e
    · exact r.newA j a hj e
    · cases e
  keep := r.keep
  stay := r.stay
theorem clip_get {n : Nat} {ρ : Env} {i : Nat} {s : Sl} (h : (ρ.map (clip n))[i]? = some (some s)) : ρ[i]? = some (some s) ∧ ∀ j, s = .obj j → j < n := by
  rw [List.getElem?_map] at h
  cases e : ρ[i]? with
  | none => rw [e] at h; cases h
  | some o =>
    rw [e] at h
    have h : clip n o = some s := Option.some.inj h
    cases o with
    | none => cases h
    | some t =>
      cases t with
      | obj j =>
        have h : (if j < n then some (Sl.obj j) else none) = some s := h
        split at h
        · rename_i hj
          cases h
          exact ⟨rfl, fun j' e => by cases e; exact hj⟩
        · cases h
      | _ => cases h; exact ⟨rfl, fun j e => by cases e⟩
/-- the objects behind the first n are let go -/
theorem s_take {sts : List Stmt} (n : Nat) (hn : S.as0.length ≤ n) (h : Sx X S sts (ρ.map (clip n)) (μ.take n) D) : Sx X S sts ρ μ D := fun bad as σ H De r k d => by
  have k1 : SOk X.K bad as σ H (ρ.map (clip n)) μ := k.fewer (by rw [List.length_map]) fun i s e => (clip_get e).1
  exact h _ _ σ H De (reach_take (μ := μ) r hn) (k1.take fun i j e => (clip_get e).2 j rfl) d
theorem end_take {K : PySem.W.Frag} {P : Env → Mu → Prop} {Q : L2.St → Hp → Prop} (n : Nat) (hn : S.as0.length ≤ n) (h : EndN K S P Q) : EndN K S (fun ρ μ => P (ρ.map (clip n)) (μ.take n)) Q := fun bad as σ H ρ μ r k p => by
  have k1 : SOk K bad as σ H (ρ.map (clip n)) μ := k.fewer (by rw [List.length_map]) fun i s e => (clip_get e).1
  exact h _ _ σ H _ _ (reach_take (μ := μ) r hn) (k1.take fun i j e => (clip_get e).2 j rfl) p
end
end Dv

set_option maxRecDepth 100000
set_option maxHeartbeats 4000000
namespace Dv
open PySem PySem.Spec PyProof.Rows L2

/-! ### targets -/
def wpG (X : Cx) (tg : Expr) : TG := fun v σ H Q => ∀ pins s u, Inv X pins σ H s → RelV v u → wpAny (model X.prog X.w) X.A (assign tg X.env u) (fun _ s' => ∃ σ' H', Inv X pins σ' H' s' ∧ Q σ' H') X.xe s
theorem wpG_pg {X : Cx} {tg : Expr} : PG X tg (wpG X tg) := ⟨fun pins s σ H v u Q I r h => h pins s u I r⟩
theorem wpG_of {X : Cx} {tg : Expr} {t : TG} (p : PG X tg t) {v : V} {σ : L2.St} {H : Hp} {Q : L2.St → Hp → Prop} (h : t v σ H Q) : wpG X tg v σ H Q := fun pins s u I r => p.run pins s σ H v u Q I r h
def wpGs (X : Cx) (ts : List Expr) : TGs := fun vs σ H Q => ∀ pins s us, Inv X pins σ H s → Vals vs us → wpAny (model X.prog X.w) X.A (assignInOrder ((assignEach ts X.env).map (·.2)) us) (fun _ s' => ∃ σ' H', Inv X pins σ' H' s' ∧ Q σ' H') X.xe s
theorem wpGs_pgs {X : Cx} {ts : List Expr} : PGs X ts (wpGs X ts) := ⟨fun pins s σ H vs us Q I r h => h pins s us I r⟩
theorem wpGs_of {X : Cx} {ts : List Expr} {t : TGs} (p : PGs X ts t) {vs : List V} {σ : L2.St} {H : Hp} {Q : L2.St → Hp → Prop} (h : t vs σ H Q) : wpGs X ts vs σ H Q := fun pins s us I r => p.run pins s σ H vs us Q I r h
def Still (js : List Nat) (σ σ' : L2.St) : Prop := σ'.length = σ.length ∧ ∀ j, j ∉ js → σ'[j]? = σ[j]?
def PostG (K : PySem.W.Frag) (σ : L2.St) (bad : Bad) (as : List Addr) (H : Hp) (js : List Nat) (P : Env → Mu → Prop) (Q : L2.St → Hp → Prop) : Prop :=
  ∀ bad' as' σ' H' ρ' μ', Go bad as H bad' as' H' → SOk K bad' as' σ' H' ρ' μ' → Still js σ σ' → P ρ' μ' → Q σ' H'
/-- what s holds is stored at a target: the names in js alone are changed -/
def Ag (X : Cx) (tg : Expr) (js : List Nat) (s : Sl) (ρ : Env) (μ : Mu) (P : Env → Mu → Prop) : Prop :=
  ∀ bad as σ H v Q, SOk X.K bad as σ H ρ μ → SRep X.K bad as H v s → PostG X.K σ bad as H js P Q → wpG X tg v σ H Q
def Ags (X : Cx) (ts : List Expr) (js : List Nat) (ds : List PyData) (ρ : Env) (μ : Mu) (P : Env → Mu → Prop) : Prop :=
  ∀ bad as σ H vs Q, SOk X.K bad as σ H ρ μ → Rps X.K bad H vs ds → PostG X.K σ bad as H js P Q → wpGs X ts vs σ H Q
section
variable {X : Cx} {S : Snap} {ρ : Env} {μ : Mu} {P : Env → Mu → Prop} {js : List Nat} {D : DE} {pos : Pos}
theorem Still.refl {js : List Nat} {σ : L2.St} : Still js σ σ := ⟨rfl, fun _ _ => rfl⟩
theorem Still.trans {js : List Nat} {σ σ1 σ2 : L2.St} (a : Still js σ σ1) (b : Still js σ1 σ2) : Still js σ σ2 := ⟨b.1.trans a.1, fun j h => (b.2 j h).trans (a.2 j h)⟩
theorem Still.set {js : List Nat} {σ : L2.St} {i : Nat} {v : Option V} (h : i ∈ js) : Still js σ (σ.set i v) := ⟨List.length_set, fun j hj => List.getElem?_set_ne (by intro e; exact hj (by rw [← e]; exact h))⟩
theorem ag_name (i : Nat) {x : Str} {s : Sl} (hN : X.N.Nodup) (h : P (ρ.set i (some s)) μ) (hj : i ∈ js := by decide) (hi : X.N[i]? = some x := by rfl) (hx : Loc X.env.scope x := by first | exact Or.inl rfl | exact Or.inr rfl)
    (hf : X.fn x = true ∨ X.env.scope.names.lookup x = some .local := by first | exact .inl rfl | exact .inr rfl) : Ag X (.Name x pos) js s ρ μ P := fun bad as σ H v Q k r p =>
  wpG_of (pg_name hN hi hx hf) (p _ _ _ _ _ _ Go.refl (k.set i r) (Still.set hj) h)
theorem ags_nil (h : P ρ μ) : Ags X [] js [] ρ μ P := fun bad as σ H vs Q k r p => by
  cases r
  exact wpGs_of pgs_nil ⟨rfl, p _ _ _ _ _ _ Go.refl k Still.refl h⟩
theorem ags_cons {e : Expr} {es : List Expr} {d : PyData} {ds : List PyData} (h : Ag X e js (.dat d) ρ μ fun ρ1 μ1 => Ags X es js ds ρ1 μ1 P)
    (hs : (assignEach (e :: es) X.env).map (·.2) = assign e X.env :: (assignEach es X.env).map (·.2) := by rfl) : Ags X (e :: es) js (d :: ds) ρ μ P := fun bad as σ H vs Q k r p => by
  cases r with
  | cons r1 r2 =>
    refine wpGs_of (pgs_cons wpG_pg wpGs_pgs hs) ⟨_, _, rfl, ?_⟩
    refine h bad as σ H _ _ k r1 fun bad1 as1 σ1 H1 ρ1 μ1 g1 k1 st1 h1 => ?_
    exact h1 bad1 as1 σ1 H1 _ Q k1 (r2.go g1) fun bad2 as2 σ2 H2 ρ2 μ2 g2 k2 st2 h2 => p _ _ _ _ _ _ (g1.trans g2) k2 (st1.trans st2) h2
theorem ag_tup {es : List Expr} {kk : Nat} {ds : List PyData} (hc : X.calm = true) (hl : es.length = ds.length) (h : Ags X es js ds ρ μ P)
    (hn : (assignEach es X.env).length = es.length := by rfl) (hst : (assignEach es X.env).findIdx? (·.1) = none := by rfl) : Ag X (.Tuple es kk pos) js (.dat (.tuple ds)) ρ μ P := fun bad as σ H v Q k r p => by
  have r : Rp X.K bad H v (.tuple ds) := r
  cases r with
  | tup e ra =>
    exact wpG_of (pg_tup hc wpGs_pgs (n := es.length) hn hst) ⟨_, _, rfl, e, by rw [ra.length, hl], h bad as σ H _ Q k ra p⟩
/-- target = e -/
theorem s_asg (js : List Nat) {tg e : Expr} (h : Ev X e ρ μ fun r μ1 => Ag X tg js r ρ μ1 fun ρ2 μ2 => D.nx ρ2 μ2) (hs : swapsWithSole [tg] e pos.line X.env = pure false := by rfl) (hw : swappedStores [tg] e X.env = pure none := by rfl)
    (h1 : (assignEach [tg] X.env).map (·.2) = [assign tg X.env] := by rfl) : S1 X S (.Assign [tg] e pos) ρ μ D := fun bad as σ H De r k d => by
  refine wpSt_of (ps_asg wpE_pe wpG_pg hs hw h1) ?_
  refine h bad as σ H _ k fun bad1 as1 H1 v s μ1 g1 k1 r1 h1 => ?_
  refine h1 bad1 as1 σ H1 v _ k1 r1 fun bad2 as2 σ2 H2 ρ2 μ2 g2 k2 st h2 => ?_
  exact d.nx _ _ _ _ _ _ ((r.go k.bin g1).go k1.bin g2) k2 h2
/-- a, b = e1, e2 -/
theorem s_par (i j : Nat) {x y : Str} {a b : Expr} {px py pt : Pos} {kt k2 pt2} (hc : X.calm = true) (hN : X.N.Nodup)
    (h : Ea X [a, b] ρ μ fun rs μ1 => ∃ r s, rs = [r, s] ∧ D.nx ((ρ.set i (some r)).set j (some s)) μ1)
    (hi : X.N[i]? = some x := by rfl) (hj : X.N[j]? = some y := by rfl) (hij : i ≠ j := by decide)
    (hx : X.env.scope.names.lookup x = some .local := by rfl) (hy : X.env.scope.names.lookup y = some .local := by rfl)
    (hw : swappedStores [.Tuple [.Name x px, .Name y py] kt pt] (.Tuple [a, b] k2 pt2) X.env = pure (some [x, y]) := by rfl)
    (hs : swapsWithSole [.Tuple [.Name x px, .Name y py] kt pt] (.Tuple [a, b] k2 pt2) pos.line X.env = pure false := by rfl) :
    S1 X S (.Assign [.Tuple [.Name x px, .Name y py] kt pt] (.Tuple [a, b] k2 pt2) pos) ρ μ D := fun bad as σ H De r k d => by
  refine wpSt_of (ps_par hc hN hi hj hij hx hy wpA_pa hw hs) ?_
  refine h bad as σ H _ k fun bad1 as1 H1 vs rs μ1 g1 k1 r1 ⟨s1, s2, e, h1⟩ => ?_
  subst e
  cases r1 with
  | cons q1 q2 =>
    cases q2 with
    | cons q2 q3 =>
      cases q3
      exact ⟨_, _, rfl, d.nx _ _ _ _ _ _ (r.go k.bin g1) ((k1.set i q1).set j q2) h1⟩

/-! ### what is walked -/
def Step1 (H H' : Hp) : Prop := H' = H ∨ ∃ p o, H p = none ∧ H' = upd H p o
theorem Step1.go {bad : Bad} {as : List Addr} {H H' : Hp} (s : Step1 H H') : Go bad as H bad as H' := by
  rcases s with rfl | ⟨p, o, h, rfl⟩
  · exact Go.refl
  · exact Go.alloc h
theorem Step1.ok {K : PySem.W.Frag} {bad : Bad} {as : List Addr} {σ : L2.St} {H H' : Hp} (s : Step1 H H') (k : SOk K bad as σ H ρ μ) : SOk K bad as σ H' ρ μ := by
  rcases s with rfl | ⟨p, o, h, rfl⟩
  · exact k
  · exact k.alloc h
/-- the iterator J gives out ds, whatever is changed that isn't among the kept things -/
structure Wk (K : PySem.W.Frag) (J : It) (bad : Bad) (H : Hp) (ds : List PyData) : Prop where
  go : ∀ (bad2 : Bad) (H2 : Hp) (i : Nat) (d : PyData), Kept bad H H2 → (∀ a, bad2.av a → bad.av a ∨ H a = none) → ds[i]? = some d → J.go i H2 ∧ ∀ x H', J.yld i H2 x H' → Step1 H2 H' ∧ Rp K bad2 H' x d
  stop : ∀ (H2 : Hp) (i : Nat), Kept bad H H2 → ds.length ≤ i → J.stop i H2
def Iv (X : Cx) (tg iter : Expr) (ρ : Env) (μ : Mu) (P : List PyData → Mu → Prop) : Prop :=
  ∃ wi, PI X tg iter wi ∧ ∀ bad as σ H R, SOk X.K bad as σ H ρ μ → (∀ bad' as' H' J ds μ', Go bad as H bad' as' H' → SOk X.K bad' as' σ H' ρ μ' → Wk X.K J bad' H' ds → P ds μ' → R J H') → wi σ H R
theorem Rps.at {K : PySem.W.Frag} {bad : Bad} {H : Hp} {vs : List V} {ds : List PyData} {i : Nat} {x : V} {d : PyData} (r : Rps K bad H vs ds) (h1 : vs[i]? = some x) (h2 : ds[i]? = some d) : Rp K bad H x d := by
  obtain ⟨v, e, q⟩ := r.get h2
  rw [h1] at e
  cases e
  exact q
theorem iv_list {tg l : Expr} {PI' : List PyData → Mu → Prop} (h : Ev X l ρ μ fun r μ1 => ∃ ds, r = .dat (.list ds) ∧ PI' ds μ1) : Iv X tg l ρ μ PI' := by
  refine ⟨_, pi_list wpE_pe, fun bad as σ H R k q => ?_⟩
  refine h bad as σ H _ k fun bad1 as1 H1 v s μ1 g1 k1 r1 ⟨ds, e, p⟩ => ?_
  subst e
  have r1 : Rp X.K bad1 H1 v (.list ds) := r1
  cases r1 with
  | @lst a vs _ ha hb ra =>
    refine ⟨a, rfl, ⟨vs, SqL.of ha⟩, q _ _ _ _ ds _ g1 k1 ⟨fun bad2 H2 i d kp n hd => ?_, fun H2 i kp hi => ?_⟩ p⟩
    · have ha2 : H2 a = some (.lst vs) := kp _ _ ha fun z => (hb (bad1.le _ z)).elim
      have ra2 : Rps X.K bad2 H2 vs ds := ra.step kp n
      obtain ⟨x, hx, _⟩ := ra2.get hd
      refine ⟨⟨vs, x, SqL.of ha2, hx⟩, fun x' H' y => ?_⟩
      obtain ⟨e, y⟩ := y
      subst e
      exact ⟨.inl rfl, ra2.at (y vs (SqL.of ha2)) hd⟩
    · have ha2 : H2 a = some (.lst vs) := kp _ _ ha fun z => (hb (bad1.le _ z)).elim
      exact ⟨vs, SqL.of ha2, by rw [ra.length]; exact hi⟩
theorem iv_tup {tg l : Expr} {PI' : List PyData → Mu → Prop} (h : Ev X l ρ μ fun r μ1 => ∃ ds, r = .dat (.tuple ds) ∧ PI' ds μ1) : Iv X tg l ρ μ PI' := by
  refine ⟨_, pi_tup wpE_pe, fun bad as σ H R k q => ?_⟩
  refine h bad as σ H _ k fun bad1 as1 H1 v s μ1 g1 k1 r1 ⟨ds, e, p⟩ => ?_
  subst e
  have r1 : Rp X.K bad1 H1 v (.tuple ds) := r1
  cases r1 with
  | @tup a vs _ ha ra =>
    refine ⟨a, rfl, ⟨vs, ha⟩, q _ _ _ _ ds _ g1 k1 ⟨fun bad2 H2 i d kp n hd => ?_, fun H2 i kp hi => ⟨vs, sqt_kept kp ha, by rw [ra.length]; exact hi⟩⟩ p⟩
    have ha2 := sqt_kept kp ha
    have ra2 : Rps X.K bad2 H2 vs ds := ra.step kp n
    obtain ⟨x, hx, _⟩ := ra2.get hd
    refine ⟨⟨vs, x, ha2, hx⟩, fun x' H' y => ?_⟩
    obtain ⟨e, y⟩ := y
    subst e
    exact ⟨.inl rfl, ra2.at (y vs ha2) hd⟩
def rangeD (lo : Int) (n : Nat) : List PyData := (List.range n).map fun i => .int (lo + (i : Nat))
theorem rangeD_len {lo : Int} {n : Nat} : (rangeD lo n).length = n := by unfold rangeD; rw [List.length_map, List.length_range]
theorem rangeD_get {lo : Int} {n i : Nat} {d : PyData} (h : (rangeD lo n)[i]? = some d) : i < n ∧ d = .int (lo + (i : Nat)) := by
  have hi := (List.getElem?_eq_some_iff.mp h).1
  rw [rangeD_len] at hi
  refine ⟨hi, ?_⟩
  unfold rangeD at h
  rw [List.getElem?_map, List.getElem?_range hi] at h
  exact (Option.some.inj h).symm
theorem wk_range {K : PySem.W.Frag} {lo : Int} {n : Nat} {bad : Bad} {H : Hp} : Wk K (Itr lo n) bad H (rangeD lo n) := by
  refine ⟨fun bad2 H2 i d kp nn hd => ?_, fun H2 i kp hi => by rw [rangeD_len] at hi; exact hi⟩
  obtain ⟨hi, rfl⟩ := rangeD_get hd
  refine ⟨hi, fun x H' y => ?_⟩
  obtain ⟨e1, e2⟩ := y
  subst e1 e2
  exact ⟨.inl rfl, .int _⟩
theorem iv_range1 {tg a : Expr} {p : Pos} {PI' : List PyData → Mu → Prop} (hm : X.mg "range" = none) (h : Ea X [a] ρ μ fun rs μ1 => ∃ j : Int, rs = [.dat (.int j)] ∧ -(2 ^ 62) ≤ j ∧ j < 2 ^ 62 ∧ PI' (rangeD 0 j.toNat) μ1)
    (hg : Gl X "range" := by rfl) (hs : starEach [a] X.env = [(false, eval a X.env)] := by rfl) : Iv X tg (.Call (.Name "range" p) [a] [] pos) ρ μ PI' := by
  refine ⟨_, pi_range1 hg hm wpA_pa hs, fun bad as σ H R k q => ?_⟩
  refine h bad as σ H _ k fun bad1 as1 H1 vs rs μ1 g1 k1 r1 ⟨j, e, h1, h2, p⟩ => ?_
  subst e
  cases r1 with
  | cons q1 q2 =>
    cases q2
    rw [q1.dat_int]
    exact ⟨j, rfl, h1, h2, q _ _ _ _ _ _ g1 k1 wk_range p⟩
theorem iv_range2 {tg a b : Expr} {p : Pos} {PI' : List PyData → Mu → Prop} (hm : X.mg "range" = none) (h : Ea X [a, b] ρ μ fun rs μ1 => ∃ i j : Int, rs = [.dat (.int i), .dat (.int j)] ∧ (-(2 ^ 62) ≤ i ∧ i < 2 ^ 62 ∧ -(2 ^ 62) ≤ j ∧ j < 2 ^ 62) ∧ PI' (rangeD i (j - i).toNat) μ1)
    (hg : Gl X "range" := by rfl) (hs : starEach [a, b] X.env = [(false, eval a X.env), (false, eval b X.env)] := by rfl) (hs2 : starEach [b] X.env = [(false, eval b X.env)] := by rfl) : Iv X tg (.Call (.Name "range" p) [a, b] [] pos) ρ μ PI' := by
  refine ⟨_, pi_range2 hg hm wpA_pa hs hs2, fun bad as σ H R k q => ?_⟩
  refine h bad as σ H _ k fun bad1 as1 H1 vs rs μ1 g1 k1 r1 ⟨i, j, e, h1, p⟩ => ?_
  subst e
  cases r1 with
  | cons q1 q2 =>
    cases q2 with
    | cons q2 q3 =>
      cases q3
      rw [q1.dat_int, q2.dat_int]
      exact ⟨i, j, rfl, h1, q _ _ _ _ _ _ g1 k1 wk_range p⟩
def signsD (x : Str) : List PyData := x.cps.toList.map fun c => .str ⟨#[c]⟩
theorem iv_str {tg l : Expr} {PI' : List PyData → Mu → Prop} (h : Ev X l ρ μ fun r μ1 => ∃ x, r = .dat (.str x) ∧ PI' (signsD x) μ1) : Iv X tg l ρ μ PI' := by
  refine ⟨_, pi_str wpE_pe, fun bad as σ H R k q => ?_⟩
  refine h bad as σ H _ k fun bad1 as1 H1 v s μ1 g1 k1 r1 ⟨x, e, p⟩ => ?_
  subst e
  rw [r1.dat_str]
  refine ⟨x, rfl, q _ _ _ _ (signsD x) _ g1 k1 ⟨fun bad2 H2 i d kp n hd => ?_, fun H2 i kp hi => ?_⟩ p⟩
  · unfold signsD at hd
    rw [List.getElem?_map] at hd
    cases e : x.cps.toList[i]? with
    | none => rw [e] at hd; cases hd
    | some c =>
      rw [e] at hd
      cases hd
      have e' : x.cps[i]? = some c := by rw [← Array.getElem?_toList]; exact e
      refine ⟨(Array.getElem?_eq_some_iff.mp e').1, fun v H' y => ?_⟩
      obtain ⟨e1, c', e2, e3⟩ := y
      subst e1 e3
      rw [e'] at e2
      cases e2
      exact ⟨.inl rfl, .str _⟩
  · unfold signsD at hi
    rw [List.length_map, Array.length_toList] at hi
    exact hi
def enumD (i : Nat) : List PyData → List PyData
  | [] => []
  | d :: ds => .tuple [.int (i : Nat), d] :: enumD (i + 1) ds
theorem enumD_get : ∀ {ds : List PyData} {n i : Nat} {d : PyData}, (enumD n ds)[i]? = some d → ∃ e, ds[i]? = some e ∧ d = .tuple [.int ((n + i : Nat)), e]
  | [], n, i, d, h => by simp [enumD] at h
  | e :: ds, n, 0, d, h => ⟨e, rfl, (Option.some.inj h).symm⟩
  | e :: ds, n, i + 1, d, h => by
    obtain ⟨e', h1, h2⟩ := enumD_get (ds := ds) (n := n + 1) (i := i) h
    exact ⟨e', h1, by rw [h2, show n + 1 + i = n + (i + 1) by omega]⟩
theorem enumD_len : ∀ {ds : List PyData} {n : Nat}, (enumD n ds).length = ds.length
  | [], _ => rfl
  | _ :: ds, n => congrArg (· + 1) (enumD_len (ds := ds) (n := n + 1))
theorem iv_enum {a : Expr} {p tpos : Pos} {elts : List Expr} {kk : Nat} {PI' : List PyData → Mu → Prop} (hm : X.mg "enumerate" = none) (h : Ea X [a] ρ μ fun rs μ1 => ∃ ds, rs = [.dat (.list ds)] ∧ PI' (enumD 0 ds) μ1)
    (hg : Gl X "enumerate" := by rfl) (hs : starEach [a] X.env = [(false, eval a X.env)] := by rfl) : Iv X (.Tuple elts kk tpos) (.Call (.Name "enumerate" p) [a] [] pos) ρ μ PI' := by
  refine ⟨_, pi_enum hg hm wpA_pa hs, fun bad as σ H R k q => ?_⟩
  refine h bad as σ H _ k fun bad1 as1 H1 vs rs μ1 g1 k1 r1 ⟨ds, e, p⟩ => ?_
  subst e
  cases r1 with
  | cons q1 q2 =>
    cases q2
    have q1 : Rp X.K bad1 H1 _ (.list ds) := q1
    cases q1 with
    | @lst a vs _ ha hb ra =>
      refine ⟨a, vs, rfl, SqL.of ha, q _ _ _ _ (enumD 0 ds) _ g1 k1 ⟨fun bad2 H2 i d kp n hd => ?_, fun H2 i kp hi => ?_⟩ p⟩
      · have ha2 : H2 a = some (.lst vs) := kp _ _ ha fun z => (hb (bad1.le _ z)).elim
        have ra2 : Rps X.K bad2 H2 vs ds := ra.step kp n
        obtain ⟨e, he, rfl⟩ := enumD_get hd
        obtain ⟨x, hx, _⟩ := ra2.get he
        refine ⟨⟨vs, x, SqL.of ha2, hx⟩, fun x' H' y => ?_⟩
        obtain ⟨T, x1, e1, hT, e2, y⟩ := y
        subst e1 e2
        refine ⟨.inr ⟨T, _, hT, rfl⟩, .tup (SqT.of upd_same) (.cons ?_ (.cons ?_ .nil))⟩
        · rw [Nat.zero_add]
          exact .int _
        · exact (ra2.at (y vs (SqL.of ha2)) he).step (Go.alloc (bad := bad2) (as := []) hT).keep fun a z => .inl z
      · have ha2 : H2 a = some (.lst vs) := kp _ _ ha fun z => (hb (bad1.le _ z)).elim
        exact ⟨vs, SqL.of ha2, by rw [ra.length]; rw [enumD_len] at hi; exact hi⟩
def zipD : List PyData → List PyData → List PyData
  | d :: ds, e :: es => .tuple [d, e] :: zipD ds es
  | _, _ => []
theorem zipD_get : ∀ {ds es : List PyData} {i : Nat} {d : PyData}, (zipD ds es)[i]? = some d → ∃ x y, ds[i]? = some x ∧ es[i]? = some y ∧ d = .tuple [x, y]
  | [], _, i, d, h => by simp [zipD] at h
  | _ :: _, [], i, d, h => by simp [zipD] at h
  | x :: ds, y :: es, 0, d, h => ⟨x, y, rfl, rfl, (Option.some.inj h).symm⟩
  | x :: ds, y :: es, i + 1, d, h => zipD_get (ds := ds) (es := es) (i := i) h
theorem zipD_len : ∀ {ds es : List PyData}, (zipD ds es).length = min ds.length es.length
  | [], es => by simp [zipD]
  | d :: ds, [] => by simp [zipD]
  | d :: ds, e :: es => by
    show (zipD ds es).length + 1 = min (ds.length + 1) (es.length + 1)
    rw [zipD_len (ds := ds) (es := es)]
    omega
theorem iv_zip {a b : Expr} {p tpos : Pos} {elts : List Expr} {kk : Nat} {PI' : List PyData → Mu → Prop} (hm : X.mg "zip" = none) (h : Ea X [a, b] ρ μ fun rs μ1 => ∃ ds es, rs = [.dat (.list ds), .dat (.list es)] ∧ PI' (zipD ds es) μ1)
    (hg : Gl X "zip" := by rfl) (hs : starEach [a, b] X.env = (false, eval a X.env) :: starEach [b] X.env := by rfl) (hpl : (backTo pos (starEach [b] X.env)).any (·.1) = false := by rfl) : Iv X (.Tuple elts kk tpos) (.Call (.Name "zip" p) [a, b] [] pos) ρ μ PI' := by
  refine ⟨_, pi_zip hg hm wpA_pa hs hpl, fun bad as σ H R k q => ?_⟩
  refine h bad as σ H _ k fun bad1 as1 H1 vs rs μ1 g1 k1 r1 ⟨ds, es, e, p⟩ => ?_
  subst e
  cases r1 with
  | cons q1 q2 =>
    cases q2 with
    | cons q2 q3 =>
      cases q3
      have q1 : Rp X.K bad1 H1 _ (.list ds) := q1
      have q2 : Rp X.K bad1 H1 _ (.list es) := q2
      cases q1 with
      | @lst a vs _ ha hb ra =>
        cases q2 with
        | @lst b ws _ hb1 hb2 rb =>
          refine ⟨a, b, vs, ws, rfl, SqL.of ha, SqL.of hb1, q _ _ _ _ (zipD ds es) _ g1 k1 ⟨fun bad2 H2 i d kp n hd => ?_, fun H2 i kp hi => ?_⟩ p⟩
          · have ha2 : H2 a = some (.lst vs) := kp _ _ ha fun z => (hb (bad1.le _ z)).elim
            have hb3 : H2 b = some (.lst ws) := kp _ _ hb1 fun z => (hb2 (bad1.le _ z)).elim
            have ra2 : Rps X.K bad2 H2 vs ds := ra.step kp n
            have rb2 : Rps X.K bad2 H2 ws es := rb.step kp n
            obtain ⟨x, y, hx, hy, rfl⟩ := zipD_get hd
            obtain ⟨x', hx', _⟩ := ra2.get hx
            obtain ⟨y', hy', _⟩ := rb2.get hy
            refine ⟨⟨vs, ws, x', y', SqL.of ha2, SqL.of hb3, hx', hy'⟩, fun x0 H' z => ?_⟩
            obtain ⟨T, x1, y1, e1, hT, e2, z1, z2⟩ := z
            subst e1 e2
            refine ⟨.inr ⟨T, _, hT, rfl⟩, .tup (SqT.of upd_same) (.cons ?_ (.cons ?_ .nil))⟩
            · exact (ra2.at (z1 vs (SqL.of ha2)) hx).step (Go.alloc (bad := bad2) (as := []) hT).keep fun a z => .inl z
            · exact (rb2.at (z2 ws (SqL.of hb3)) hy).step (Go.alloc (bad := bad2) (as := []) hT).keep fun a z => .inl z
          · have ha2 : H2 a = some (.lst vs) := kp _ _ ha fun z => (hb (bad1.le _ z)).elim
            have hb3 : H2 b = some (.lst ws) := kp _ _ hb1 fun z => (hb2 (bad1.le _ z)).elim
            rw [zipD_len] at hi
            have l1 := ra.length
            have l2 := rb.length
            exact ⟨vs, ws, SqL.of ha2, SqL.of hb3, by omega⟩

/-! ### for, while -/
theorem s_for {tg iter : Expr} {body : List Stmt} (js : List Nat) (hc : X.calm = true)
    (h : Iv X tg iter ρ μ fun ds μ1 => ∃ inv : Nat → Env → Mu → Prop, inv 0 ρ μ1 ∧
      (∀ (S' : Snap), S'.as0 = S.as0 → ∀ (i : Nat) (d : PyData) ρ' μ', ds[i]? = some d → inv i ρ' μ' → Ag X tg js (.dat d) ρ' μ' fun ρ2 μ2 => Sx X S' body ρ2 μ2 { nx := inv (i + 1), ct := inv (i + 1), bk := D.nx, rt := D.rt }) ∧
      ∀ ρ' μ', inv ds.length ρ' μ' → D.nx ρ' μ')
    (hp : PassesOwn (model X.prog X.w) X.A X.env X.xe := by exact PassesOwn.never) (hs : ∀ x, foldedSetIterable iter X.env x = pure x := by intro _; rfl) : S1 X S (.For tg iter body [] pos) ρ μ D := fun bad as σ H De r k d => by
  obtain ⟨wi, hpi, hw⟩ := h
  refine wpSt_of (ps_for hp hc hpi wpG_pg wpSs_pss hs) ?_
  refine hw bad as σ H _ k fun bad1 as1 H1 J ds μ1 g1 k1 W ⟨inv, i0, turn, fin⟩ => ?_
  have r1 := r.go k.bin g1
  have rn := r1.nest
  refine ⟨fun i m σ' H' => m = ds.length - i ∧ i ≤ ds.length ∧ ∃ bad' as' ρ' μ', Reach (S.at bad1 H1) bad' as' H' ∧ SOk X.K bad' as' σ' H' ρ' μ' ∧ inv i ρ' μ', ⟨ds.length, by omega, Nat.zero_le _, bad1, as1, ρ, μ1, rn, k1, i0⟩, ?_⟩
  rintro i m σ' H' ⟨rfl, hi, bad', as', ρ', μ', r', k', hin⟩
  by_cases hlt : i < ds.length
  · have hd : ds[i]? = some ds[i] := List.getElem?_eq_getElem hlt
    obtain ⟨go, yld⟩ := W.go bad' H' i ds[i] r'.keep r'.new hd
    refine .inr ⟨go, fun σ2 H2 => ∃ bad2 as2 ρ2 μ2, Reach (S.at bad1 H1) bad2 as2 H2 ∧ SOk X.K bad2 as2 σ2 H2 ρ2 μ2 ∧ inv (i + 1) ρ2 μ2, fun σ2 H2 ⟨b2, a2, ρ2, μ2, q1, q2, q3⟩ => ⟨ds.length - (i + 1), by omega, rfl, hlt, b2, a2, ρ2, μ2, q1, q2, q3⟩, fun x H2 y => ?_⟩
    obtain ⟨st, rx⟩ := yld x H2 y
    have g2 : Go bad' as' H' bad' as' H2 := st.go
    refine turn (S.at bad1 H1) rfl i ds[i] ρ' μ' hd hin bad' as' σ' H2 x _ (st.ok k') rx fun bad3 as3 σ3 H3 ρ3 μ3 g3 k3 _ h3 => ?_
    have r3 := (r'.go k'.bin g2).go (st.ok k').bin g3
    refine h3 bad3 as3 σ3 H3 _ r3 k3 ⟨fun b a s2 h2 ρ4 μ4 q1 q2 q3 => ⟨b, a, ρ4, μ4, q1, q2, q3⟩, fun b a s2 h2 ρ4 μ4 v t q1 q2 q3 q4 => d.rt _ _ _ _ _ _ _ _ (r1.un q1) q2 q3 q4, fun b a s2 h2 ρ4 μ4 q1 q2 q3 => d.nx _ _ _ _ _ _ (r1.un q1) q2 q3, fun b a s2 h2 ρ4 μ4 q1 q2 q3 => ⟨b, a, ρ4, μ4, q1, q2, q3⟩⟩
  · have e : i = ds.length := by omega
    subst e
    exact .inl ⟨W.stop H' _ r'.keep (Nat.le_refl _), d.nx _ _ _ _ _ _ (r1.un r') k' (fin ρ' μ' hin)⟩
theorem s_while {c : Expr} {body : List Stmt} (inv : Nat → Env → Mu → Prop) (h0 : ∃ m, inv m ρ μ)
    (h : ∀ m ρ' μ', inv m ρ' μ' → Et X c ρ' μ' fun b μ1 => (b = true → Sx X S body ρ' μ1 { nx := fun ρ2 μ2 => ∃ m', m' < m ∧ inv m' ρ2 μ2, ct := fun ρ2 μ2 => ∃ m', m' < m ∧ inv m' ρ2 μ2, bk := D.nx, rt := D.rt }) ∧ (b = false → D.nx ρ' μ1))
    (hp : PassesOwn (model X.prog X.w) X.A X.env X.xe := by exact PassesOwn.never) : S1 X S (.While c body [] pos) ρ μ D := fun bad as σ H De r k d => by
  refine wpSt_of (ps_while hp wpT_pt wpSs_pss) ?_
  obtain ⟨m0, h0⟩ := h0
  refine ⟨fun m σ' H' => ∃ bad' as' ρ' μ', Reach S bad' as' H' ∧ SOk X.K bad' as' σ' H' ρ' μ' ∧ inv m ρ' μ', ⟨m0, bad, as, ρ, μ, r, k, h0⟩, ?_⟩
  rintro m σ' H' ⟨bad', as', ρ', μ', r', k', hin⟩
  refine h m ρ' μ' hin bad' as' σ' H' _ k' fun bad1 as1 H1 b μ1 g1 k1 ⟨h1, h2⟩ => ?_
  have r1 := r'.go k'.bin g1
  cases b with
  | true =>
    refine ⟨fun σ2 H2 => ∃ m', m' < m ∧ ∃ bad' as' ρ' μ', Reach S bad' as' H2 ∧ SOk X.K bad' as' σ2 H2 ρ' μ' ∧ inv m' ρ' μ', fun σ2 H2 q => q, ?_⟩
    refine h1 rfl bad1 as1 σ' H1 _ r1 k1 ⟨fun b a s2 h2 ρ4 μ4 q1 q2 ⟨m', hm, q3⟩ => ⟨m', hm, b, a, ρ4, μ4, q1, q2, q3⟩, d.rt, d.nx, fun b a s2 h2 ρ4 μ4 q1 q2 ⟨m', hm, q3⟩ => ⟨m', hm, b, a, ρ4, μ4, q1, q2, q3⟩⟩
  | false => exact d.nx _ _ _ _ _ _ r1 k1 (h2 rfl)
end
end Dv

set_option maxRecDepth 100000
set_option maxHeartbeats 4000000
namespace Dv
open PySem PySem.Spec PyProof.Rows L2

/-! ### list comprehensions -/
def wipeE (ρ : Env) : List Nat → Env
  | [] => ρ
  | i :: vs => (wipeE ρ vs).set i none
section
variable {K : PySem.W.Frag} {bad bad' : Bad} {as as' : List Addr} {σ σ' : L2.St} {H H' : Hp} {ρ ρ' : Env} {μ μ' : Mu}
theorem SOk.env (k : SOk K bad as σ H ρ μ) (g : Go bad as H bad' as' H') (k' : SOk K bad' as' σ' H' ρ' μ') : SOk K bad' as' σ H' ρ μ' :=
  ⟨k.ls, k'.la, k'.nd, k'.muts, k'.bin, fun i s e => by
    obtain ⟨v, h1, h2⟩ := k.slot i s e
    exact ⟨v, h1, h2.go g⟩⟩
theorem wipeE_length : ∀ {vs : List Nat}, (wipeE ρ vs).length = ρ.length
  | [] => rfl
  | i :: vs => by
    show ((wipeE ρ vs).set i none).length = _
    rw [List.length_set, wipeE_length (vs := vs)]
theorem wipeE_some {i : Nat} {s : Sl} : ∀ {vs : List Nat}, (wipeE ρ vs)[i]? = some (some s) → ρ[i]? = some (some s) ∧ i ∉ vs
  | [], h => ⟨h, by simp⟩
  | j :: vs, h => by
    have h : ((wipeE ρ vs).set j none)[i]? = some (some s) := h
    by_cases e : i = j
    · subst e
      have hl := (List.getElem?_eq_some_iff.mp h).1
      rw [List.length_set] at hl
      rw [List.getElem?_set_self hl] at h
      cases h
    · rw [List.getElem?_set_ne (Ne.symm e)] at h
      obtain ⟨h1, h2⟩ := wipeE_some (vs := vs) h
      exact ⟨h1, by simp [e, h2]⟩
theorem SOk.wipe {vs : List Nat} (k : SOk K bad as σ H ρ μ) : SOk K bad as (wipe σ vs) H (wipeE ρ vs) μ :=
  ⟨by rw [wipe_length, wipeE_length]; exact k.ls, k.la, k.nd, k.muts, k.bin, fun i s e => by
    obtain ⟨h1, h2⟩ := wipeE_some e
    obtain ⟨v, h3, h4⟩ := k.slot i s h1
    exact ⟨v, by rw [wipe_out h2]; exact h3, h4⟩⟩
end
theorem wipe_get {σ : L2.St} {i : Nat} : ∀ {vs : List Nat}, i ∈ vs → i < σ.length → (wipe σ vs)[i]? = some none
  | [], h, _ => by simp at h
  | j :: vs, h, hl => by
    show ((wipe σ vs).set j none)[i]? = some none
    by_cases e : i = j
    · subst e
      rw [List.getElem?_set_self (by rw [wipe_length]; exact hl)]
    · rw [List.getElem?_set_ne (Ne.symm e)]
      refine wipe_get (vs := vs) ?_ hl
      rcases List.mem_cons.mp h with z | z
      · exact (e z).elim
      · exact z
theorem wipe_still {σ σ2 : L2.St} {vs js : List Nat} (st : Still js (wipe σ vs) σ2) (h : ∀ j ∈ js, j ∈ vs) : wipe σ2 vs = wipe σ vs := by
  apply List.ext_getElem?
  intro i
  by_cases hi : i ∈ vs
  · by_cases hl : i < σ.length
    · rw [wipe_get hi hl, wipe_get hi (by rw [st.1, wipe_length]; exact hl)]
    · rw [List.getElem?_eq_none (by rw [wipe_length, st.1, wipe_length]; omega), List.getElem?_eq_none (by rw [wipe_length]; omega)]
  · rw [wipe_out hi, wipe_out hi, st.2 i (fun z => hi (h i z)), wipe_out hi]
def wpGB (X : Cx) (scope : Scope) (tg : Expr) : TG := fun v σ H Q => ∀ s H0 C cl fp, wpG (X.blk s H0 scope (compEnvC scope cl C X.env) fp) tg v σ H Q
def wpTB (X : Cx) (scope : Scope) (c : Expr) : TT := fun σ H Q => ∀ s H0 C cl fp, wpT (X.blk s H0 scope (compEnvC scope cl C X.env) fp) c σ H Q
def wpEB (X : Cx) (scope : Scope) (e : Expr) : TE := fun σ H Q => ∀ s H0 C cl fp, wpE (X.blk s H0 scope (compEnvC scope cl C X.env) fp) e σ H Q
def AgB (X : Cx) (scope : Scope) (tg : Expr) (js : List Nat) (s : Sl) (ρ : Env) (μ : Mu) (P : Env → Mu → Prop) : Prop := ∀ s0 H0 C cl fp, Ag (X.blk s0 H0 scope (compEnvC scope cl C X.env) fp) tg js s ρ μ P
def EtB (X : Cx) (scope : Scope) (c : Expr) (ρ : Env) (μ : Mu) (P : Bool → Mu → Prop) : Prop := ∀ s0 H0 C cl fp, Et (X.blk s0 H0 scope (compEnvC scope cl C X.env) fp) c ρ μ P
def EvB (X : Cx) (scope : Scope) (e : Expr) (ρ : Env) (μ : Mu) (P : Sl → Mu → Prop) : Prop := ∀ s0 H0 C cl fp, Ev (X.blk s0 H0 scope (compEnvC scope cl C X.env) fp) e ρ μ P
/-- the tests of a clause: none, or one -/
inductive Ifs (X : Cx) (scope : Scope) : List Expr → TT → Prop
  | nil : Ifs X scope [] tYes
  | one (c : Expr) : Ifs X scope [c] (wpTB X scope c)
theorem Ifs.pts {X : Cx} {scope : Scope} {ifs : List Expr} {tt : TT} (h : Ifs X scope ifs tt) (s : Shared) (H : Hp) (C : Addr) (cl : List (Str × Addr)) (fp : List Addr) : PTs (X.blk s H scope (compEnvC scope cl C X.env) fp) ifs tt := by
  cases h with
  | nil => exact pts_nil
  | one c => exact pts_one ⟨fun pins s1 σ H1 Q I hw => hw s H C cl fp pins s1 I⟩
/-- what an element is: kept or not -/
def EltB (X : Cx) (scope : Scope) (ifs : List Expr) (elt : Expr) (ρ : Env) (μ : Mu) (P : Sl → Mu → Prop) (N : Mu → Prop) : Prop := match ifs with
  | [] => EvB X scope elt ρ μ P
  | [c] => EtB X scope c ρ μ fun b μ1 => (b = true → EvB X scope elt ρ μ1 P) ∧ (b = false → N μ1)
  | _ => False
section
variable {X : Cx} {S : Snap} {ρ : Env} {μ : Mu} {P : Sl → Mu → Prop} {D : DE} {pos : Pos} {elt tg iter : Expr} {ifs : List Expr} {scope : Scope}
/-- what a comprehension's reading wants -/
def LcD (X : Cx) (scope : Scope) (tg : Expr) (ifs : List Expr) (elt : Expr) (js vs : List Nat) (ρ : Env) (P : Sl → Mu → Prop) (ds : List PyData) (μ1 : Mu) : Prop :=
  ∃ inv : Nat → List PyData → Mu → Prop, inv 0 [] μ1 ∧
    (∀ i acc μ', inv i acc μ' → μ'.length = μ1.length ∧ (i < ds.length → acc.length < sizeLine)) ∧
    (∀ (i : Nat) d acc μ', ds[i]? = some d → inv i acc μ' → AgB X scope tg js (.dat d) (wipeE ρ vs) (μ' ++ [some (.lst acc)]) fun ρ2 μ2 =>
      EltB X scope ifs elt ρ2 μ2 (fun r μ4 => ∃ e μ5, r = .dat e ∧ μ4 = μ5 ++ [some (.lst acc)] ∧ inv (i + 1) (acc ++ [e]) μ5) (fun μ4 => ∃ μ5, μ4 = μ5 ++ [some (.lst acc)] ∧ inv (i + 1) acc μ5)) ∧
    ∀ acc μ', inv ds.length acc μ' → P (.obj μ'.length) (μ' ++ [some (.lst acc)])
theorem lc_read {J : It} {wi : TI} {js vs : List Nat} {tt : TT} (hi : Ifs X scope ifs tt) (hjs : ∀ j ∈ js, j ∈ vs) {bad : Bad} {as : List Addr} {σ : L2.St} {H : Hp} {Q : VK} (k : SOk X.K bad as σ H ρ μ)
    (hw : ∀ bad as σ H R, SOk X.K bad as σ H ρ μ → (∀ bad' as' H' J ds μ', Go bad as H bad' as' H' → SOk X.K bad' as' σ H' ρ μ' → Wk X.K J bad' H' ds → LcD X scope tg ifs elt js vs ρ P ds μ' → R J H') → wi σ H R)
    (p : Post X.K σ ρ bad as H P Q) : tLc wi (wpGB X scope tg) tt (wpEB X scope elt) vs σ H Q := by
  refine hw bad as σ H _ k fun bad1 as1 H1 J ds μ1 g1 k1 W ⟨inv, i0, bnd, turn, fin⟩ => ?_
  intro L hL
  have la1 := k1.la
  have k0 : SOk X.K (bad1.add L) (as1 ++ [L]) (wipe σ vs) (upd H1 L (.lst [])) (wipeE ρ vs) (μ1 ++ [some (.lst [])]) := (new_lst k1 hL (vs := []) .nil).1.wipe
  have g0 : Go bad1 as1 H1 (bad1.add L) (as1 ++ [L]) (upd H1 L (.lst [])) := Go.push hL
  refine ⟨fun i m H2 => m = ds.length - i ∧ i ≤ ds.length ∧ ∃ bad2 μ2 acc, Go bad1 as1 H1 bad2 (as1 ++ [L]) H2 ∧ SOk X.K bad2 (as1 ++ [L]) (wipe σ vs) H2 (wipeE ρ vs) (μ2 ++ [some (.lst acc)]) ∧ inv i acc μ2, ⟨ds.length, by omega, Nat.zero_le _, _, μ1, [], g0, k0, i0⟩, ?_⟩
  rintro i m H2 ⟨rfl, hi', bad2, μ2, acc, g2, k2, hin⟩
  obtain ⟨hlen, hacc⟩ := bnd i acc μ2 hin
  by_cases hlt : i < ds.length
  · have hd : ds[i]? = some ds[i] := List.getElem?_eq_getElem hlt
    obtain ⟨go, yld⟩ := W.go bad2 H2 i ds[i] g2.keep g2.new hd
    refine .inr ⟨go, fun H3 => ∃ bad2 μ2 acc, Go bad1 as1 H1 bad2 (as1 ++ [L]) H3 ∧ SOk X.K bad2 (as1 ++ [L]) (wipe σ vs) H3 (wipeE ρ vs) (μ2 ++ [some (.lst acc)]) ∧ inv (i + 1) acc μ2, fun H3 q => ⟨ds.length - (i + 1), by omega, rfl, hlt, q⟩, fun x H3 y => ?_⟩
    obtain ⟨st, rx⟩ := yld x H3 y
    have g3 : Go bad2 (as1 ++ [L]) H2 bad2 (as1 ++ [L]) H3 := st.go
    have k3 := st.ok k2
    intro s0 H0 C cl fp
    refine turn i ds[i] acc μ2 hd hin s0 H0 C cl fp bad2 (as1 ++ [L]) _ H3 x _ k3 rx fun bad4 as4 σ4 H4 ρ4 μ4 g4 k4 st4 h4 => ?_
    refine ⟨wipe_still st4 hjs, ?_⟩
    -- the end of a turn
    have endT : ∀ {bad6 : Bad} {as6 : List Addr} {H6 : Hp} {μ6 : Mu} {acc' : List PyData}, Go bad4 as4 H4 bad6 as6 H6 → SOk X.K bad6 as6 σ4 H6 ρ4 (μ6 ++ [some (.lst acc')]) → μ6.length = μ1.length → as6 = as1 ++ [L] := fun {bad6 as6 H6 μ6 acc'} g6 k6 hl => by
      obtain ⟨t, e⟩ := (g4.trans g6).pre
      have l6 := k6.la
      rw [e] at l6
      simp only [List.length_append, List.length_cons, List.length_nil] at l6
      have : t = [] := List.eq_nil_of_length_eq_zero (by omega)
      rw [e, this, List.append_nil]
    have back' : ∀ {bad6 : Bad} {H6 : Hp} {μ6 : Mu} {acc' : List PyData}, Go bad4 as4 H4 bad6 (as1 ++ [L]) H6 → SOk X.K bad6 (as1 ++ [L]) σ4 H6 ρ4 (μ6 ++ [some (.lst acc')]) → inv (i + 1) acc' μ6 →
        ∃ bad2 μ2 acc, Go bad1 as1 H1 bad2 (as1 ++ [L]) H6 ∧ SOk X.K bad2 (as1 ++ [L]) (wipe σ vs) H6 (wipeE ρ vs) (μ2 ++ [some (.lst acc)]) ∧ inv (i + 1) acc μ2 := fun {bad6 H6 μ6 acc'} g6 k6 h6 =>
      ⟨bad6, μ6, acc', (((g2.trans g3).trans g4).trans g6), k3.env (g4.trans g6) k6, h6⟩
    -- the element is kept
    have keepE : ∀ {bad5 : Bad} {as5 : List Addr} {H5 : Hp} {μ5 : Mu}, Go bad4 as4 H4 bad5 as5 H5 → SOk X.K bad5 as5 σ4 H5 ρ4 μ5 →
        EvB X scope elt ρ4 μ5 (fun r μ4 => ∃ e μ5, r = .dat e ∧ μ4 = μ5 ++ [some (.lst acc)] ∧ inv (i + 1) (acc ++ [e]) μ5) →
        wpEB X scope elt σ4 H5 fun y H4 => ∃ acc, H4 L = some (.lst acc) ∧ acc.length < sizeLine ∧ (∃ bad2 μ2 acc', Go bad1 as1 H1 bad2 (as1 ++ [L]) (upd H4 L (.lst (acc ++ [y]))) ∧ SOk X.K bad2 (as1 ++ [L]) (wipe σ vs) (upd H4 L (.lst (acc ++ [y]))) (wipeE ρ vs) (μ2 ++ [some (.lst acc')]) ∧ inv (i + 1) acc' μ2) := fun {bad5 as5 H5 μ5} g5 k5 h5 => by
      intro s1 H01 C1 cl1 fp1
      refine h5 s1 H01 C1 cl1 fp1 bad5 as5 σ4 H5 _ k5 fun bad6 as6 H6 y r μ6 g6 k6 r6 ⟨e, μ7, e1, e2, h7⟩ => ?_
      subst e1 e2
      have hl := (bnd _ _ _ h7).1
      have ea := endT (g5.trans g6) k6 hl
      subst ea
      have hm : (μ7 ++ [some (MO.lst acc)])[as1.length]? = some (some (.lst acc)) := by
        rw [List.getElem?_append_right (by omega), show as1.length - μ7.length = 0 by omega]
        rfl
      have haL : (as1 ++ [L])[as1.length]? = some L := by
        rw [List.getElem?_append_right (Nat.le_refl _), Nat.sub_self]
        rfl
      obtain ⟨_, ws, e3, r3⟩ := k6.muts as1.length L _ haL hm
      have r6 : Rp X.K bad6 H6 y e := r6
      refine ⟨ws, e3, by rw [r3.length]; exact hacc hlt, ?_⟩
      have gw : Go bad6 (as1 ++ [L]) H6 bad6 (as1 ++ [L]) (upd H6 L (.lst (ws ++ [y]))) := Go.write k6 haL hm
      have kw := k6.write (m' := .lst (acc ++ [e])) haL hm ⟨ws ++ [y], upd_same, (r3.append (.cons r6 .nil)).step gw.keep fun _ z => .inl z⟩
      have em : (μ7 ++ [some (MO.lst acc)]).set as1.length (some (.lst (acc ++ [e]))) = μ7 ++ [some (.lst (acc ++ [e]))] := by
        rw [List.set_append_right _ _ (by omega), show as1.length - μ7.length = 0 by omega]
        rfl
      rw [em] at kw
      exact back' ((g5.trans g6).trans gw) kw h7
    cases hi with
    | nil =>
      dsimp only [tYes]
      rw [if_pos rfl]
      exact keepE Go.refl k4 h4
    | one c =>
      intro s1 H01 C1 cl1 fp1
      refine h4 s1 H01 C1 cl1 fp1 bad4 as4 σ4 H4 _ k4 fun bad5 as5 H5 b μ5 g5 k5 ⟨h5, h6⟩ => ?_
      cases b with
      | true =>
        rw [if_pos rfl]
        exact keepE g5 k5 (h5 rfl)
      | false =>
        rw [if_neg Bool.false_ne_true]
        obtain ⟨μ7, e1, h7⟩ := h6 rfl
        subst e1
        have ea := endT g5 k5 (bnd _ _ _ h7).1
        subst ea
        exact back' g5 k5 h7
  · have e : i = ds.length := by omega
    subst e
    refine .inl ⟨W.stop H2 _ g2.keep (Nat.le_refl _), ?_⟩
    refine p _ _ _ (.ref L) (.obj μ2.length) _ (g1.trans g2) (k1.env g2 k2) ⟨L, ?_, rfl⟩ (fin acc μ2 hin)
    rw [List.getElem?_append_right (by omega), show μ2.length - as1.length = 0 by omega]
    rfl
theorem ev_lc (own : List (Str × Nat)) (js : List Nat) {tt : TT} (hc : X.calm = true) (hN : X.N.Nodup) (ok : BlkOk X.N X.env.scope scope own) (hif : Ifs X scope ifs tt) (hjs : ∀ j ∈ js, j ∈ own.map (·.2))
    (h : Iv X tg iter ρ μ (LcD X scope tg ifs elt js (own.map (·.2)) ρ P)) (hs : ∀ x, foldedSetIterable iter X.env x = pure x := by intro _; rfl) : Ev X (.ListComp elt [⟨tg, iter, ifs, 0⟩] scope pos) ρ μ P := fun bad as σ H Q k p => by
  obtain ⟨wi, hpi, hw⟩ := h
  exact wpE_of (pe_lc hc hN hpi ok (fun s H C cl fp => ⟨fun pins s1 σ H1 v u Q I r hq => hq s H C cl fp pins s1 u I r⟩) hif.pts (fun s H C cl fp => ⟨fun pins s1 σ H1 Q I hq => hq s H C cl fp pins s1 I⟩) hs) (lc_read (J := ⟨fun _ _ => True, fun _ _ _ _ => True, fun _ _ => True⟩) hif hjs k hw p)
theorem s_setLc (i : Nat) {y : Str} {py spos : Pos} (own : List (Str × Nat)) (js : List Nat) {tt : TT} (hc : X.calm = true) (hN : X.N.Nodup) (hsw : swapsWith (.ListComp elt [⟨tg, iter, ifs, 0⟩] scope pos) (some (.Name y py)) spos.line X.env = pure true)
    (ok : BlkOk X.N X.env.scope scope own) (hif : Ifs X scope ifs tt) (hjs : ∀ j ∈ js, j ∈ own.map (·.2))
    (h : Iv X tg iter ρ μ (LcD X scope tg ifs elt js (own.map (·.2)) ρ fun r μ' => D.nx (ρ.set i (some r)) μ')) (hy : X.N[i]? = some y := by rfl) (hyl : X.env.scope.names.lookup y = some .local := by rfl)
    (hs : ∀ x, foldedSetIterable iter X.env x = pure x := by intro _; rfl) : S1 X S (.Assign [.Name y py] (.ListComp elt [⟨tg, iter, ifs, 0⟩] scope pos) spos) ρ μ D := fun bad as σ H De r k d => by
  obtain ⟨wi, hpi, hw⟩ := h
  refine wpSt_of (ps_setLc (g := wpGB X scope tg) (tt := tt) (te := wpEB X scope elt) hc hN hy hyl hsw hpi ok (fun s H C cl fp => ⟨fun pins s1 σ H1 v u Q I r hq => hq s H C cl fp pins s1 u I r⟩) hif.pts (fun s H C cl fp => ⟨fun pins s1 σ H1 Q I hq => hq s H C cl fp pins s1 I⟩) hs) ?_
  exact lc_read (J := ⟨fun _ _ => True, fun _ _ _ _ => True, fun _ _ => True⟩) hif hjs k hw (r.post k fun bad' as' H' v s μ' r' k' r1 p => d.nx _ _ _ _ _ _ r' (k'.set i r1) p)
/-- each element by a function of the item, nothing changed -/
theorem lcd_map {js vs : List Nat} {ds : List PyData} {μ1 : Mu} (f : PyData → PyData) (hz : ds.length ≤ sizeLine)
    (h : ∀ d ∈ ds, ∀ acc, AgB X scope tg js (.dat d) (wipeE ρ vs) (μ1 ++ [some (.lst acc)]) fun ρ2 μ2 => EvB X scope elt ρ2 μ2 fun r μ4 => r = .dat (f d) ∧ μ4 = μ1 ++ [some (.lst acc)])
    (fin : P (.obj μ1.length) (μ1 ++ [some (.lst (ds.map f))])) : LcD X scope tg [] elt js vs ρ P ds μ1 := by
  refine ⟨fun i acc μ' => i ≤ ds.length ∧ acc = (ds.take i).map f ∧ μ' = μ1, ⟨Nat.zero_le _, rfl, rfl⟩, ?_, ?_, ?_⟩
  · rintro i acc μ' ⟨_, rfl, rfl⟩
    refine ⟨rfl, fun hi => ?_⟩
    rw [List.length_map, List.length_take]
    omega
  · rintro i d acc μ' hd ⟨hi, rfl, rfl⟩ s0 H0 C cl fp
    intro bad as σ H v Q k r p
    refine h d (List.mem_of_getElem? hd) _ s0 H0 C cl fp bad as σ H v Q k r fun bad' as' σ' H' ρ' μ' g k' st h' => p _ _ _ _ _ _ g k' st ?_
    intro s1 H1 C1 cl1 fp1
    refine (h' s1 H1 C1 cl1 fp1).imp ?_
    rintro r μ4 ⟨rfl, rfl⟩
    refine ⟨_, _, rfl, rfl, (List.getElem?_eq_some_iff.mp hd).1, ?_, rfl⟩
    rw [List.take_add_one, hd, List.map_append]
    rfl
  · rintro acc μ' ⟨_, rfl, rfl⟩
    rw [List.take_length]
    exact fin
/-- .. of the items that pass a test -/
theorem lcd_filter {c : Expr} {js vs : List Nat} {ds : List PyData} {μ1 : Mu} (p : PyData → Bool) (f : PyData → PyData) (hz : ds.length ≤ sizeLine)
    (h : ∀ d ∈ ds, ∀ acc, AgB X scope tg js (.dat d) (wipeE ρ vs) (μ1 ++ [some (.lst acc)]) fun ρ2 μ2 => EtB X scope c ρ2 μ2 fun b μ3 => b = p d ∧ μ3 = μ1 ++ [some (.lst acc)] ∧ (b = true → EvB X scope elt ρ2 μ3 fun r μ4 => r = .dat (f d) ∧ μ4 = μ1 ++ [some (.lst acc)]))
    (fin : P (.obj μ1.length) (μ1 ++ [some (.lst ((ds.filter p).map f))])) : LcD X scope tg [c] elt js vs ρ P ds μ1 := by
  refine ⟨fun i acc μ' => i ≤ ds.length ∧ acc = ((ds.take i).filter p).map f ∧ μ' = μ1, ⟨Nat.zero_le _, rfl, rfl⟩, ?_, ?_, ?_⟩
  · rintro i acc μ' ⟨_, rfl, rfl⟩
    refine ⟨rfl, fun hi => ?_⟩
    rw [List.length_map]
    have h1 := List.length_filter_le p (ds.take i)
    rw [List.length_take] at h1
    omega
  · rintro i d acc μ' hd ⟨hi, rfl, rfl⟩ s0 H0 C cl fp
    have st : ds.take (i + 1) = ds.take i ++ [d] := by rw [List.take_add_one, hd]; rfl
    have hi1 := (List.getElem?_eq_some_iff.mp hd).1
    intro bad as σ H v Q k r pp
    refine h d (List.mem_of_getElem? hd) _ s0 H0 C cl fp bad as σ H v Q k r fun bad' as' σ' H' ρ' μ' g k' st' h' => pp _ _ _ _ _ _ g k' st' ?_
    intro s1 H1 C1 cl1 fp1
    intro bad as σ H Q k pq
    refine h' s1 H1 C1 cl1 fp1 bad as σ H Q k fun bad' as' H' b μ3 g k' ⟨e1, e2, e3⟩ => pq _ _ _ _ _ g k' ⟨fun hb s2 H2 C2 cl2 fp2 => (e3 hb s2 H2 C2 cl2 fp2).imp ?_, fun hb => ⟨_, e2, hi1, ?_, rfl⟩⟩
    · rintro r μ4 ⟨rfl, rfl⟩
      refine ⟨_, _, rfl, rfl, hi1, ?_, rfl⟩
      rw [st, List.filter_append, List.map_append]
      have : [d].filter p = [d] := by simp [← e1, hb]
      rw [this]
      rfl
    · rw [st, List.filter_append, List.map_append]
      have : [d].filter p = [] := by simp [← e1, hb]
      rw [this]
      simp
  · rintro acc μ' ⟨_, rfl, rfl⟩
    rw [List.take_length]
    exact fin
end
end Dv

set_option maxRecDepth 100000
set_option maxHeartbeats 4000000
namespace Dv
open PySem PySem.Spec PyProof.Rows L2

/-! ### what a def promises, by data -/
inductive RR where
  | dat (d : PyData)
  | arg (j : Nat)
  | new (m : MO)
abbrev Spec := List Sl → Mu → (RR → Mu → Prop) → Prop
structure FEnd (K : PySem.W.Frag) (bad : Bad) (as : List Addr) (H : Hp) (v : V) (r : RR) (μ' : Mu) (H' : Hp) : Prop where
  keep : Kept bad H H'
  stay : Stays H H'
  len : μ'.length = as.length
  muts : ∀ (j : Nat) (a : Addr) (m : MO), as[j]? = some a → μ'[j]? = some (some m) → MRep K bad H' a m
  res : match r with
    | .dat d => Rp K bad H' v d
    | .arg j => ∃ a, as[j]? = some a ∧ v = .ref a
    | .new m => ∃ p, v = .ref p ∧ H p = none ∧ MRep K (bad.add p) H' p m ∧ ∀ (j : Nat) (a : Addr) (m : MO), as[j]? = some a → μ'[j]? = some (some m) → MRep K (bad.add p) H' a m
def DSp (K : PySem.W.Frag) (spec : Spec) : Sp := fun vs H Q _ => ∃ bad as sls μ P, SOk K bad as (vs.map some) H (sls.map some) μ ∧ spec sls μ P ∧ ∀ v H' r μ', FEnd K bad as H v r μ' H' → P r μ' → Q v H'
def rtP (n : Nat) (P : RR → Mu → Prop) : Sl → Mu → Prop := fun r μ => match r with
  | .dat d => P (.dat d) (μ.take n)
  | .obj j => if j < n then P (.arg j) (μ.take n) else ∃ m, μ[j]? = some (some m) ∧ P (.new m) (μ.take n)
  | _ => False
section
variable {K : PySem.W.Frag} {bad bad' : Bad} {as as' : List Addr} {σ' : L2.St} {H H' : Hp} {ρ' : Env} {μ' : Mu} {v : V} {r : Sl} {P : RR → Mu → Prop}
theorem fend (q : Reach ⟨as, bad, bad, H⟩ bad' as' H') (k : SOk K bad' as' σ' H' ρ' μ') (rv : SRep K bad' as' H' v r) (h : rtP as.length P r μ') : ∃ rr μ2, FEnd K bad as H v rr μ2 H' ∧ P rr μ2 := by
  obtain ⟨t, et⟩ := q.pre
  have et : as' = as ++ t := et
  have la := k.la
  have hl : as.length ≤ μ'.length := by rw [← la, et, List.length_append]; omega
  have at_ : ∀ {j : Nat} {a : Addr}, as[j]? = some a → as'[j]? = some a := fun {j a} e => by
    rw [et, List.getElem?_append_left (List.getElem?_eq_some_iff.mp e).1]; exact e
  have mt : ∀ {j : Nat} {m : MO}, (μ'.take as.length)[j]? = some (some m) → μ'[j]? = some (some m) := fun {j m} e => by
    rw [List.getElem?_take] at e
    split at e
    · exact e
    · cases e
  have sb : ∀ a, bad.av a → bad'.av a := q.sub
  have base : ∀ (j : Nat) (a : Addr) (m : MO), as[j]? = some a → (μ'.take as.length)[j]? = some (some m) → MRep K bad' H' a m := fun j a m e1 e2 => (k.muts j a m (at_ e1) (mt e2)).2
  have len : (μ'.take as.length).length = as.length := by rw [List.length_take]; omega
  cases r with
  | dat d => exact ⟨.dat d, _, ⟨q.keep, q.stay, len, fun j a m e1 e2 => (base j a m e1 e2).sub sb, Rp.sub sb rv⟩, h⟩
  | obj j =>
    have h : if j < as.length then P (.arg j) (μ'.take as.length) else ∃ m, μ'[j]? = some (some m) ∧ P (.new m) (μ'.take as.length) := h
    obtain ⟨a, ha, ev⟩ := rv
    split at h
    · rename_i hj
      refine ⟨.arg j, _, ⟨q.keep, q.stay, len, fun j a m e1 e2 => (base j a m e1 e2).sub sb, a, ?_, ev⟩, h⟩
      rw [et, List.getElem?_append_left hj] at ha
      exact ha
    · rename_i hj
      obtain ⟨m, hm, h⟩ := h
      obtain ⟨hw, hr⟩ := k.muts j a m ha hm
      have nb : ¬ bad.av a := q.newA j a (by show as.length ≤ j; omega) ha
      have fr : H a = none := by
        rcases q.newW a hw with z | z
        · exact (nb (bad.le _ z)).elim
        · exact z
      have sp : ∀ b, (bad.add a).av b → bad'.av b := fun b z => Or.elim z (sb b) fun e => by subst e; exact bad'.le _ hw
      exact ⟨.new m, _, ⟨q.keep, q.stay, len, fun j a m e1 e2 => (base j a m e1 e2).sub sb, a, ev, fr, hr.sub sp, fun j a m e1 e2 => (base j a m e1 e2).sub sp⟩, h⟩
  | scr ns => exact (show False from h).elim
  | glo a => exact (show False from h).elim
  | typ n => exact (show False from h).elim
end
def entry (N : List Str) (sls : List Sl) : Env := sls.map some ++ List.replicate (N.length - sls.length) none
section
variable {P : Program} {w : World} {K : PySem.W.Frag} {mg : Str → Option Value} {base : Heap}
theorem SOk.start {bad : Bad} {as : List Addr} {H : Hp} {vs : List V} {sls : List Sl} {μ : Mu} {N : List Str} (k : SOk K bad as (vs.map some) H (sls.map some) μ) : SOk K bad as (L2.start N vs) H (entry N sls) μ := by
  have hl : vs.length = sls.length := by have := k.ls; rwa [List.length_map, List.length_map] at this
  refine ⟨?_, k.la, k.nd, k.muts, k.bin, fun i s e => ?_⟩
  · unfold L2.start entry
    rw [List.length_append, List.length_append, List.length_map, List.length_map, List.length_replicate, List.length_replicate, hl]
  · unfold entry at e
    by_cases hi : i < sls.length
    · rw [List.getElem?_append_left (by rw [List.length_map]; exact hi)] at e
      obtain ⟨v, h1, h2⟩ := k.slot i s e
      refine ⟨v, ?_, h2⟩
      unfold L2.start
      rw [List.getElem?_append_left (by rw [List.length_map]; omega)]
      exact h1
    · rw [List.getElem?_append_right (by rw [List.length_map]; omega)] at e
      rw [List.getElem?_replicate] at e
      split at e
      · cases e
      · cases e
/-- THE RULE for a def, by data -/
theorem fn_data {x qual : Str} {st : Stmt} {f : Addr} {fd : FuncData} {N ps : List Str} {k : Nat} {spec : Spec} (F : Fun K x qual st f fd) (S : FnScope N ps (defScope st)) (len : ∀ sls μ P, spec sls μ P → sls.length = ps.length)
    (body : ∀ (X : Cx), X.prog = P → X.w = w → X.K = K → X.mg = mg → X.base = base → (∃ cdv A outer s H E, X = (cxOf CX0 P w K mg base N qual (defScope st) f cdv A outer s H E).nox) → Room k X.A → ∀ (S : Snap) sls μ Pr, S.as0.length = μ.length → spec sls μ Pr →
      Sx X S (defBody st) (entry N sls) μ { nx := fun _ μ' => rtP μ.length Pr (.dat .none) μ', rt := rtP μ.length Pr }) : FnOk P w K mg base CX0 (k + 1) f fd ps (DSp K spec) := by
  refine F.ok S (fun vs H Q E h => ?_) (fun cdv A outer s H vs Q E hr h => ?_)
  · obtain ⟨bad, as, sls, μ, Pr, k0, hs, _⟩ := h
    have := k0.ls
    rw [List.length_map, List.length_map] at this
    rw [this]
    exact len _ _ _ hs
  · obtain ⟨bad, as, sls, μ, Pr, k0, hs, hq⟩ := h
    have la := k0.la
    refine ⟨_, wpSs_pss, ?_⟩
    refine body _ rfl rfl rfl rfl rfl ⟨cdv, A, outer, s, H, E, rfl⟩ hr ⟨as, bad, bad, H⟩ sls μ Pr la hs bad as _ H _ Reach.start k0.start ⟨fun bad' as' σ' H' ρ' μ' q k1 h1 => ?_, fun bad' as' σ' H' ρ' μ' v r q k1 r1 h1 => ?_, fun _ _ _ _ _ _ _ _ z => z, fun _ _ _ _ _ _ _ _ z => z⟩
    · obtain ⟨rr, μ2, fe, p⟩ := fend (r := .dat .none) (v := .non) q k1 Rp.non (by rw [la]; exact h1)
      exact hq _ _ _ _ fe p
    · obtain ⟨rr, μ2, fe, p⟩ := fend q k1 r1 (by rw [la]; exact h1)
      exact hq _ _ _ _ fe p
end

/-! ### a call -/
def renS (js : List Nat) : Sl → Sl
  | .obj i => .obj (js.getD i 0)
  | s => s
def okS (n : Nat) : Sl → Bool
  | .obj i => decide (i < n)
  | _ => true
def putAll (μ : Mu) : List Nat → Mu → Mu
  | j :: js, m :: ms => putAll (μ.set j m) js ms
  | _, _ => μ
def backP (μ : Mu) (js : List Nat) (P : Sl → Mu → Prop) : RR → Mu → Prop := fun rr μc => match rr with
  | .dat d => P (.dat d) (putAll μ js μc)
  | .arg i => i < js.length ∧ P (.obj (js.getD i 0)) (putAll μ js μc)
  | .new m => P (.obj μ.length) (putAll μ js μc ++ [some m])
def CallP (spec : Spec) (cs : List Sl) (μ : Mu) (P : Sl → Mu → Prop) : Prop :=
  ∃ js sls, js.Nodup ∧ sls.all (okS js.length) = true ∧ sls.map (renS js) = cs ∧ (∀ j ∈ js, ∃ m, μ[j]? = some (some m)) ∧ spec sls (js.map fun j => (μ[j]?).getD none) (backP μ js P)
theorem putAll_length : ∀ {js : List Nat} {μ ms : Mu}, (putAll μ js ms).length = μ.length
  | [], _, _ => by unfold putAll; rfl
  | j :: js, μ, [] => by unfold putAll; rfl
  | j :: js, μ, m :: ms => by
    show (putAll (μ.set j m) js ms).length = _
    rw [putAll_length, List.length_set]
theorem putAll_out : ∀ {js : List Nat} {μ ms : Mu} {i : Nat}, i ∉ js → (putAll μ js ms)[i]? = μ[i]?
  | [], _, _, _, _ => by unfold putAll; rfl
  | j :: js, μ, [], _, _ => by unfold putAll; rfl
  | j :: js, μ, m :: ms, i, h => by
    show (putAll (μ.set j m) js ms)[i]? = _
    rw [putAll_out fun z => h (List.mem_cons_of_mem _ z), List.getElem?_set_ne (by intro e; exact h (by rw [← e]; exact List.mem_cons_self))]
theorem putAll_at : ∀ {js : List Nat} {μ ms : Mu} {i j : Nat}, js.Nodup → ms.length = js.length → js[i]? = some j → j < μ.length → (putAll μ js ms)[j]? = ms[i]?
  | [], _, _, _, _, _, _, h, _ => by simp at h
  | _ :: _, _, [], _, _, _, h, _, _ => by simp at h
  | a :: js, μ, m :: ms, 0, j, nd, hl, h, hj => by
    have e : a = j := Option.some.inj h
    subst e
    show (putAll (μ.set a m) js ms)[a]? = some m
    rw [putAll_out (List.nodup_cons.mp nd).1, List.getElem?_set_self hj]
  | a :: js, μ, m :: ms, i + 1, j, nd, hl, h, hj => by
    show (putAll (μ.set a m) js ms)[j]? = ms[i]?
    exact putAll_at (List.nodup_cons.mp nd).2 (by simpa using hl) h (by rw [List.length_set]; exact hj)
section
variable {X : Cx} {ρ : Env} {μ : Mu} {P : Sl → Mu → Prop} {pos : Pos}
theorem SReps.length {K : PySem.W.Frag} {bad : Bad} {as : List Addr} {H : Hp} : ∀ {vs : List V} {ss : List Sl}, SReps K bad as H vs ss → vs.length = ss.length
  | _, _, .nil => rfl
  | _, _, .cons _ t => congrArg (· + 1) (SReps.length t)
theorem SReps.get {K : PySem.W.Frag} {bad : Bad} {as : List Addr} {H : Hp} : ∀ {vs : List V} {ss : List Sl} {i : Nat} {s : Sl}, SReps K bad as H vs ss → ss[i]? = some s → ∃ v, vs[i]? = some v ∧ SRep K bad as H v s
  | _, _, _, _, .nil, h => by simp at h
  | _, _, 0, _, .cons r _, h => ⟨_, rfl, by cases h; exact r⟩
  | _, _, i + 1, s, .cons _ t, h => SReps.get (i := i) (s := s) t h
theorem SReps.append {K : PySem.W.Frag} {bad : Bad} {as : List Addr} {H : Hp} : ∀ {vs ws : List V} {ss ts : List Sl}, SReps K bad as H vs ss → SReps K bad as H ws ts → SReps K bad as H (vs ++ ws) (ss ++ ts)
  | _, _, _, _, .nil, q => q
  | _, _, _, _, .cons r t, q => .cons r (SReps.append t q)
/-- a state, calling -/
theorem call_data {spec : Spec} {bad1 : Bad} {as1 : List Addr} {σ : L2.St} {H1 : Hp} {vs : List V} {cs : List Sl} {Q : VK} (k1 : SOk X.K bad1 as1 σ H1 ρ μ) (r1 : SReps X.K bad1 as1 H1 vs cs) (h : CallP spec cs μ P) (p : Post X.K σ ρ bad1 as1 H1 P Q) :
    DSp X.K spec vs H1 Q E0 := by
  obtain ⟨js, sls, nd, hok, hcs, live, hs⟩ := h
  have la := k1.la
  have lt : ∀ j ∈ js, j < μ.length := fun j hj => by obtain ⟨m, e⟩ := live j hj; exact (List.getElem?_eq_some_iff.mp e).1
  have asj : ∀ j ∈ js, as1[j]? = some (as1.getD j 0) := fun j hj => by
    have := lt j hj
    rw [List.getD_eq_getElem?_getD, List.getElem?_eq_getElem (by omega)]
    rfl
  let bc : Bad := ⟨bad1.av, fun a => ∃ j ∈ js, as1[j]? = some a, fun a ⟨j, hj, e⟩ => by obtain ⟨m, em⟩ := live j hj; exact bad1.le _ (k1.muts j a m e em).1⟩
  have sb1 : ∀ a, bc.av a → bad1.av a := fun _ z => z
  have sb2 : ∀ a, bad1.av a → bc.av a := fun _ z => z
  have sq : ∀ q a, (bad1.add q).av a → (bc.add q).av a := fun _ _ z => z
  have wrc : ∀ a, bc.wr a → bad1.wr a := fun a ⟨j, hj, e⟩ => by obtain ⟨m, em⟩ := live j hj; exact (k1.muts j a m e em).1
  have cAt : ∀ {i : Nat} {a : Addr}, (js.map fun j => as1.getD j 0)[i]? = some a → ∃ j, js[i]? = some j ∧ j ∈ js ∧ as1[j]? = some a := fun {i a} e => by
    rw [List.getElem?_map] at e
    cases ej : js[i]? with
    | none => rw [ej] at e; cases e
    | some j =>
      rw [ej] at e
      have e : as1.getD j 0 = a := Option.some.inj e
      have hj := List.mem_of_getElem? ej
      exact ⟨j, rfl, hj, by rw [asj j hj, e]⟩
  have mAt : ∀ {i j : Nat} {m : MO}, js[i]? = some j → (js.map fun j => (μ[j]?).getD none)[i]? = some (some m) → μ[j]? = some (some m) := fun {i j m} ej e => by
    rw [List.getElem?_map, ej] at e
    have e : (μ[j]?).getD none = some m := Option.some.inj e
    cases em : μ[j]? with
    | none => rw [em] at e; cases e
    | some o => rw [em] at e; have e : o = some m := e; rw [e]
  have kc : SOk X.K bc (js.map fun j => as1.getD j 0) (vs.map some) H1 (sls.map some) (js.map fun j => (μ[j]?).getD none) := by
    refine ⟨?_, by rw [List.length_map, List.length_map], fun i i' a x y e1 e2 e3 e4 => ?_, fun i a m e1 e2 => ?_, k1.bin, fun i s e => ?_⟩
    · rw [List.length_map, List.length_map, r1.length, ← hcs, List.length_map]
    · obtain ⟨j, h1, h2, h3⟩ := cAt e1
      obtain ⟨j', h4, h5, h6⟩ := cAt e2
      have := k1.nd j j' a x y h3 h6 (mAt h1 e3) (mAt h4 e4)
      subst this
      exact nd_ix nd h1 h4
    · obtain ⟨j, h1, h2, h3⟩ := cAt e1
      exact ⟨⟨j, h2, h3⟩, (k1.muts j a m h3 (mAt h1 e2)).2.sub sb1⟩
    · rw [List.getElem?_map] at e
      cases es : sls[i]? with
      | none => rw [es] at e; cases e
      | some s' =>
        rw [es] at e
        have e : s' = s := Option.some.inj (Option.some.inj e)
        subst e
        have hc : cs[i]? = some (renS js s') := by rw [← hcs, List.getElem?_map, es]; rfl
        obtain ⟨v, h1, h2⟩ := r1.get hc
        refine ⟨v, by rw [List.getElem?_map, h1]; rfl, ?_⟩
        cases s' with
        | dat d => exact Rp.sub sb1 h2
        | obj i' =>
          have hi : i' < js.length := of_decide_eq_true (List.all_eq_true.mp hok _ (List.mem_of_getElem? es))
          obtain ⟨a, h3, h4⟩ := h2
          refine ⟨a, ?_, h4⟩
          have ej : js[i']? = some js[i'] := List.getElem?_eq_getElem hi
          rw [List.getElem?_map, ej]
          show some (as1.getD js[i'] 0) = some a
          have : js.getD i' 0 = js[i'] := by rw [List.getD_eq_getElem?_getD, ej]; rfl
          rw [this] at h3
          rw [← h3, asj _ (List.mem_of_getElem? ej)]
        | scr ns => obtain ⟨a, h3, h4⟩ := h2; exact ⟨a, h3, h4.step Kept.refl fun _ z => .inl z⟩
        | glo a => exact h2
        | typ n => exact h2
  refine ⟨bc, _, sls, _, _, kc, hs, fun v H' r μ' fe hp => ?_⟩
  have keep1 : Kept bad1 H1 H' := fun a o e n => fe.keep a o e fun z => n (wrc a z)
  have len' : μ'.length = js.length := by rw [fe.len, List.length_map]
  have g0 : Go bad1 as1 H1 bad1 as1 H' :=
    ⟨⟨[], by simp⟩, fun _ h => h, fun _ h => .inl h, fun _ h => .inl h, fun j a h e => by have := (List.getElem?_eq_some_iff.mp e).1; omega, keep1, fe.stay⟩
  have ix : ∀ {j : Nat}, j ∈ js → ∃ i : Nat, js[i]? = some j := fun {j} hj => by
    obtain ⟨i, hi, e⟩ := List.getElem_of_mem hj
    exact ⟨i, by rw [List.getElem?_eq_getElem hi, e]⟩
  -- where an object is live behind the call, it was ahead of it
  have was : ∀ {j : Nat} {m : MO}, (putAll μ js μ')[j]? = some (some m) → ∃ m', μ[j]? = some (some m') := fun {j m} e => by
    by_cases hj : j ∈ js
    · exact live j hj
    · rw [putAll_out hj] at e; exact ⟨m, e⟩
  have muts' : ∀ (bad2 : Bad), (∀ a, bad2.av a → bad1.av a ∨ H1 a = none) → (∀ (j : Nat) (a : Addr) (m : MO), (js.map fun j => as1.getD j 0)[j]? = some a → μ'[j]? = some (some m) → MRep X.K bad2 H' a m) →
      ∀ (j : Nat) (a : Addr) (m : MO), as1[j]? = some a → (putAll μ js μ')[j]? = some (some m) → bad1.wr a ∧ MRep X.K bad2 H' a m := fun bad2 hb hm j a m e1 e2 => by
    by_cases hj : j ∈ js
    · obtain ⟨m0, em0⟩ := live j hj
      obtain ⟨i, ei⟩ := ix hj
      rw [putAll_at nd len' ei (lt j hj)] at e2
      refine ⟨(k1.muts j a m0 e1 em0).1, hm i a m ?_ e2⟩
      rw [List.getElem?_map, ei]
      show some (as1.getD j 0) = some a
      rw [← e1, asj j hj]
    · rw [putAll_out hj] at e2
      obtain ⟨b1, r⟩ := k1.muts j a m e1 e2
      refine ⟨b1, r.step keep1 hb ?_⟩
      obtain ⟨o, eo, _⟩ := r.nim
      rw [eo]
      refine fe.keep a o eo fun z => ?_
      obtain ⟨j', hj', ej'⟩ := z
      obtain ⟨m', em'⟩ := live j' hj'
      have := k1.nd j j' a m m' e1 ej' e2 em'
      exact (hj (this ▸ hj')).elim
  have bin' : ∀ a, bad1.av a → H' a ≠ none := fun a b => fe.stay a (k1.bin a b)
  have ok0 : SOk X.K bad1 as1 σ H' ρ (putAll μ js μ') := by
    refine ⟨k1.ls, by rw [putAll_length]; exact la, fun i j a x y e1 e2 e3 e4 => ?_, muts' bad1 (fun _ z => .inl z) fun j a m e1 e2 => (fe.muts j a m e1 e2).sub sb2, bin', fun i s e => ?_⟩
    · obtain ⟨x', h1⟩ := was e3
      obtain ⟨y', h2⟩ := was e4
      exact k1.nd i j a x' y' e1 e2 h1 h2
    · obtain ⟨v, h1, h2⟩ := k1.slot i s e
      exact ⟨v, h1, h2.go g0⟩
  have res := fe.res
  cases r with
  | dat d =>
    have res : Rp X.K bc H' v d := res
    exact p _ _ _ _ (.dat d) _ g0 ok0 (Rp.sub sb2 res) hp
  | arg i =>
    obtain ⟨hi, hp⟩ : i < js.length ∧ P (.obj (js.getD i 0)) (putAll μ js μ') := hp
    obtain ⟨a, h1, h2⟩ := res
    obtain ⟨j, h3, h4, h5⟩ := cAt h1
    refine p _ _ _ _ (.obj (js.getD i 0)) _ g0 ok0 ⟨a, ?_, h2⟩ hp
    have : js.getD i 0 = j := by rw [List.getD_eq_getElem?_getD, h3]; rfl
    rw [this]
    exact h5
  | new m =>
    have hp : P (.obj μ.length) (putAll μ js μ' ++ [some m]) := hp
    obtain ⟨q, ev, hq, hm, hms⟩ := res
    have hb : ∀ a, (bad1.add q).av a → bad1.av a ∨ H1 a = none := addN hq
    have mm := muts' (bad1.add q) hb fun j a m e1 e2 => (hms j a m e1 e2).sub (sq q)
    have pl : (putAll μ js μ').length = as1.length := by rw [putAll_length]; omega
    have nq : ∀ (j : Nat) (m : MO), as1[j]? = some q → (putAll μ js μ')[j]? = some (some m) → False := fun j m e1 e2 => k1.nbad hq (bad1.le _ (mm j q m e1 e2).1)
    have key : ∀ (i : Nat) (a : Addr) (x : MO), (as1 ++ [q])[i]? = some a → (putAll μ js μ' ++ [some m])[i]? = some (some x) → (as1[i]? = some a ∧ (putAll μ js μ')[i]? = some (some x)) ∨ (i = as1.length ∧ a = q ∧ x = m) := fun i a x e1 e2 => by
      by_cases hi : i < as1.length
      · rw [List.getElem?_append_left hi] at e1
        rw [List.getElem?_append_left (by omega)] at e2
        exact .inl ⟨e1, e2⟩
      · rw [List.getElem?_append_right (by omega)] at e1 e2
        have i0 : i - as1.length = 0 := by
          have := (List.getElem?_eq_some_iff.mp e1).1
          simp at this
          omega
        rw [i0] at e1
        rw [pl, i0] at e2
        exact .inr ⟨by omega, (Option.some.inj e1).symm, (Option.some.inj (Option.some.inj e2)).symm⟩
    have gn : Go bad1 as1 H1 (bad1.add q) (as1 ++ [q]) H' := by
      refine ⟨⟨[q], rfl⟩, fun _ z => .inl z, hb, fun a z => Or.elim z .inl fun z => .inr (z ▸ hq), fun j a hj e => ?_, keep1, fe.stay⟩
      rw [List.getElem?_append_right hj] at e
      have i0 : j - as1.length = 0 := by
        have := (List.getElem?_eq_some_iff.mp e).1
        simp at this
        omega
      rw [i0] at e
      have e : q = a := Option.some.inj e
      exact e ▸ hq
    have okn : SOk X.K (bad1.add q) (as1 ++ [q]) σ H' ρ (putAll μ js μ' ++ [some m]) := by
      refine ⟨k1.ls, by rw [List.length_append, List.length_append, pl]; rfl, fun i j a x y e1 e2 e3 e4 => ?_, fun i a x e1 e2 => ?_, fun a z => ?_, fun i s e => ?_⟩
      · rcases key i a x e1 e3 with ⟨h1, h2⟩ | ⟨h1, h2, h3⟩
        · rcases key j a y e2 e4 with ⟨h4, h5⟩ | ⟨h4, h5, h6⟩
          · obtain ⟨x', z1⟩ := was h2
            obtain ⟨y', z2⟩ := was h5
            exact k1.nd i j a x' y' h1 h4 z1 z2
          · subst h5
            exact (nq i x h1 h2).elim
        · rcases key j a y e2 e4 with ⟨h4, h5⟩ | ⟨h4, h5, h6⟩
          · subst h2
            exact (nq j y h4 h5).elim
          · omega
      · rcases key i a x e1 e2 with ⟨h1, h2⟩ | ⟨h1, h2, h3⟩
        · obtain ⟨z1, z2⟩ := mm i a x h1 h2
          exact ⟨.inl z1, z2⟩
        · subst h2 h3
          exact ⟨.inr rfl, hm.sub (sq _)⟩
      · rcases z with z | z
        · exact bin' a z
        · subst z
          cases m with
          | lst ds => obtain ⟨ws, e, _⟩ := hm; rw [e]; exact fun z => by cases z
      · obtain ⟨v, h1, h2⟩ := k1.slot i s e
        exact ⟨v, h1, h2.go gn⟩
    refine p _ _ _ _ (.obj μ.length) _ gn okn ⟨q, ?_, ev⟩ hp
    rw [← la, List.getElem?_append_right (Nat.le_refl _), Nat.sub_self]
    rfl
/-- defaults, as they stand -/
def Dfl (K : PySem.W.Frag) (dvs : List V) (dsl : List Sl) : Prop := ∀ bad as H, SReps K bad as H dvs dsl
theorem dfl_nil {K : PySem.W.Frag} : Dfl K [] [] := fun _ _ _ => .nil
theorem ev_call {x : Str} {p : Pos} {e : Expr} {es : List Expr} {k : Nat} {f : Addr} {fd : FuncData} {ps : List Str} {spec : Spec} {dvs : List V} {dsv : List Value} {dsl : List Sl} (F : FnOk X.prog X.w X.K X.mg X.base CX0 k f fd ps (DSp X.K spec)) (hr : Room k X.A)
    (hm : X.mg x = some (.ref f)) (hk : PySem.W.keepIn X.K (.ref f) = true) (hb : Binds X.K fd ps dsv) (hd : Vals dvs dsv) (hdl : Dfl X.K dvs dsl) (h : Ea X (e :: es) ρ μ fun cs μ1 => CallP spec (cs ++ dsl) μ1 P) (hg : Gl X x := by rfl) (hdb : (x == ("__debug__" : Str)) = false := by decide)
    (he : starEach (e :: es) X.env = (false, eval e X.env) :: starEach es X.env := by rfl) (hpl : (backTo pos (starEach es X.env)).any (·.1) = false := by rfl) : Ev X (.Call (.Name x p) (e :: es) [] pos) ρ μ P := fun bad as σ H Q kk pp => by
  refine wpE_of (pe_call F hr hg hm hk hb hd (E := E0) pass0 wpA_pa hdb he hpl) ?_
  refine h bad as σ H _ kk fun bad1 as1 H1 vs cs μ1 g1 k1 r1 h1 => ?_
  exact call_data k1 (r1.append (hdl _ _ _)) h1 (pp.go g1)
end
end Dv

set_option maxRecDepth 100000
set_option maxHeartbeats 4000000
namespace Dv
open PySem PySem.Spec PyProof.Rows L2

/-! ### names of the module -/
section
variable {X : Cx} {ρ : Env} {μ : Mu} {P : Sl → Mu → Prop} {pos : Pos}
theorem ev_gd {x : Str} {u : Value} {v : V} {d : PyData} (hm : X.mg x = some u) (r : RelV v u) (hd : ∀ bad H, Rp X.K bad H v d) (h : P (.dat d) μ) (hg : Gl X x := by rfl) (hdb : (x == ("__debug__" : Str)) = false := by decide) : Ev X (.Name x pos) ρ μ P := fun bad as σ H Q k p =>
  wpE_of (pe_glob hg hm r hdb) (p.nowD k (hd _ _) h)
theorem ev_gint {x : Str} {i : Int} {t : Tok} (hm : X.mg x = some (.int i t)) (h : P (.dat (.int i)) μ) (hg : Gl X x := by rfl) (hdb : (x == ("__debug__" : Str)) = false := by decide) : Ev X (.Name x pos) ρ μ P := ev_gd (v := .int i) hm ⟨t, rfl⟩ (fun _ _ => .int i) h hg hdb
theorem ev_gstr {x : Str} {i : Str} {t : Tok} (hm : X.mg x = some (.str i t)) (h : P (.dat (.str i)) μ) (hg : Gl X x := by rfl) (hdb : (x == ("__debug__" : Str)) = false := by decide) : Ev X (.Name x pos) ρ μ P := ev_gd (v := .str i) hm ⟨t, rfl⟩ (fun _ _ => .str i) h hg hdb
/-- a written tuple -/
def KTup (K : PySem.W.Frag) (a : Addr) (ds : List PyData) : Prop := ∀ bad H, Rp K bad H (.ref a) (.tuple ds)
theorem ev_gtup {x : Str} {a : Addr} {ds : List PyData} (hm : X.mg x = some (.ref a)) (hk : KTup X.K a ds) (h : P (.dat (.tuple ds)) μ) (hg : Gl X x := by rfl) (hdb : (x == ("__debug__" : Str)) = false := by decide) : Ev X (.Name x pos) ρ μ P := ev_gd (v := .ref a) hm rfl hk h hg hdb
theorem ev_glo {x : Str} {a : Addr} (hm : X.mg x = some (.ref a)) (h : P (.glo a) μ) (hg : Gl X x := by rfl) (hdb : (x == ("__debug__" : Str)) = false := by decide) : Ev X (.Name x pos) ρ μ P := fun bad as σ H Q k p =>
  wpE_of (pe_glob (v := .ref a) hg hm rfl hdb) (p.now (r := .glo a) k rfl h)
theorem ev_typ {x : Str} {n : String} (hm : X.mg x = none) (hv : bootBuiltins x = some (.type n)) (h : P (.typ n) μ) (hg : Gl X x := by rfl) (hn : x ≠ "__name__" := by decide) (hdb : (x == ("__debug__" : Str)) = false := by decide) : Ev X (.Name x pos) ρ μ P := fun bad as σ H Q k p =>
  wpE_of (pe_bltn (v := .ty n) hg hm hv rfl hn hdb) (p.now (r := .typ n) k rfl h)
end

/-! ### calls of what is built in -/
def wpC (X : Cx) (f : Value) : List V → Hp → VK → Prop := fun xs H Q => ∀ pins s σ us, Inv X pins σ H s → Vals xs us → wpAny (model X.prog X.w) X.A (call f us) (EP X pins σ Q) X.xe s
theorem wpC_call {X : Cx} {f : Value} : CallR X f (wpC X f) := fun pins s σ _ _ us _ I r h => h pins s σ us I r
theorem wpC_of {X : Cx} {f : Value} {r : List V → Hp → VK → Prop} (p : CallR X f r) {xs : List V} {H : Hp} {Q : VK} (h : r xs H Q) : wpC X f xs H Q := fun pins s σ us I rs => p pins s σ H xs us Q I rs h
abbrev CRD := List Sl → Mu → (Sl → Mu → Prop) → Prop
def CallD (X : Cx) (f : Value) (r : CRD) : Prop := ∀ bad as σ H ρ μ rs vs P Q, SOk X.K bad as σ H ρ μ → SReps X.K bad as H vs rs → r rs μ P → Post X.K σ ρ bad as H P Q → wpC X f vs H Q
section
variable {X : Cx} {ρ : Env} {μ : Mu} {P : Sl → Mu → Prop} {pos : Pos} {x : Str} {p : Pos} {e : Expr} {es : List Expr} {r : CRD}
theorem ev_callB {id : String} (hc : CallD X (.builtin id) r) (hm : X.mg x = none) (hv : bootBuiltins x = some (.builtin id)) (h : Ea X (e :: es) ρ μ fun rs μ1 => r rs μ1 P) (hg : Gl X x := by rfl) (hn : x ≠ "__name__" := by decide) (hdb : (x == ("__debug__" : Str)) = false := by decide)
    (he : starEach (e :: es) X.env = (false, eval e X.env) :: starEach es X.env := by rfl) (hpl : (backTo pos (starEach es X.env)).any (·.1) = false := by rfl) : Ev X (.Call (.Name x p) (e :: es) [] pos) ρ μ P := fun bad as σ H Q k pp => by
  refine wpE_of (pe_callB wpC_call hg hm hv wpA_pa hn hdb he hpl) ?_
  refine h bad as σ H _ k fun bad1 as1 H1 vs rs μ1 g1 k1 r1 h1 => ?_
  exact hc bad1 as1 σ H1 ρ μ1 rs vs P Q k1 r1 h1 (pp.go g1)
theorem ev_callTy {T : String} (hc : CallD X (.type T) r) (hm : X.mg x = none) (hv : bootBuiltins x = some (.type T)) (h : Ea X (e :: es) ρ μ fun rs μ1 => r rs μ1 P) (hg : Gl X x := by rfl) (hn : x ≠ "__name__" := by decide) (hdb : (x == ("__debug__" : Str)) = false := by decide)
    (he : starEach (e :: es) X.env = (false, eval e X.env) :: starEach es X.env := by rfl) (hpl : (backTo pos (starEach es X.env)).any (·.1) = false := by rfl) : Ev X (.Call (.Name x p) (e :: es) [] pos) ρ μ P := fun bad as σ H Q k pp => by
  refine wpE_of (pe_callTy wpC_call hg hm hv wpA_pa hn hdb he hpl) ?_
  refine h bad as σ H _ k fun bad1 as1 H1 vs rs μ1 g1 k1 r1 h1 => ?_
  exact hc bad1 as1 σ H1 ρ μ1 rs vs P Q k1 r1 h1 (pp.go g1)
end
def lenOf (μ : Mu) : Sl → Option Nat
  | .dat (.str s) => some s.length
  | .scr ns => some ns.length
  | s => (seqOf μ s).map List.length
def strFits : Sl → Prop
  | .dat (.str s) => s.length ≤ sizeLine
  | _ => True
def dLen : CRD := fun rs μ P => ∃ s n, rs = [s] ∧ lenOf μ s = some n ∧ strFits s ∧ P (.dat (.int (n : Nat))) μ
def dAbs : CRD := fun rs μ P => ∃ i : Int, rs = [.dat (.int i)] ∧ P (.dat (.int (if i < 0 then -i else i))) μ
def dMax2 : CRD := fun rs μ P => ∃ i j : Int, rs = [.dat (.int i), .dat (.int j)] ∧ P (.dat (.int (if j > i then j else i))) μ
def dMin2 : CRD := fun rs μ P => ∃ i j : Int, rs = [.dat (.int i), .dat (.int j)] ∧ P (.dat (.int (if j < i then j else i))) μ
def dInt1 : CRD := fun rs μ P => match rs with
  | [.dat (.int i)] => P (.dat (.int i)) μ
  | [.dat (.bool b)] => P (.dat (.int (if b then 1 else 0))) μ
  | _ => False
def dStr : CRD := fun rs μ P => match rs with
  | [.dat (.int i)] => i.natAbs.log2 < 1920 ∧ P (.dat (.str (toString i))) μ
  | [.dat (.str s)] => P (.dat (.str s)) μ
  | _ => False
def dList : CRD := fun rs μ P => ∃ s ds, rs = [s] ∧ seqOf μ s = some ds ∧ P (.obj μ.length) (μ ++ [some (.lst ds)])
def dTuple : CRD := fun rs μ P => ∃ s ds, rs = [s] ∧ lstOf μ s = some ds ∧ P (.dat (.tuple ds)) μ
def dAll : CRD := fun rs μ P => ∃ (s : Sl) (bs : List Bool), rs = [s] ∧ lstOf μ s = some (bs.map PyData.bool) ∧ P (.dat (.bool (bs.all id))) μ
def dAny : CRD := fun rs μ P => ∃ (s : Sl) (bs : List Bool), rs = [s] ∧ lstOf μ s = some (bs.map PyData.bool) ∧ P (.dat (.bool (bs.any id))) μ
def tyD : PyData → String
  | .none => "NoneType" | .bool _ => "bool" | .int _ => "int" | .str _ => "str" | .list _ => "list" | .tuple _ => "tuple" | .dict _ => "dict"
def dIsi : CRD := fun rs μ P => ∃ s T d b, rs = [s, .typ T] ∧ valOf μ s = some d ∧ kitB (tyD d) T = some b ∧ P (.dat (.bool b)) μ
section
variable {X : Cx} {K : PySem.W.Frag} {bad : Bad} {as : List Addr} {H : Hp}
theorem sreps1 {vs : List V} {s : Sl} (r : SReps K bad as H vs [s]) : ∃ v, vs = [v] ∧ SRep K bad as H v s := by
  cases r with
  | cons r t => cases t; exact ⟨_, rfl, r⟩
theorem sreps2 {vs : List V} {s t : Sl} (r : SReps K bad as H vs [s, t]) : ∃ v w, vs = [v, w] ∧ SRep K bad as H v s ∧ SRep K bad as H w t := by
  cases r with
  | cons r q => cases q with
    | cons r2 q2 => cases q2; exact ⟨_, _, rfl, r, r2⟩
theorem k_len : CallD X (.builtin "len") dLen := by
  intro bad as σ H ρ μ rs vs P Q k r ⟨s, n, e, hl, hf, q⟩ p
  subst e
  obtain ⟨v, rfl, rv⟩ := sreps1 r
  have other : (seqOf μ s).map List.length = some n → wpC X (.builtin "len") [v] H Q := fun hl => by
    cases es : seqOf μ s with
    | none => rw [es] at hl; cases hl
    | some ds =>
      rw [es] at hl
      cases hl
      obtain ⟨a, ws, rfl, ha, ra⟩ := seq_at k rv es
      exact wpC_of call_len_seq ⟨a, ws, rfl, ha, by rw [ra.length]; exact p.nowD k (.int _) q⟩
  unfold lenOf at hl
  split at hl
  · cases hl
    rw [rv.dat_str]
    exact wpC_of call_len_str ⟨_, rfl, hf, p.nowD k (.int _) q⟩
  · cases hl
    obtain ⟨a, rfl, ha⟩ := rv
    refine wpC_of call_len_seq ⟨a, _, rfl, .inl ha.sq, ?_⟩
    rw [List.length_map]
    exact p.nowD k (.int _) q
  · exact other hl
theorem k_abs : CallD X (.builtin "abs") dAbs := by
  intro bad as σ H ρ μ rs vs P Q k r ⟨i, e, q⟩ p
  subst e
  obtain ⟨v, rfl, rv⟩ := sreps1 r
  rw [rv.dat_int]
  exact wpC_of call_abs ⟨i, rfl, p.nowD k (.int _) q⟩
theorem k_max2 (hc : X.calm = true) : CallD X (.builtin "max") dMax2 := by
  intro bad as σ H ρ μ rs vs P Q k r ⟨i, j, e, q⟩ p
  subst e
  obtain ⟨v, w, rfl, rv, rw'⟩ := sreps2 r
  rw [rv.dat_int, rw'.dat_int]
  exact wpC_of (call_max2 hc) ⟨i, j, rfl, p.nowD k (.int _) q⟩
theorem k_min2 (hc : X.calm = true) : CallD X (.builtin "min") dMin2 := by
  intro bad as σ H ρ μ rs vs P Q k r ⟨i, j, e, q⟩ p
  subst e
  obtain ⟨v, w, rfl, rv, rw'⟩ := sreps2 r
  rw [rv.dat_int, rw'.dat_int]
  exact wpC_of (call_min2 hc) ⟨i, j, rfl, p.nowD k (.int _) q⟩
theorem k_int1 : CallD X (.type "int") dInt1 := by
  intro bad as σ H ρ μ rs vs P Q k r h p
  unfold dInt1 at h
  split at h
  · obtain ⟨v, rfl, rv⟩ := sreps1 r
    rw [rv.dat_int]
    exact wpC_of call_int1 (.inl ⟨_, rfl, p.nowD k (.int _) h⟩)
  · obtain ⟨v, rfl, rv⟩ := sreps1 r
    rw [rv.dat_bool]
    exact wpC_of call_int1 (.inr ⟨_, rfl, p.nowD k (.int _) h⟩)
  · exact h.elim
theorem k_str : CallD X (.type "str") dStr := by
  intro bad as σ H ρ μ rs vs P Q k r h p
  unfold dStr at h
  split at h
  · obtain ⟨v, rfl, rv⟩ := sreps1 r
    rw [rv.dat_int]
    exact wpC_of call_str_int ⟨_, rfl, h.1, p.nowD k (.str _) h.2⟩
  · obtain ⟨v, rfl, rv⟩ := sreps1 r
    rw [rv.dat_str]
    exact wpC_of SkE.call_str_str ⟨_, rfl, p.nowD k (.str _) h⟩
  · exact h.elim
theorem k_list : CallD X (.type "list") dList := by
  intro bad as σ H ρ μ rs vs P Q k r ⟨s, ds, e, hs, q⟩ p
  subst e
  obtain ⟨v, rfl, rv⟩ := sreps1 r
  obtain ⟨a, ws, rfl, ha, ra⟩ := seq_at k rv hs
  exact wpC_of call_list_of ⟨a, ws, rfl, ha, post_new k p ra q⟩
theorem k_tuple : CallD X (.type "tuple") dTuple := by
  intro bad as σ H ρ μ rs vs P Q k r ⟨s, ds, e, hs, q⟩ p
  subst e
  obtain ⟨v, rfl, rv⟩ := sreps1 r
  obtain ⟨a, ws, rfl, ha, ra⟩ := lst_at k rv hs
  exact wpC_of call_tuple_of ⟨a, ws, rfl, .inl ⟨SqL.of ha, post_tup k p ra q⟩⟩
theorem bools_rep : ∀ {bs : List Bool} {vs : List V}, Rps K bad H vs (bs.map PyData.bool) → vs = bs.map V.bl
  | [], _, .nil => rfl
  | b :: bs, _, .cons r t => by
    cases r
    rw [bools_rep t]
    rfl
theorem k_all (hc : X.calm = true) : CallD X (.builtin "all") dAll := by
  intro bad as σ H ρ μ rs vs P Q k r ⟨s, bs, e, hs, q⟩ p
  subst e
  obtain ⟨v, rfl, rv⟩ := sreps1 r
  obtain ⟨a, ws, rfl, ha, ra⟩ := lst_at k rv hs
  have := bools_rep ra
  subst this
  exact wpC_of (cr_all hc) ⟨a, bs, rfl, SqL.of ha, p.nowD k (.bl _) q⟩
theorem k_any (hc : X.calm = true) : CallD X (.builtin "any") dAny := by
  intro bad as σ H ρ μ rs vs P Q k r ⟨s, bs, e, hs, q⟩ p
  subst e
  obtain ⟨v, rfl, rv⟩ := sreps1 r
  obtain ⟨a, ws, rfl, ha, ra⟩ := lst_at k rv hs
  have := bools_rep ra
  subst this
  exact wpC_of (cr_any hc) ⟨a, bs, rfl, SqL.of ha, p.nowD k (.bl _) q⟩
theorem ty_dp {v : V} {d : PyData} (r : Dp K H v d) : TyX K H v (.type (tyD d)) := by
  cases r with
  | non => exact .base .non
  | bl b => exact .base (.bl b)
  | int i => exact .base (.int i)
  | str x => exact .base (.str x)
  | lst h _ =>
    rcases h with (h | ⟨o, h⟩) | ⟨o, its, n, hk, hc, _⟩
    · exact .base (.lst h)
    · exact .base (.frz h)
    · exact .kList hk hc
  | tup h _ =>
    rcases h with (h | ⟨o, h⟩) | ⟨o, its, n, hk, hc, _⟩
    · exact .base (.tup h)
    · exact .fTuple h
    · exact .kTuple hk hc
theorem k_isi : CallD X (.builtin "isinstance") dIsi := by
  intro bad as σ H ρ μ rs vs P Q k r ⟨s, T, d, b, e, hs, hk, q⟩ p
  subst e
  obtain ⟨v, w, rfl, rv, rw'⟩ := sreps2 r
  have rw' : w = .ty T := rw'
  subst rw'
  exact wpC_of call_isi ⟨v, .ty T, _, _, b, rfl, .ty T, ty_dp (val_dp k rv hs), kit_ty hk, p.nowD k (.bl _) q⟩
end

/-! ### methods of lists and texts -/
def wpM (X : Cx) (id : String) : V → List V → Hp → VK → Prop := fun x xs H Q => ∀ pins s σ v us, Inv X pins σ H s → RelV x v → Vals xs us → wpAny (model X.prog X.w) X.A (call (.builtin id) (v :: us)) (EP X pins σ Q) X.xe s
theorem wpM_mt {X : Cx} {id : String} : MtR X id (wpM X id) := fun pins s σ _ _ _ v us _ I rx r h => h pins s σ v us I rx r
theorem wpM_of {X : Cx} {id : String} {r : V → List V → Hp → VK → Prop} (p : MtR X id r) {x : V} {xs : List V} {H : Hp} {Q : VK} (h : r x xs H Q) : wpM X id x xs H Q := fun pins s σ v us I rx rs => p pins s σ H x xs v us Q I rx rs h
abbrev MRD := Sl → List Sl → Mu → (Sl → Mu → Prop) → Prop
def MethD (X : Cx) (id : String) (r : MRD) : Prop := ∀ bad as σ H ρ μ s rs v vs P Q, SOk X.K bad as σ H ρ μ → SRep X.K bad as H v s → SReps X.K bad as H vs rs → r s rs μ P → Post X.K σ ρ bad as H P Q → wpM X id v vs H Q
/-- the receiver is a list, a text -/
def isTy (T : String) (μ : Mu) : Sl → Prop
  | .dat (.str _) => T = "str"
  | s => T = "list" ∧ (lstOf μ s).isSome = true
section
variable {X : Cx} {ρ : Env} {μ : Mu} {P : Sl → Mu → Prop} {o e : Expr} {es : List Expr} {name : Str} {apos cpos : Pos} {T id : String} {r : MRD}
theorem isTy_ok {K : PySem.W.Frag} {bad : Bad} {as : List Addr} {σ : L2.St} {H : Hp} {s : Sl} {v : V} (k : SOk K bad as σ H ρ μ) (rv : SRep K bad as H v s) (h : isTy T μ s) : tyV K T v H := by
  have other : T = "list" ∧ (lstOf μ s).isSome = true → tyV K T v H := fun ⟨e, h⟩ => by
    cases es : lstOf μ s with
    | none => rw [es] at h; cases h
    | some ds =>
      obtain ⟨a, ws, rfl, ha, _⟩ := lst_at k rv es
      exact .inl ⟨e, _, SqL.of ha⟩
  unfold isTy at h
  split at h
  · rw [rv.dat_str]; exact h
  · exact other h
theorem ev_meth0 (pa : PlainAttrs T) (slot : Slot T name id) (hty : typeOf (.builtin id) = pure (.type "method_descriptor")) (hm : MethD X id r) (h : Ev X o ρ μ fun s μ1 => isTy T μ1 s ∧ r s [] μ1 P)
    (hbase : attributeBase o name X.env (eval o X.env) = eval o X.env := by rfl) (hline : (apos.endLine == cpos.line) = true := by rfl) : Ev X (.Call (.Attribute o name apos) [] [] cpos) ρ μ P := fun bad as σ H Q k p => by
  refine wpE_of (pe_bm0 pa slot hty wpM_mt wpE_pe hbase hline) ?_
  refine h bad as σ H _ k fun bad1 as1 H1 v s μ1 g1 k1 r1 ⟨h1, h2⟩ => ?_
  exact ⟨isTy_ok k1 r1 h1, hm bad1 as1 σ H1 ρ μ1 s [] v [] P Q k1 r1 .nil h2 (p.go g1)⟩
theorem ev_meth (pa : PlainAttrs T) (slot : Slot T name id) (hty : typeOf (.builtin id) = pure (.type "method_descriptor")) (hm : MethD X id r) (h : Ev X o ρ μ fun s μ1 => isTy T μ1 s ∧ Ea X (e :: es) ρ μ1 fun rs μ2 => r s rs μ2 P)
    (hbase : attributeBase o name X.env (eval o X.env) = eval o X.env := by rfl)
    (hfew : ((backTo cpos (starEach (e :: es) X.env)).all (fun x => !x.1) && (backToKw cpos (keywordEach [] X.env)).all (fun x => x.1.isSome)
      && decide ((e :: es).length + ([] : List Keyword).length + (if ([] : List Keyword).isEmpty then 0 else 1) < 30)) = true := by rfl)
    (hline : (apos.endLine == cpos.line) = true := by rfl) (hs : starEach (e :: es) X.env = (false, eval e X.env) :: starEach es X.env := by rfl) (hplain : (backTo cpos (starEach es X.env)).any (·.1) = false := by rfl) : Ev X (.Call (.Attribute o name apos) (e :: es) [] cpos) ρ μ P := fun bad as σ H Q k p => by
  refine wpE_of (pe_bm pa slot hty wpM_mt wpE_pe wpA_pa hbase hfew hline hs hplain) ?_
  refine h bad as σ H _ k fun bad1 as1 H1 v s μ1 g1 k1 r1 ⟨h1, h2⟩ => ?_
  refine ⟨isTy_ok k1 r1 h1, h2 bad1 as1 σ H1 _ k1 fun bad2 as2 H2 vs rs μ2 g2 k2 r2 h3 => ?_⟩
  exact hm bad2 as2 σ H2 ρ μ2 s rs v vs P Q k2 (r1.go g2) r2 h3 (p.go (g1.trans g2))
end
/-- a change of the j-th object -/
def chg (s : Sl) (μ : Mu) (f : Nat → List PyData → Prop) : Prop := match s with
  | .obj j => (match μ[j]? with
    | some (some (.lst ds)) => f j ds
    | _ => False)
  | _ => False
def mAppend : MRD := fun s rs μ P => ∃ d, rs = [.dat d] ∧ chg s μ fun j ds => ds.length < sizeLine ∧ P (.dat .none) (μ.set j (some (.lst (ds ++ [d]))))
def mPop : MRD := fun s rs μ P => rs = [] ∧ chg s μ fun j ds => ∃ d, ds[ds.length - 1]? = some d ∧ P (.dat d) (μ.set j (some (.lst ds.dropLast)))
def mPopAt : MRD := fun s rs μ P => ∃ i : Int, rs = [.dat (.int i)] ∧ chg s μ fun j ds => ∃ k d, -(2 ^ 63) ≤ i ∧ i < 2 ^ 63 ∧ seqIndex? i ds.length = some k ∧ ds[k]? = some d ∧ P (.dat d) (μ.set j (some (.lst (ds.eraseIdx k))))
def mReverse : MRD := fun s rs μ P => rs = [] ∧ chg s μ fun j ds => P (.dat .none) (μ.set j (some (.lst ds.reverse)))
def mClear : MRD := fun s rs μ P => rs = [] ∧ chg s μ fun j ds => P (.dat .none) (μ.set j (some (.lst [])))
def mExtend : MRD := fun s rs μ P => ∃ t es, rs = [t] ∧ lstOf μ t = some es ∧ chg s μ fun j ds => ds.length + es.length ≤ sizeLine ∧ P (.dat .none) (μ.set j (some (.lst (ds ++ es))))
section
variable {X : Cx}
theorem chg_at {K : PySem.W.Frag} {bad : Bad} {as : List Addr} {σ : L2.St} {H : Hp} {ρ : Env} {μ : Mu} {s : Sl} {v : V} {f : Nat → List PyData → Prop} (k : SOk K bad as σ H ρ μ) (rv : SRep K bad as H v s) (h : chg s μ f) :
    ∃ j a ws ds, v = .ref a ∧ as[j]? = some a ∧ μ[j]? = some (some (.lst ds)) ∧ H a = some (.lst ws) ∧ Rps K bad H ws ds ∧ f j ds := by
  unfold chg at h
  split at h
  · rename_i j
    split at h
    · rename_i ds e
      obtain ⟨a, ha, ev⟩ := rv
      obtain ⟨_, ws, h1, h2⟩ := k.muts j a _ ha e
      exact ⟨j, a, ws, ds, ev, ha, e, h1, h2, h⟩
    · exact h.elim
  · exact h.elim
theorem post_wr {K : PySem.W.Frag} {bad : Bad} {as : List Addr} {σ : L2.St} {H : Hp} {ρ : Env} {μ : Mu} {P : Sl → Mu → Prop} {Q : VK} (k : SOk K bad as σ H ρ μ) (p : Post K σ ρ bad as H P Q) {j : Nat} {a : Addr} {ds ds' : List PyData} {ws : List V} {d : PyData} {v : V} (ha : as[j]? = some a) (hm : μ[j]? = some (some (.lst ds)))
    (r : Rps K bad H ws ds') (rv : Rp K bad H v d) (h : P (.dat d) (μ.set j (some (.lst ds')))) : Q v (upd H a (.lst ws)) := by
  have g : Go bad as H bad as (upd H a (.lst ws)) := Go.write k ha hm
  exact p.goD g (k.write (m' := .lst ds') ha hm ⟨ws, upd_same, r.step g.keep fun _ z => .inl z⟩) (rv.step g.keep fun _ z => .inl z) h
theorem m_append : MethD X "list.append" mAppend := by
  intro bad as σ H ρ μ s rs v vs P Q k rv r ⟨d, e, h⟩ p
  subst e
  obtain ⟨w, rfl, rw'⟩ := sreps1 r
  obtain ⟨j, a, ws, ds, rfl, ha, hm, h1, h2, hl, q⟩ := chg_at k rv h
  have rw' : Rp X.K bad H w d := rw'
  exact wpM_of mt_append ⟨a, ws, w, rfl, rfl, h1, by rw [h2.length]; exact hl, post_wr k p ha hm (h2.append (.cons rw' .nil)) .non q⟩
theorem m_pop : MethD X "list.pop" mPop := by
  intro bad as σ H ρ μ s rs v vs P Q k rv r ⟨e, h⟩ p
  subst e
  cases r
  obtain ⟨j, a, ws, ds, rfl, ha, hm, h1, h2, d, hd, q⟩ := chg_at k rv h
  rw [← h2.length] at hd
  obtain ⟨y, hy, ry⟩ := h2.get hd
  refine wpM_of mt_pop ⟨a, ws, y, rfl, rfl, h1, hy, post_wr k p ha hm ?_ ry q⟩
  rw [List.dropLast_eq_take, List.dropLast_eq_take, h2.length]
  exact h2.take _
theorem m_popAt : MethD X "list.pop" mPopAt := by
  intro bad as σ H ρ μ s rs v vs P Q k rv r ⟨i, e, h⟩ p
  subst e
  obtain ⟨w, rfl, rw'⟩ := sreps1 r
  obtain ⟨j, a, ws, ds, rfl, ha, hm, h1, h2, n, d, b1, b2, hn, hd, q⟩ := chg_at k rv h
  obtain ⟨y, hy, ry⟩ := h2.get hd
  rw [rw'.dat_int]
  exact wpM_of mt_popAt ⟨a, ws, i, n, y, rfl, rfl, h1, b1, b2, by rw [h2.length]; exact hn, hy, post_wr k p ha hm (h2.eraseIdx n) ry q⟩
theorem m_reverse : MethD X "list.reverse" mReverse := by
  intro bad as σ H ρ μ s rs v vs P Q k rv r ⟨e, h⟩ p
  subst e
  cases r
  obtain ⟨j, a, ws, ds, rfl, ha, hm, h1, h2, q⟩ := chg_at k rv h
  exact wpM_of mt_reverse ⟨a, ws, rfl, rfl, h1, post_wr k p ha hm h2.reverse .non q⟩
theorem m_clear : MethD X "list.clear" mClear := by
  intro bad as σ H ρ μ s rs v vs P Q k rv r ⟨e, h⟩ p
  subst e
  cases r
  obtain ⟨j, a, ws, ds, rfl, ha, hm, h1, h2, q⟩ := chg_at k rv h
  exact wpM_of mt_clear ⟨a, ws, rfl, rfl, h1, post_wr k p ha hm .nil .non q⟩
theorem m_extend : MethD X "list.extend" mExtend := by
  intro bad as σ H ρ μ s rs v vs P Q k rv r ⟨t, es, e, ht, h⟩ p
  subst e
  obtain ⟨w, rfl, rw'⟩ := sreps1 r
  obtain ⟨j, a, ws, ds, rfl, ha, hm, h1, h2, hl, q⟩ := chg_at k rv h
  obtain ⟨b, ys, rfl, hb, rb⟩ := lst_at k rw' ht
  exact wpM_of mt_extend ⟨a, b, ws, ys, rfl, rfl, h1, hb, by rw [h2.length, rb.length]; exact hl, post_wr k p ha hm (h2.append rb) .non q⟩
end
def mSplit : MRD := fun s rs μ P => ∃ a b, s = .dat (.str a) ∧ rs = [.dat (.str b)] ∧ (b.length == 0) = false ∧ a.length + 2 ≤ sizeLine ∧ P (.obj μ.length) (μ ++ [some (.lst ((Txt.split a b).map PyData.str))])
def mJoin : MRD := fun s rs μ P => ∃ a t ys, s = .dat (.str a) ∧ rs = [t] ∧ seqOf μ t = some (ys.map PyData.str) ∧ (ys.map (·.length)).sum + ys.length * a.length ≤ 16777216 ∧ P (.dat (.str (Txt.join a ys))) μ
def mStarts : MRD := fun s rs μ P => ∃ a b, s = .dat (.str a) ∧ rs = [.dat (.str b)] ∧ P (.dat (.bool (Txt.startswith a b))) μ
def mEnds : MRD := fun s rs μ P => ∃ a b, s = .dat (.str a) ∧ rs = [.dat (.str b)] ∧ P (.dat (.bool (Txt.endswith a b))) μ
def mPart : MRD := fun s rs μ P => ∃ a b, s = .dat (.str a) ∧ rs = [.dat (.str b)] ∧ (b.length == 0) = false ∧ a.length ≤ sizeLine ∧ P (.dat (.tuple [.str (Txt.partition a b).1, .str (Txt.partition a b).2.1, .str (Txt.partition a b).2.2])) μ
section
variable {X : Cx} {K : PySem.W.Frag} {bad : Bad} {H : Hp}
theorem strs_rep : ∀ {bs : List Str} {vs : List V}, Rps K bad H vs (bs.map PyData.str) → vs = bs.map V.str
  | [], _, .nil => rfl
  | b :: bs, _, .cons r t => by
    cases r
    rw [strs_rep t]
    rfl
theorem rep_strs : ∀ {bs : List Str}, Rps K bad H (bs.map V.str) (bs.map PyData.str)
  | [] => .nil
  | b :: bs => .cons (.str b) rep_strs
theorem m_split : MethD X "str.split" mSplit := by
  intro bad as σ H ρ μ s rs v vs P Q k rv r ⟨a, b, e1, e2, h1, h2, q⟩ p
  subst e1 e2
  obtain ⟨w, rfl, rw'⟩ := sreps1 r
  rw [rv.dat_str, rw'.dat_str]
  exact wpM_of mt_split ⟨a, b, rfl, rfl, h1, h2, post_new k p rep_strs q⟩
theorem m_join : MethD X "str.join" mJoin := by
  intro bad as σ H ρ μ s rs v vs P Q k rv r ⟨a, t, ys, e1, e2, h1, h2, q⟩ p
  subst e1 e2
  obtain ⟨w, rfl, rw'⟩ := sreps1 r
  rw [rv.dat_str]
  obtain ⟨b, ws, rfl, hb, rb⟩ := seq_at k rw' h1
  have := strs_rep rb
  subst this
  exact wpM_of mt_join ⟨a, b, ys, rfl, rfl, hb, h2, p.nowD k (.str _) q⟩
theorem m_starts : MethD X "str.startswith" mStarts := by
  intro bad as σ H ρ μ s rs v vs P Q k rv r ⟨a, b, e1, e2, q⟩ p
  subst e1 e2
  obtain ⟨w, rfl, rw'⟩ := sreps1 r
  rw [rv.dat_str, rw'.dat_str]
  exact wpM_of mt_startswith ⟨a, b, rfl, rfl, p.nowD k (.bl _) q⟩
theorem m_ends : MethD X "str.endswith" mEnds := by
  intro bad as σ H ρ μ s rs v vs P Q k rv r ⟨a, b, e1, e2, q⟩ p
  subst e1 e2
  obtain ⟨w, rfl, rw'⟩ := sreps1 r
  rw [rv.dat_str, rw'.dat_str]
  exact wpM_of mt_endswith ⟨a, b, rfl, rfl, p.nowD k (.bl _) q⟩
theorem m_part : MethD X "str.partition" mPart := by
  intro bad as σ H ρ μ s rs v vs P Q k rv r ⟨a, b, e1, e2, h1, h2, q⟩ p
  subst e1 e2
  obtain ⟨w, rfl, rw'⟩ := sreps1 r
  rw [rv.dat_str, rw'.dat_str]
  exact wpM_of mt_partition ⟨a, b, rfl, rfl, h1, h2, post_tup k p (.cons (.str _) (.cons (.str _) (.cons (.str _) .nil))) q⟩
end
end Dv

set_option maxRecDepth 100000
set_option maxHeartbeats 4000000
namespace Dv
open PySem PySem.Spec PyProof.Rows L2

/-! ### int(t, 10) -/
open PySem.Calls PySem.NumText PySem.W in
theorem ten_gives {x : PySem.Str} {u t : Tok} {n : Int} (fits : x.length ≤ 640) (hn : PySem.intText? x = some n) : Gives (Builtin.«int.__new__» ⟨[.type "int", .str x u, .int 10 t], []⟩) (.int n) := .of_wp fun M A E s Q hQ => by
  obtain ⟨hp, g, d, tk, os⟩ := s; have f1 := F.conv_sub_int; have f2 := F.madeHere_int; have f6 : typeOf (.str x u) = pure (.type "str") := rfl
  have small : (numSeenOf x).length ≤ 640 := Nat.le_trans (seen_length x) fits
  have told : (int_private% "readNumeral") 0 10 (numSeenOf x) = (int_private% "Numeral.value") n ∧ ((numSeenOf x).length == (numTextOf x).length) = true := by
    obtain ⟨m, e1, e2, e3⟩ | ⟨e1, _⟩ := read0 x small
    · rw [hn] at e1; obtain rfl := Option.some.inj e1; exact ⟨e3, e2⟩
    · rw [hn] at e1; exact nomatch e1
  have both := Hx.Hid.mk (And.intro small told); clear small told fits hn
  repeat (any_goals (first | assumption | ((with_reducible show wpAny _ _ ((int_private% "intFromText") _ _ _) _ _ _); refine Hx.wp_textB both.out.1 both.out.2.1 both.out.2.2 ?_) | wp_step))
  all_goals first | exact ⟨_, rfl, hQ⟩ | skip
def dInt10 : CRD := fun rs μ P => ∃ a n, rs = [.dat (.str a), .dat (.int 10)] ∧ PySem.intText? a = some n ∧ a.length ≤ 640 ∧ P (.dat (.int n)) μ
theorem k_int10 {X : Cx} : CallD X (.type "int") dInt10 := by
  rintro bad as σ H ρ μ rs vs P Q k r ⟨a, n, rfl, hn, hl, q⟩ p
  obtain ⟨v, w, rfl, rv, rw'⟩ := sreps2 r
  rw [rv.dat_str, rw'.dat_int]
  intro pins s σ1 us I rs
  obtain ⟨u, w', rfl, ⟨t1, rfl⟩, ⟨t2, rfl⟩⟩ := vals2 rs
  exact callType_new F.called_int F.newNe_int (Hx.typeCall_int_2 _ _) (Hx.newCall_int_2 _ _) (fun obj => F.initArgs_range_2 obj _ _) F.entry_int_new (ten_gives hl hn).meets ⟨rfl, .int n, H, I.tok _, ⟨_, rfl⟩, p.nowD k (.int _) q⟩

/-! ### a, *b = .. -/
section
variable {prog : Program} {w : World} {A : Around} {E : Value → Shared → Prop} {s : Shared} {l : Addr} {items : Array Value} {n i : Nat} {Q : List Value → Shared → Prop}
theorem star_end {h₂ : Heap} {tk : Nat} (hi : i < n) (hn : n ≤ items.size + 1) (hz : items.size ≤ 16384) (kp : ∀ b o, s.heap.get? b = some o → h₂.get? b = some o)
    (h : ∀ (h₂ : Heap) tk, (∀ b o, s.heap.get? b = some o → h₂.get? b = some o) → Q (items.toList.take i ++ [.ref h₂.objs.size] ++ (items.toList.drop i).drop (items.size + 1 - n)) { s with heap := h₂.push { cls := .type "list", data := .seq ((items.toList.drop i).take (items.size + 1 - n)).toArray }, toks := tk }) (c : Sem (List Value)) :
    wpAny (model prog w) A (if (items.toList.drop i).length < n - 1 - i then c else (newList ((items.toList.drop i).take ((items.toList.drop i).length - (n - 1 - i))) >>= fun d => pure (items.toList.take i ++ [d] ++ (items.toList.drop i).drop ((items.toList.drop i).length - (n - 1 - i))))) Q E { s with heap := h₂, toks := tk } := by
  have lq : (items.toList.drop i).length = items.size - i := by rw [List.length_drop, Array.length_toList]
  have e1 : (items.toList.drop i).length - (n - 1 - i) = items.size + 1 - n := by rw [lq]; omega
  rw [if_neg (by rw [lq]; omega), e1]
  exact wpAny_bind (wpAny_newList (wpAny_pure (h _ tk kp)) (by rw [List.length_take, lq, sizeLine_eq]; omega))
theorem star_list (hh : A.handled = none) (hl : s.heap.IsList l items) (hi : i < n) (hn : n ≤ items.size + 1) (hz : items.size ≤ 16384)
    (h : ∀ (h₂ : Heap) tk, (∀ b o, s.heap.get? b = some o → h₂.get? b = some o) → Q (items.toList.take i ++ [.ref h₂.objs.size] ++ (items.toList.drop i).drop (items.size + 1 - n)) { s with heap := h₂.push { cls := .type "list", data := .seq ((items.toList.drop i).take (items.size + 1 - n)).toArray }, toks := tk }) : wpAny (model prog w) A (unpackItems (.ref l) n (some i)) Q E s := by
  have lp : (items.toList.take i).length = i := by rw [List.length_take, Array.length_toList]; omega
  have ne : l ≠ s.heap.objs.size := by obtain ⟨o, ho, _⟩ := hl; exact Nat.ne_of_lt (Heap.lt_size ho)
  unfold unpackItems notIterableAtAll; refine wpAny_bind (wpAny_bind (wpAny_specialOf hl.typeIs slot_list_iter.lookup (wpAny_pure ?_)))
  simp only [Bool.false_eq_true, if_false]; refine wpAny_bind (wpAny_holding (wpAny_pyIter_list hl (wpAny_bind (wpAny_holding ?_))))
  refine PySem.W.kun_draw ne i 0 _ _ ⟨_, Heap.get?_push_size _ rfl, rfl, rfl⟩ (hl.push _) (by omega) fun h₁ it1 sm => ?_
  have l1 : h₁.IsList l items := (hl.push _).extBut sm.extBut ne
  rw [Nat.zero_add] at it1; rw [List.drop_zero, if_neg (show ¬ ((items.toList.take i).length < i) by rw [lp]; omega)]
  obtain ⟨oi, hoi, _⟩ := id it1; obtain ⟨ol, hol, _⟩ := id l1
  refine wpAny_bind (wpAny_holding (PySem.W.kun_collect (s := { s with heap := h₁ }) (T := "list_iterator") (by simp) (Walks.list (A := A.in1) hh s.heap.objs.size l ne items) (fun j u st => st.1.typeIs) (k := i) (by omega) ⟨it1, l1⟩ (Heap.lt_size hoi) (Heap.lt_size hol) (fun h₂ tk hk => ?_) (by rw [sizeLine_eq]; omega)))
  exact star_end hi hn hz (fun b o e => hk b o (Nat.ne_of_lt (Heap.lt_size e)) (sm.extBut b o (Nat.ne_of_lt (Heap.lt_size e)) (Heap.get?_push_of_some _ e))) h _
theorem star_tup (hh : A.handled = none) (hl : IsTup s.heap l items) (hi : i < n) (hn : n ≤ items.size + 1) (hz : items.size ≤ 16384)
    (h : ∀ (h₂ : Heap) tk, (∀ b o, s.heap.get? b = some o → h₂.get? b = some o) → Q (items.toList.take i ++ [.ref h₂.objs.size] ++ (items.toList.drop i).drop (items.size + 1 - n)) { s with heap := h₂.push { cls := .type "list", data := .seq ((items.toList.drop i).take (items.size + 1 - n)).toArray }, toks := tk }) : wpAny (model prog w) A (unpackItems (.ref l) n (some i)) Q E s := by
  have lp : (items.toList.take i).length = i := by rw [List.length_take, Array.length_toList]; omega
  have ne : l ≠ s.heap.objs.size := by obtain ⟨o, ho, _⟩ := hl; exact Nat.ne_of_lt (Heap.lt_size ho)
  unfold unpackItems notIterableAtAll; refine wpAny_bind (wpAny_bind (wpAny_specialOf hl.typeIs slot_tuple_iter.lookup (wpAny_pure ?_)))
  simp only [Bool.false_eq_true, if_false]; refine wpAny_bind (wpAny_holding (iter_tuple hl (wpAny_bind (wpAny_holding ?_))))
  refine draw_tuple ne i 0 _ _ ⟨_, Heap.get?_push_size _ rfl, rfl, rfl⟩ (hl.push _) (by omega) fun h₁ it1 sm => ?_
  have l1 : IsTup h₁ l items := (hl.push _).extBut sm.extBut ne
  rw [Nat.zero_add] at it1; rw [List.drop_zero, if_neg (show ¬ ((items.toList.take i).length < i) by rw [lp]; omega)]
  obtain ⟨oi, hoi, _⟩ := id it1; obtain ⟨ol, hol, _⟩ := id l1
  refine wpAny_bind (wpAny_holding (PySem.W.kun_collect (s := { s with heap := h₁ }) (T := "tuple_iterator") (by simp) (Walks.tuple (A := A.in1) hh s.heap.objs.size l ne items) (fun j u st => st.1.typeIs) (k := i) (by omega) ⟨it1, l1⟩ (Heap.lt_size hoi) (Heap.lt_size hol) (fun h₂ tk hk => ?_) (by rw [sizeLine_eq]; omega)))
  exact star_end hi hn hz (fun b o e => hk b o (Nat.ne_of_lt (Heap.lt_size e)) (sm.extBut b o (Nat.ne_of_lt (Heap.lt_size e)) (Heap.get?_push_of_some _ e))) h _
end
theorem vals_take {n : Nat} : ∀ {vs : List V} {us : List Value}, Vals vs us → Vals (vs.take n) (us.take n) := by
  induction n with
  | zero => exact fun _ => .nil
  | succ n ih =>
    intro vs us r
    cases r with
    | nil => exact .nil
    | cons r t => exact .cons r (ih t)
theorem vals_drop {n : Nat} : ∀ {vs : List V} {us : List Value}, Vals vs us → Vals (vs.drop n) (us.drop n) := by
  induction n with
  | zero => exact fun r => r
  | succ n ih =>
    intro vs us r
    cases r with
    | nil => exact .nil
    | cons r t => exact ih t
def starD (ds : List PyData) (n i : Nat) : List PyData := ds.take i ++ [.list ((ds.drop i).take (ds.length + 1 - n))] ++ (ds.drop i).drop (ds.length + 1 - n)
section
variable {X : Cx} {ρ : Env} {μ : Mu} {js : List Nat} {pos : Pos} {es : List Expr} {ds : List PyData} {P : Env → Mu → Prop} {e : Expr}
theorem ags_star {p : Pos} (h : Ags X (e :: es) js ds ρ μ P) (hs : (assignEach (.Starred e p :: es) X.env).map (·.2) = (assignEach (e :: es) X.env).map (·.2) := by rfl) : Ags X (.Starred e p :: es) js ds ρ μ P := fun bad as σ H vs Q k r q pins s us I rv => by
  rw [hs]
  exact h bad as σ H vs Q k r q pins s us I rv
theorem ag_star {kk : Nat} {s : Sl} (i : Nat) (hc : X.calm = true) (hs : seqOf μ s = some ds) (hz : ds.length ≤ 16384) (hl : es.length ≤ ds.length + 1) (h : Ags X es js (starD ds es.length i) ρ μ P)
    (hi : i < es.length := by decide) (hn : (assignEach es X.env).length = es.length := by rfl) (hst : (assignEach es X.env).findIdx? (·.1) = some i := by rfl) : Ag X (.Tuple es kk pos) js s ρ μ P := fun bad as σ H v Q k r q pins s1 u I rv => by
  obtain ⟨a, xs, rfl, ha, ra⟩ := seq_at k r hs
  cases rv
  obtain ⟨its, rx, ht, hz1⟩ : ∃ its : List Value, Vals xs its ∧ (s1.heap.IsList a its.toArray ∨ IsTup s1.heap a its.toArray) ∧ xs.length ≤ sizeLine := by
    rcases ha with ha | ha
    · obtain ⟨its, r1, r2, r3⟩ := I.list ha; exact ⟨its, r1, .inl r2.isList, r3⟩
    · obtain ⟨its, r1, r2, r3⟩ := I.tuple ha; exact ⟨its, r1, .inr r2, r3⟩
  have l1 : its.toArray.size = ds.length := by rw [List.size_toArray, ← rx.length, ra.length]
  have go : ∀ (h₂ : Heap) tk, (∀ b o, s1.heap.get? b = some o → h₂.get? b = some o) → wpAny (model X.prog X.w) X.A (assignInOrder ((assignEach es X.env).map (·.2)) (its.toArray.toList.take i ++ [.ref h₂.objs.size] ++ (its.toArray.toList.drop i).drop (its.toArray.size + 1 - es.length))) (fun _ s' => ∃ σ' H', Inv X pins σ' H' s' ∧ Q σ' H') X.xe
      { s1 with heap := h₂.push { cls := .type "list", data := .seq ((its.toArray.toList.drop i).take (its.toArray.size + 1 - es.length)).toArray }, toks := tk } := fun h₂ tk kp => by
    rw [l1]
    have I2 : Inv X pins σ H { s1 with heap := h₂, toks := tk } := I.kept kp
    have hp : H h₂.objs.size = none := I2.hok.fresh (Nat.le_refl _)
    have rm : Vals ((xs.drop i).take (ds.length + 1 - es.length)) ((its.toArray.toList.drop i).take (ds.length + 1 - es.length)) := vals_take (vals_drop rx)
    have I3 := I2.laid (t' := tk) (o := .lst ((xs.drop i).take (ds.length + 1 - es.length))) (h' := h₂.push { cls := .type "list", data := .seq ((its.toArray.toList.drop i).take (ds.length + 1 - es.length)).toArray }) (fun b o e => Heap.get?_push_of_some _ e) (Nat.le_refl _) ⟨by
      have := xs.length_drop (i := i)
      rw [List.length_take]
      omega, _, 0, rm, Heap.get?_push_size _ rfl⟩
    have k1 : SOk X.K bad as σ (upd H h₂.objs.size (.lst ((xs.drop i).take (ds.length + 1 - es.length)))) ρ μ := k.alloc hp
    have g1 : Go bad as H bad as (upd H h₂.objs.size (.lst ((xs.drop i).take (ds.length + 1 - es.length)))) := Go.alloc hp
    have r1 := ra.go g1
    have rn : Rp X.K bad (upd H h₂.objs.size (.lst ((xs.drop i).take (ds.length + 1 - es.length)))) (.ref h₂.objs.size) (.list ((ds.drop i).take (ds.length + 1 - es.length))) := .lst (upd_same ..) (k.nbad hp) ((r1.drop i).take _)
    refine h bad as σ _ (xs.take i ++ [.ref h₂.objs.size] ++ (xs.drop i).drop (ds.length + 1 - es.length)) _ k1 (((r1.take i).append (.cons rn .nil)).append ((r1.drop i).drop _)) (fun bad' as' σ' H' ρ' μ' g k' st p => q bad' as' σ' H' ρ' μ' (g1.trans g) k' st p) pins _ _ I3 ?_
    exact ((vals_take rx).append (.cons (show L2.RelV (.ref h₂.objs.size) (.ref h₂.objs.size) from rfl) .nil)).append (vals_drop (vals_drop rx))
  have e0 : assign (.Tuple es kk pos) X.env (.ref a) = (do standAt pos; unpack (.ref a) (assignEach es X.env)) := by rw [PyProof.Rows.assign_Tuple] <;> rfl
  rw [e0]
  refine wpAny_bind (wpAny_standAt ?_)
  unfold unpack
  rw [hn, hst]
  refine wpAny_bind (wpAny_holding ?_)
  rcases ht with ht | ht
  · exact star_list (I.ok.hd hc) ht hi (by omega) (by omega) go
  · exact star_tup (I.ok.hd hc) ht hi (by omega) (by omega) go
end

/-! ### len(set(a)) of whole numbers -/
theorem ints_rep {K : PySem.W.Frag} {bad : Bad} {H : Hp} : ∀ {ns : List Int} {vs : List V}, Rps K bad H vs (ns.map PyData.int) → vs = ns.map V.int
  | [], _, .nil => rfl
  | b :: bs, _, .cons r t => by
    cases r
    rw [ints_rep t]
    rfl
theorem ev_lenSet {X : Cx} {ρ : Env} {μ : Mu} {P : Sl → Mu → Prop} {a : Expr} {p p2 q pos : Pos} (hm : X.mg "len" = none) (hm2 : X.mg "set" = none) (hc : X.calm = true) (h : Ev X a ρ μ fun r μ1 => ∃ ns : List Int, lstOf μ1 r = some (ns.map PyData.int) ∧ ns.length ≤ 4000 ∧ P (.dat (.int ((firstMet (fun i => ns.getD i 0) ns.length).length : Nat))) μ1)
    (hg : Gl X "len" := by rfl) (hg2 : Gl X "set" := by rfl) (na : starEach [a] X.env = (false, eval a X.env) :: starEach [] X.env := by rfl) : Ev X (.Call (.Name "len" p) [.Call (.Name "set" p2) [a] [] q] [] pos) ρ μ P := fun bad as σ H Q k pp pins s I => by
  refine Call_ (ld_blt I hg hm boot_len (PyProof.Rows.callWith_builtin1 (PyProof.Rows.args_cons ?_ rfl) rfl rfl))
  refine Call_ (ld_blt I hg2 hm2 boot_set (PyProof.Rows.callWith_type1 (PyProof.Rows.args_cons (thn (h bad as σ H (fun v H1 => ∃ (l : Addr) (ns : List Int), v = .ref l ∧ SqL X.K H1 l (ns.map V.int) ∧ ns.length ≤ 4000 ∧ Q (.int ((firstMet (fun i => ns.getD i 0) ns.length).length : Nat)) H1) k (fun bad1 as1 H1 v r μ1 g1 k1 r1 ⟨ns, hl, hz, q1⟩ => ?_) pins s I) fun v s1 ⟨x, H1, I1, r1, l, ns, e, hq, hl, q1⟩ => PyProof.Rows.args_nil ?_) na) na rfl))
  · obtain ⟨a, ws, rfl, ha, ra⟩ := lst_at k1 r1 hl
    have ew : ws = ns.map V.int := ints_rep ra
    subst ew
    exact ⟨a, ns, rfl, SqL.of ha, hz, (pp.go g1).nowD k1 (.int _) q1⟩
  subst e
  cases r1
  obtain ⟨its, r, pl, hz⟩ := I1.list hq
  have hlen : its.toArray.size = ns.length := by rw [List.size_toArray, ← r.length, List.length_map]
  refine call_set_list (I1.ok.hd hc) pl.isList (by simpa using RZ.intsAre_vals r) (by rw [hlen]; unfold scanBound; omega) fun h' tk hS hk => PyProof.Rows.args_nil ?_
  rw [hlen] at hS
  obtain ⟨o, es, ep, t, ho, hex, hd, _, _, _, hf, hn⟩ := hS
  have fm : ∀ n, (firstMet (fun i => ns.getD i 0) n).length ≤ n := fun n => by
    induction n with
    | zero => exact Nat.le_refl _
    | succ n ih =>
      rw [PyProof.Rows.firstMet_succ]
      show List.length (if _ then _ else _) ≤ _
      split
      · omega
      · rw [List.length_append]; exact Nat.succ_le_succ ih
  have fm := fm ns.length
  exact call_len_set ho hex hd hf (by rw [hn] <;> omega) ⟨.int ((firstMet (fun i => ns.getD i 0) ns.length).length : Nat), H1, (I1.kept fun b o e => hk b o (Heap.lt_size e) e : Inv X pins σ H1 { s1 with heap := h', toks := tk }).tok _, ⟨_, by rw [hn]⟩, q1⟩

/-! ### xs[::e], e 1 or -1 -/
theorem step_one (items : Array Value) : slicePick items none none (some 1) = items := by
  have e := slicePick_all items
  unfold slicePick at e ⊢
  rw [show sliceBounds none none (some 1) items.size = sliceBounds none none none items.size by simp [sliceBounds]]
  exact e
theorem ev_step {X : Cx} {ρ : Env} {μ : Mu} {P : Sl → Mu → Prop} {a e : Expr} {p3 pos : Pos} (h : Ev X a ρ μ fun r μ1 => Ev X e ρ μ1 fun t μ2 => ∃ ds, lstOf μ2 r = some ds ∧ ((t = .dat (.int 1) ∧ P (.obj μ2.length) (μ2 ++ [some (.lst ds)])) ∨ (t = .dat (.int (-1)) ∧ P (.obj μ2.length) (μ2 ++ [some (.lst ds.reverse)])))) : Ev X (.Subscript a (.Slice none none (some e) p3) pos) ρ μ P := fun bad as σ H Q k pp pins s I => by
  refine Subscript_ (thn (h bad as σ H (fun v H1 => ∃ bad1 as1 r μ1, Go bad as H bad1 as1 H1 ∧ SOk X.K bad1 as1 σ H1 ρ μ1 ∧ SRep X.K bad1 as1 H1 v r ∧ Ev X e ρ μ1 fun t μ2 => ∃ ds, lstOf μ2 r = some ds ∧ ((t = .dat (.int 1) ∧ P (.obj μ2.length) (μ2 ++ [some (.lst ds)])) ∨ (t = .dat (.int (-1)) ∧ P (.obj μ2.length) (μ2 ++ [some (.lst ds.reverse)])))) k (fun bad1 as1 H1 v r μ1 g1 k1 r1 q1 => ⟨bad1, as1, r, μ1, g1, k1, r1, q1⟩) pins s I) fun v s1 ⟨x, H1, I1, rx, bad1, as1, r, μ1, g1, k1, r1, q1⟩ => ?_)
  have hst : PO X (some e) (tPart (wpE X e)) := po_some wpE_pe
  refine wpAny_Slice (thn (po_none.run pins s1 σ H1 (fun o H2 => o = none ∧ H2 = H1) I1 ⟨rfl, rfl⟩) fun vl s2 ⟨l, H2, I2, pl, el, e2⟩ => ?_)
  subst el e2
  refine thn (po_none.run pins s2 σ H2 (fun o H3 => o = none ∧ H3 = H2) I2 ⟨rfl, rfl⟩) fun vu s3 ⟨u, H3, I3, pu, eu, e3⟩ => ?_
  subst eu e3
  refine thn (hst.run pins s3 σ H3 (fun o H4 => ∃ a' : Addr, x = .ref a' ∧ ∃ (ws : Int) (ys : List V), o = some ws ∧ (ws = 1 ∨ ws = -1) ∧ SqL X.K H4 a' ys ∧ ∀ p, H4 p = none → Q (.ref p) (upd H4 p (.lst (if ws = 1 then ys else ys.reverse)))) I3 ?_) fun vs s4 ⟨o, H4, I4, ps, qq⟩ => ?_
  · refine q1 bad1 as1 σ H3 _ k1 fun bad2 as2 H4 vt t μ2 g2 k2 r2 ⟨ds, hl, q2⟩ => ?_
    obtain ⟨a', ws, rfl, ha, ra⟩ := lst_at k2 (r1.go g2) hl
    rcases q2 with ⟨rfl, q2⟩ | ⟨rfl, q2⟩
    · rw [r2.dat_int]
      exact ⟨1, rfl, a', rfl, 1, ws, rfl, .inl rfl, SqL.of ha, post_new k2 ((pp.go g1).go g2) ra q2⟩
    · rw [r2.dat_int]
      exact ⟨-1, rfl, a', rfl, -1, ws, rfl, .inr rfl, SqL.of ha, post_new k2 ((pp.go g1).go g2) ra.reverse q2⟩
  obtain ⟨a', rfl, i, ys, rfl, hi, hx, q⟩ := qq
  cases rx
  have I5 : Inv X pins σ H4 { s4 with heap := s4.heap.push { cls := .type "slice", data := .fields #[vl, vu, vs] } } := I4.kept (t' := s4.toks) fun b ob q => Heap.get?_push_of_some _ q
  obtain ⟨its, r, pt, hz⟩ := I5.list hx
  have hlen := r.length
  show wpAny (model X.prog X.w) X.A (subscriptTail a (.Slice none none (some e) p3) (.ref a') (.ref s4.heap.objs.size)) (EP X pins σ Q) X.xe _
  refine tail_any (ops := [.ref a', .ref s4.heap.objs.size]) pt.isList.typeIs (PySem.slot_list_getitem.lookup) ?_ (by with_unfolding_all rfl)
  refine wpAny_getItem_list_slice pt.isList (Heap.IsSliceOf.new _ vl vu vs) pl pu ps (by intro z; rcases hi with rfl | rfl <;> exact absurd (Option.some.inj z) (by decide)) ?_ (by rw [List.size_toArray]; omega)
  have new : ∀ (zs : List V) (it2 : List Value), zs.length ≤ sizeLine → Vals zs it2 → (∀ p, H4 p = none → Q (.ref p) (upd H4 p (.lst zs))) → EP X pins σ Q (.ref (s4.heap.push { cls := .type "slice", data := .fields #[vl, vu, vs] }).objs.size)
      { s4 with heap := (s4.heap.push { cls := .type "slice", data := .fields #[vl, vu, vs] }).push { cls := .type "list", data := .seq it2.toArray } } := fun zs it2 z1 z2 z3 =>
    ⟨.ref _, _, I5.laid (t' := s4.toks) (o := .lst zs) (fun b ob q => Heap.get?_push_of_some _ q) (Nat.le_refl _) ⟨z1, _, 0, z2, Heap.get?_push_size _ rfl⟩, rfl, z3 _ (I5.hok.fresh (Nat.le_refl _))⟩
  rcases hi with rfl | rfl
  · rw [step_one]
    exact new ys its hz r q
  · rw [PySem.W.krv_pick]
    exact new ys.reverse _ (by rw [List.length_reverse]; exact hz) r.reverse q
end Dv

set_option maxRecDepth 100000
set_option maxHeartbeats 4000000
namespace Dv
open PySem PySem.Spec PyProof.Rows L2

/-! ### two clauses: the second walks a tuple -/
section
variable {X : Cx} {S : Snap} {ρ : Env} {μ : Mu} {P : Sl → Mu → Prop} {pos : Pos} {elt tg iter tg1 iter1 : Expr} {scope : Scope}
def Lc2D (X : Cx) (scope : Scope) (tg tg1 iter1 elt : Expr) (js vs js1 vs1 : List Nat) (ρ : Env) (P : Sl → Mu → Prop) (ds : List PyData) (μ1 : Mu) : Prop :=
  ∃ (f : PyData → List PyData) (g : PyData → PyData), (ds.flatMap fun d => (f d).map g).length ≤ sizeLine ∧
    (∀ d ∈ ds, ∀ acc, AgB X scope tg js (.dat d) (wipeE ρ vs) (μ1 ++ [some (.lst acc)]) fun ρ2 μ2 => μ2 = μ1 ++ [some (.lst acc)] ∧ EvB X scope iter1 ρ2 μ2 fun r μ3 => μ3 = μ1 ++ [some (.lst acc)] ∧ r = .dat (.tuple (f d)) ∧
      ∀ e ∈ f d, ∀ acc', AgB X scope tg1 js1 (.dat e) (wipeE ρ2 vs1) (μ1 ++ [some (.lst acc')]) fun ρ3 μ4 => EvB X scope elt ρ3 μ4 fun r μ5 => r = .dat (g e) ∧ μ5 = μ1 ++ [some (.lst acc')]) ∧
    P (.obj μ1.length) (μ1 ++ [some (.lst (ds.flatMap fun d => (f d).map g))])
theorem same_as {bad bad' : Bad} {as as' : List Addr} {H H' : Hp} (g : Go bad as H bad' as' H') (h : as'.length = as.length) : as' = as := by
  obtain ⟨t, e⟩ := g.pre
  rw [e, List.length_append] at h
  rw [e, List.eq_nil_of_length_eq_zero (show t.length = 0 by omega), List.append_nil]
theorem lc2_read {wi : TI} {js vs js1 vs1 : List Nat} (hjs : ∀ j ∈ js, j ∈ vs) (hjs1 : ∀ j ∈ js1, j ∈ vs1) {bad : Bad} {as : List Addr} {σ : L2.St} {H : Hp} {Q : VK} (k : SOk X.K bad as σ H ρ μ)
    (hw : ∀ bad as σ H R, SOk X.K bad as σ H ρ μ → (∀ bad' as' H' J ds μ', Go bad as H bad' as' H' → SOk X.K bad' as' σ H' ρ μ' → Wk X.K J bad' H' ds → Lc2D X scope tg tg1 iter1 elt js vs js1 vs1 ρ P ds μ' → R J H') → wi σ H R)
    (p : Post X.K σ ρ bad as H P Q) : tLc2 wi (wpGB X scope tg) tYes (iTup X.K (wpEB X scope iter1)) (wpGB X scope tg1) tYes (wpEB X scope elt) vs vs1 σ H Q := by
  refine hw bad as σ H _ k fun bad1 as1 H1 J ds μ1 g1 k1 W ⟨f, g, hz, turn, fin⟩ => ?_
  intro L hL
  have la1 := k1.la
  have k0 : SOk X.K (bad1.add L) (as1 ++ [L]) (wipe σ vs) (upd H1 L (.lst [])) (wipeE ρ vs) (μ1 ++ [some (.lst [])]) := (new_lst k1 hL (vs := []) .nil).1.wipe
  have g0 : Go bad1 as1 H1 (bad1.add L) (as1 ++ [L]) (upd H1 L (.lst [])) := Go.push hL
  have haL : (as1 ++ [L])[as1.length]? = some L := by rw [List.getElem?_append_right (Nat.le_refl _), Nat.sub_self]; rfl
  have hm : ∀ acc, (μ1 ++ [some (MO.lst acc)])[as1.length]? = some (some (.lst acc)) := fun acc => by
    rw [List.getElem?_append_right (by omega), show as1.length - μ1.length = 0 by omega]; rfl
  have em : ∀ acc acc', (μ1 ++ [some (MO.lst acc)]).set as1.length (some (.lst acc')) = μ1 ++ [some (.lst acc')] := fun acc acc' => by
    rw [List.set_append_right _ _ (by omega), show as1.length - μ1.length = 0 by omega]; rfl
  have sameL : ∀ {bad2 bad3 : Bad} {as3 : List Addr} {H2 H3 : Hp} {σ3 : L2.St} {ρ3 : Env} {acc : List PyData}, Go bad2 (as1 ++ [L]) H2 bad3 as3 H3 → SOk X.K bad3 as3 σ3 H3 ρ3 (μ1 ++ [some (.lst acc)]) → as3 = as1 ++ [L] := fun g k => same_as g (by have := k.la; rw [List.length_append] at this ⊢; simp only [List.length_cons, List.length_nil] at this ⊢; omega)
  let F : Nat → List PyData := fun i => (ds.take i).flatMap fun d => (f d).map g
  have Fle : ∀ i (hi : i < ds.length) j, j < (f ds[i]).length → (F i ++ ((f ds[i]).take j).map g).length < sizeLine := fun i hi j hj => by
    have e : ds.flatMap (fun d => (f d).map g) = F i ++ ((f ds[i]).map g ++ (ds.drop (i + 1)).flatMap fun d => (f d).map g) := by
      conv => lhs; rw [← List.take_append_drop i ds, List.flatMap_append, List.drop_eq_getElem_cons hi, List.flatMap_cons]
    rw [e] at hz
    simp only [List.length_append, List.length_map, List.length_take] at hz ⊢
    omega
  refine ⟨fun i m H2 => m = ds.length - i ∧ i ≤ ds.length ∧ ∃ bad2, Go bad1 as1 H1 bad2 (as1 ++ [L]) H2 ∧ SOk X.K bad2 (as1 ++ [L]) (wipe σ vs) H2 (wipeE ρ vs) (μ1 ++ [some (.lst (F i))]), ⟨ds.length, by omega, Nat.zero_le _, _, g0, k0⟩, ?_⟩
  rintro i m H2 ⟨rfl, hi', bad2, g2, k2⟩
  by_cases hlt : i < ds.length
  · have hd : ds[i]? = some ds[i] := List.getElem?_eq_getElem hlt
    obtain ⟨go, yld⟩ := W.go bad2 H2 i ds[i] g2.keep g2.new hd
    refine .inr ⟨go, fun H3 => ∃ bad2, Go bad1 as1 H1 bad2 (as1 ++ [L]) H3 ∧ SOk X.K bad2 (as1 ++ [L]) (wipe σ vs) H3 (wipeE ρ vs) (μ1 ++ [some (.lst (F (i + 1)))]), fun H3 q => ⟨ds.length - (i + 1), by omega, rfl, hlt, q⟩, fun x H3 y => ?_⟩
    obtain ⟨st, rx⟩ := yld x H3 y
    have g3 : Go bad2 (as1 ++ [L]) H2 bad2 (as1 ++ [L]) H3 := st.go
    have k3 := st.ok k2
    intro s0 H0 C cl fp
    refine turn ds[i] (List.getElem_mem hlt) _ s0 H0 C cl fp bad2 (as1 ++ [L]) _ H3 x _ k3 rx fun bad4 as4 σ4 H4 ρ4 μ4 g4 k4 st4 ⟨e4, h4⟩ => ?_
    subst e4
    refine ⟨wipe_still st4 hjs, ?_⟩
    obtain rfl := sameL g4 k4
    dsimp only [tYes]
    rw [if_pos rfl]
    intro s1 H01 C1 cl1 fp1
    refine h4 s1 H01 C1 cl1 fp1 bad4 _ σ4 H4 _ k4 fun bad5 as5 H5 v r μ5 g5 k5 r5 ⟨e5, er, inner⟩ => ?_
    subst e5 er
    obtain rfl := sameL g5 k5
    have r5 : Rp X.K bad5 H5 v (.tuple (f ds[i])) := r5
    cases r5 with
    | @tup a ws _ ha ra =>
      have k50 : SOk X.K bad5 (as1 ++ [L]) (wipe σ4 vs1) H5 (wipeE ρ4 vs1) (μ1 ++ [some (.lst (F i ++ ((f ds[i]).take 0).map g))]) := by
        rw [List.take_zero, List.map_nil, List.append_nil]
        exact k5.wipe
      refine ⟨a, rfl, ⟨ws, ha⟩, fun j m H6 => m = (f ds[i]).length - j ∧ j ≤ (f ds[i]).length ∧ ∃ bad6, Go bad5 (as1 ++ [L]) H5 bad6 (as1 ++ [L]) H6 ∧ SOk X.K bad6 (as1 ++ [L]) (wipe σ4 vs1) H6 (wipeE ρ4 vs1) (μ1 ++ [some (.lst (F i ++ ((f ds[i]).take j).map g))]), ⟨_, rfl, Nat.zero_le _, bad5, Go.refl, k50⟩, ?_⟩
      rintro j m H6 ⟨rfl, hj', bad6, g6, k6⟩
      have ha6 := sqt_kept g6.keep ha
      have ra6 := ra.go g6
      by_cases hlt2 : j < (f ds[i]).length
      · obtain ⟨x6, hx6, rx6⟩ := ra6.get (List.getElem?_eq_getElem hlt2)
        refine .inr ⟨⟨ws, x6, ha6, hx6⟩, fun H7 => ∃ bad6, Go bad5 (as1 ++ [L]) H5 bad6 (as1 ++ [L]) H7 ∧ SOk X.K bad6 (as1 ++ [L]) (wipe σ4 vs1) H7 (wipeE ρ4 vs1) (μ1 ++ [some (.lst (F i ++ ((f ds[i]).take (j + 1)).map g))]), fun H7 q => ⟨(f ds[i]).length - (j + 1), by omega, rfl, hlt2, q⟩, ?_⟩
        rintro x7 H7 ⟨rfl, y7⟩
        have ex : x7 = x6 := Option.some.inj ((y7 ws ha6).symm.trans hx6)
        subst ex
        intro s2 H02 C2 cl2 fp2
        refine inner _ (List.getElem_mem hlt2) _ s2 H02 C2 cl2 fp2 bad6 (as1 ++ [L]) _ H7 x7 _ k6 rx6 fun bad8 as8 σ8 H8 ρ8 μ8 g8 k8 st8 h8 => ?_
        refine ⟨wipe_still st8 hjs1, ?_⟩
        dsimp only [tYes]
        rw [if_pos rfl]
        intro s3 H03 C3 cl3 fp3
        refine h8 s3 H03 C3 cl3 fp3 bad8 as8 σ8 H8 _ k8 fun bad9 as9 H9 y r μ9 g9 k9 r9 ⟨er, e9⟩ => ?_
        subst er e9
        obtain rfl := sameL (g8.trans g9) k9
        obtain ⟨_, zs, e3, r3⟩ := k9.muts as1.length L _ haL (hm _)
        have r9 : Rp X.K bad9 H9 y (g (f ds[i])[j]) := r9
        refine ⟨zs, e3, by rw [r3.length]; exact Fle i hlt j hlt2, ?_⟩
        have gw : Go bad9 (as1 ++ [L]) H9 bad9 (as1 ++ [L]) (upd H9 L (.lst (zs ++ [y]))) := Go.write k9 haL (hm _)
        have kw := k9.write (m' := .lst (F i ++ ((f ds[i]).take (j + 1)).map g)) haL (hm _) ⟨zs ++ [y], upd_same, by
          rw [List.take_add_one, List.getElem?_eq_getElem hlt2, Option.toList_some, List.map_append, ← List.append_assoc]
          exact (r3.append (.cons r9 .nil)).step gw.keep fun _ z => .inl z⟩
        rw [em] at kw
        exact ⟨bad9, ((g6.trans g8).trans g9).trans gw, k6.env ((g8.trans g9).trans gw) kw⟩
      · have ej : j = (f ds[i]).length := by omega
        subst ej
        refine .inl ⟨⟨ws, ha6, by rw [ra6.length]; exact Nat.le_refl _⟩, bad6, ((((g2.trans g3).trans g4).trans g5).trans g6), ?_⟩
        have eF : F (i + 1) = F i ++ ((f ds[i]).take (f ds[i]).length).map g := by
          show (ds.take (i + 1)).flatMap _ = _
          rw [List.take_add_one, hd, Option.toList_some, List.flatMap_append, List.take_length, List.flatMap_cons, List.flatMap_nil, List.append_nil]
        rw [eF]
        exact k3.env ((g4.trans g5).trans g6) k6
  · have e : i = ds.length := by omega
    subst e
    refine .inl ⟨W.stop H2 _ g2.keep (Nat.le_refl _), ?_⟩
    have eF : F ds.length = ds.flatMap fun d => (f d).map g := by show (ds.take _).flatMap _ = _; rw [List.take_length]
    rw [eF] at k2
    refine p _ _ _ (.ref L) (.obj μ1.length) _ (g1.trans g2) (k1.env g2 k2) ⟨L, ?_, rfl⟩ fin
    rw [← la1]
    exact haL
theorem ev_lc2 (own : List (Str × Nat)) (js js1 vs1 : List Nat) (hc : X.calm = true) (hN : X.N.Nodup) (ok : BlkOk X.N X.env.scope scope own) (hjs : ∀ j ∈ js, j ∈ own.map (·.2)) (hjs1 : ∀ j ∈ js1, j ∈ vs1) (hv : ∀ i ∈ vs1, i ∈ own.map (·.2))
    (h : Iv X tg iter ρ μ (Lc2D X scope tg tg1 iter1 elt js (own.map (·.2)) js1 vs1 ρ P)) (hs : ∀ x, foldedSetIterable iter X.env x = pure x := by intro _; rfl) (hs1 : ∀ env x, foldedSetIterable iter1 env x = pure x := by intro _ _; rfl) : Ev X (.ListComp elt [⟨tg, iter, [], 0⟩, ⟨tg1, iter1, [], 0⟩] scope pos) ρ μ P := fun bad as σ H Q k p => by
  obtain ⟨wi, hpi, hw⟩ := h
  exact wpE_of (pe_lc2 hc hN hpi ok hv (fun s H C cl fp => ⟨fun pins s1 σ H1 v u Q I r hq => hq s H C cl fp pins s1 u I r⟩) (fun _ _ _ _ _ => pts_nil) (fun s H C cl fp => pi_tup ⟨fun pins s1 σ H1 Q I hq => hq s H C cl fp pins s1 I⟩) (fun s H C cl fp => ⟨fun pins s1 σ H1 v u Q I r hq => hq s H C cl fp pins s1 u I r⟩) (fun _ _ _ _ _ => pts_nil) (fun s H C cl fp => ⟨fun pins s1 σ H1 Q I hq => hq s H C cl fp pins s1 I⟩) hs hs1) (lc2_read hjs hjs1 k hw p)
end

/-! ### xs[i] = e -/
section
variable {X : Cx} {ρ : Env} {μ : Mu} {js : List Nat} {pos : Pos} {a b : Expr} {P : Env → Mu → Prop} {e : Expr}
theorem ag_sub {s : Sl} {d : PyData} (es : s = .dat d) (h : Ev X a ρ μ fun x μ1 => Ev X b ρ μ1 fun y μ2 => ∃ i : Int, y = .dat (.int i) ∧ chg x μ2 fun j ds => ∃ n, ixN ds.length i = some n ∧ P ρ (μ2.set j (some (.lst (ds.set n d)))))
    (ha : ∀ v, assign (.Subscript a b pos) X.env v = (do
      let ov ← holding [v] (eval a X.env)
      let iv ← holding [v, ov] (eval b X.env)
      standAt pos
      holding [v, ov, iv] (setItem ov iv v)
      release [v, ov, iv] []) := by intro _; rfl) : Ag X (.Subscript a b pos) js s ρ μ P := fun bad as σ H v Q k r p => by
  subst es
  have r : Rp X.K bad H v d := r
  refine wpG_of (pg_sub wpE_pe wpE_pe set_list ha) ?_
  refine h bad as σ H _ k fun bad1 as1 H1 vx x μ1 g1 k1 r1 h1 => ?_
  refine h1 bad1 as1 σ H1 _ k1 fun bad2 as2 H2 vy y μ2 g2 k2 r2 ⟨i, ey, h2⟩ => ?_
  subst ey
  obtain ⟨j, a, ws, ds, rfl, hja, hm, h3, h4, n, hn, q⟩ := chg_at k2 (r1.go g2) h2
  rw [r2.dat_int]
  have gw : Go bad2 as2 H2 bad2 as2 (upd H2 a (.lst (ws.set n v))) := Go.write k2 hja hm
  exact ⟨a, ws, i, n, rfl, rfl, h3, by rw [h4.length]; exact hn, p _ _ _ _ _ _ ((g1.trans g2).trans gw) (k2.write (m' := .lst (ds.set n d)) hja hm ⟨_, upd_same, (h4.set n ((r.go g1).go g2)).step gw.keep fun _ z => .inl z⟩) Still.refl q⟩
end
end Dv

set_option maxRecDepth 100000
set_option maxHeartbeats 4000000
namespace Dv
open PySem PySem.Spec PyProof.Rows L2

/-! ### defs, packed -/
structure Cal (P : Program) (w : World) (K : PySem.W.Frag) (mg : Str → Option Value) (base : Heap) (k : Nat) (x : Str) (spec : Spec) (dsl : List Sl) : Prop where
  ex : ∃ (f : Addr) (fd : FuncData) (ps : List Str) (ds : List Value) (dvs : List V), FnOk P w K mg base L2.CX0 k f fd ps (DSp K spec) ∧ mg x = some (.ref f) ∧ PySem.W.keepIn K (.ref f) = true ∧ Binds K fd ps ds ∧ Vals dvs ds ∧ Dfl K dvs dsl
/-- a def as it stands, with its defaults -/
structure DefD (K : PySem.W.Frag) (mg : Str → Option Value) (x : Str) (st : Stmt) (ps : List Str) (dsl : List Sl) (f : Addr) (fd : FuncData) : Prop where
  fn : C8.Fun K x x st f fd
  mgf : mg x = some (.ref f)
  kp : PySem.W.keepIn K (.ref f) = true
  b : ∃ ds dvs, Binds K fd ps ds ∧ Vals dvs ds ∧ Dfl K dvs dsl
section
variable {P : Program} {w : World} {K : PySem.W.Frag} {mg : Str → Option Value} {base : Heap}
theorem cal_data {x : Str} {st : Stmt} {f : Addr} {fd : FuncData} {N ps : List Str} {k : Nat} {spec : Spec} {dsl : List Sl} (D : DefD K mg x st ps dsl f fd) (S : FnScope N ps (C8.fnScope st)) (len : ∀ sls μ P, spec sls μ P → sls.length = ps.length)
    (body : ∀ (X : Cx), (∃ cdv A outer s H E, X = (cxOf L2.CX0 P w K mg base N x (C8.fnScope st) f cdv A outer s H E).nox) → Room k X.A → ∀ (S : Snap) sls μ Pr, S.as0.length = μ.length → spec sls μ Pr →
      Sx X S (C8.fnBody st) (entry N sls) μ { nx := fun _ μ' => rtP μ.length Pr (.dat .none) μ', rt := rtP μ.length Pr }) : Cal P w K mg base (k + 1) x spec dsl := by
  obtain ⟨ds, dvs, hb, hd, hl⟩ := D.b
  refine ⟨f, fd, ps, ds, dvs, C8.fn0 D.fn S (fun vs H Q E h => ?_) (fun cdv A outer s H vs Q E hr h => ?_), D.mgf, D.kp, hb, hd, hl⟩
  · obtain ⟨bad, as, sls, μ, Pr, k0, hs, _⟩ := h
    have := k0.ls
    rw [List.length_map, List.length_map] at this
    rw [this]
    exact len _ _ _ hs
  · obtain ⟨bad, as, sls, μ, Pr, k0, hs, hq⟩ := h
    have la := k0.la
    refine ⟨_, wpSs_pss, ?_⟩
    refine body _ ⟨cdv, A, outer, s, H, E, rfl⟩ hr ⟨as, bad, bad, H⟩ sls μ Pr la hs bad as _ H _ Reach.start k0.start ⟨fun bad' as' σ' H' ρ' μ' q k1 h1 => ?_, fun bad' as' σ' H' ρ' μ' v r q k1 r1 h1 => ?_, fun _ _ _ _ _ _ _ _ z => z, fun _ _ _ _ _ _ _ _ z => z⟩
    · obtain ⟨rr, μ2, fe, p⟩ := fend (r := .dat .none) (v := .non) q k1 Rp.non (by rw [la]; exact h1)
      exact hq _ _ _ _ fe p
    · obtain ⟨rr, μ2, fe, p⟩ := fend q k1 r1 (by rw [la]; exact h1)
      exact hq _ _ _ _ fe p
end
section
variable {X : Cx} {ρ : Env} {μ : Mu} {P : Sl → Mu → Prop} {pos : Pos}
theorem ev_cal {x : Str} {p : Pos} {e : Expr} {es : List Expr} {k j : Nat} {spec : Spec} {dsl : List Sl} (c : Cal X.prog X.w X.K X.mg X.base k x spec dsl) (hr : Room j X.A) (h : Ea X (e :: es) ρ μ fun cs μ1 => CallP spec (cs ++ dsl) μ1 P) (hk : k ≤ j := by decide) (hg : Gl X x := by rfl) (hdb : (x == ("__debug__" : Str)) = false := by decide)
    (he : starEach (e :: es) X.env = (false, eval e X.env) :: starEach es X.env := by rfl) (hpl : (backTo pos (starEach es X.env)).any (·.1) = false := by rfl) : Ev X (.Call (.Name x p) (e :: es) [] pos) ρ μ P := by
  obtain ⟨f, fd, ps, ds, dvs, F, hm, kp, b, d, hdl⟩ := c.ex
  exact ev_call F (hr.mono hk) hm kp b d hdl h hg hdb he hpl
/-- a call whose arguments are data, whose answer is data -/
theorem callP_dat {spec : Spec} {cs : List Sl} (h : cs.all (okS 0) = true) (hs : spec cs [] (backP μ [] P)) : CallP spec cs μ P :=
  ⟨[], cs, .nil, h, by
    have : ∀ l : List Sl, l.all (okS 0) = true → l.map (renS []) = l := fun l => by
      induction l with
      | nil => exact fun _ => rfl
      | cons a l ih =>
        intro h
        rw [List.all_cons, Bool.and_eq_true] at h
        rw [List.map_cons, ih h.2]
        congr 1
        cases a with
        | obj i => exact absurd h.1 (by unfold okS; simp)
        | _ => rfl
    exact this cs h, fun j hj => (nomatch hj), hs⟩

/-! ### values without a change -/
def isB (p : Bool) (μ : Mu) : Bool → Mu → Prop := fun k μ1 => k = p ∧ μ1 = μ
def isD (d : PyData) (μ : Mu) : Sl → Mu → Prop := fun r μ1 => r = .dat d ∧ μ1 = μ
variable {a b c e : Expr} {rest : List Expr} {PB : Bool → Mu → Prop}
theorem Ev.is {d : PyData} (h : Ev X e ρ μ (isD d μ)) (q : P (.dat d) μ) : Ev X e ρ μ P := h.imp fun r μ1 ⟨h1, h2⟩ => by subst h1 h2; exact q
theorem Et.is {p : Bool} (h : Et X e ρ μ (isB p μ)) (q : PB p μ) : Et X e ρ μ PB := fun bad as σ H Q k pp => h bad as σ H Q k fun _ _ _ _ _ g k1 ⟨h1, h2⟩ => by subst h1 h2; exact pp _ _ _ _ _ g k1 q
theorem Ew.is {p : Bool} (h : Ew X e ρ μ (isB p μ)) (q : PB p μ) : Ew X e ρ μ PB := fun bad as σ H Q k pp whole => h bad as σ H Q k (fun _ _ _ _ _ g k1 ⟨h1, h2⟩ => by subst h1 h2; exact pp _ _ _ _ _ g k1 q) whole
theorem ew_andP {p q : Bool} (h1 : Et X a ρ μ (isB p μ)) (h2 : p = true → Ew X (.BoolOp .And (b :: rest) pos) ρ μ (isB q μ)) (h : PB (p && q) μ) : Ew X (.BoolOp .And (a :: b :: rest) pos) ρ μ PB :=
  ew_and (h1.is ⟨fun e => (h2 e).is (by rw [e] at h; exact h), fun e => by rw [e] at h; exact h⟩)
theorem ew_orP {p q : Bool} (h1 : Et X a ρ μ (isB p μ)) (h2 : p = false → Ew X (.BoolOp .Or (b :: rest) pos) ρ μ (isB q μ)) (h : PB (p || q) μ) : Ew X (.BoolOp .Or (a :: b :: rest) pos) ρ μ PB :=
  ew_or (h1.is ⟨fun e => by rw [e] at h; exact h, fun e => (h2 e).is (by rw [e] at h; exact h)⟩)
theorem ev_andP {p q : Bool} (h1 : Ev X a ρ μ (isD (.bool p) μ)) (h2 : p = true → Ev X (.BoolOp .And (b :: rest) pos) ρ μ (isD (.bool q) μ)) (h : P (.dat (.bool (p && q))) μ) : Ev X (.BoolOp .And (a :: b :: rest) pos) ρ μ P :=
  ev_and (h1.is ⟨p, rfl, fun e => (h2 e).is (by rw [e] at h; exact h), fun e => by rw [e] at h; exact h⟩)
theorem ev_orP {p q : Bool} (h1 : Ev X a ρ μ (isD (.bool p) μ)) (h2 : p = false → Ev X (.BoolOp .Or (b :: rest) pos) ρ μ (isD (.bool q) μ)) (h : P (.dat (.bool (p || q))) μ) : Ev X (.BoolOp .Or (a :: b :: rest) pos) ρ μ P :=
  ev_or (h1.is ⟨p, rfl, fun e => by rw [e] at h; exact h, fun e => (h2 e).is (by rw [e] at h; exact h)⟩)
theorem ev_notP {p : Bool} (h1 : Ev X a ρ μ (isD (.bool p) μ)) (h : P (.dat (.bool (!p))) μ) : Ev X (.UnaryOp .Not a pos) ρ μ P := ev_not (h1.is ⟨p, rfl, h⟩)
theorem et_notP {p : Bool} (h1 : Et X a ρ μ (isB p μ)) (h : PB (!p) μ) : Et X (.UnaryOp .Not a pos) ρ μ PB := et_not (h1.is h)
theorem ev_ifP {p : Bool} (h1 : Et X c ρ μ (isB p μ)) (ht : p = true → Ev X a ρ μ P) (hf : p = false → Ev X b ρ μ P) : Ev X (.IfExp c a b pos) ρ μ P := ev_if (h1.is ⟨ht, hf⟩)
theorem s_ifP {S : Snap} {D : DE} {A B : List Stmt} {p : Bool} (h1 : Et X c ρ μ (isB p μ)) (ht : p = true → Sx X S A ρ μ D) (hf : p = false → Sx X S B ρ μ D) : S1 X S (.If c A B pos) ρ μ D := s_if (h1.is ⟨ht, hf⟩)
theorem et_boolv {p : Bool} (h : Ev X a ρ μ (isD (.bool p) μ)) (q : PB p μ) (he : ∀ whole, isTrue a X.env whole = (do let v ← whole; standAt a.pos; holding [v] (truthy v)) := by intro _; rfl) : Et X a ρ μ PB := et_val (h.is ⟨p, rfl, q⟩) he
end

/-! ### operations, told apart by what they meet -/
def dPlus : BR := fun x y μ P => match x, y with
  | .dat (.int i), y => dAdd (.dat (.int i)) y μ P
  | .dat (.str s), y => dAdd (.dat (.str s)) y μ P
  | x, y => dCat x y μ P
section
variable {X : Cx} {μ : Mu} {P : Sl → Mu → Prop} {x y : Sl} {i j : Int} {s t : Str} {ds es : List PyData}
theorem b_plus : BinD X (binaryOp .Add) dPlus := by
  intro bad as σ H ρ μ x y vx vy P Q k rx ry hr p
  unfold dPlus at hr
  split at hr
  · exact b_add bad as σ H ρ μ _ _ _ _ _ _ k rx ry hr p
  · exact b_add bad as σ H ρ μ _ _ _ _ _ _ k rx ry hr p
  · exact b_cat bad as σ H ρ μ _ _ _ _ _ _ k rx ry hr p
theorem plus_i (h : P (.dat (.int (i + j))) μ) : dPlus (.dat (.int i)) (.dat (.int j)) μ P := h
theorem plus_s (hz : s.length + t.length ≤ sizeLine) (h : P (.dat (.str (s ++ t))) μ) : dPlus (.dat (.str s)) (.dat (.str t)) μ P := ⟨hz, h⟩
theorem plus_l (hx : lstOf μ x = some ds) (hy : lstOf μ y = some es) (hz : ds.length + es.length ≤ sizeLine) (h : P (.obj μ.length) (μ ++ [some (.lst (ds ++ es))])) : dPlus x y μ P := by
  unfold dPlus
  split
  · cases hx
  · cases hx
  · exact ⟨ds, es, hx, hy, hz, h⟩
theorem sub_i (h : P (.dat (.int (i - j))) μ) : dInt0 (fun i j => .int (i - j)) (.dat (.int i)) (.dat (.int j)) μ P := h
theorem mul_i (h : P (.dat (.int (i * j))) μ) (c : CMul i j) : dInt CMul (fun i j => .int (i * j)) (.dat (.int i)) (.dat (.int j)) μ P := ⟨c, h⟩
theorem mod_i (h : P (.dat (.int (i % j))) μ) (c : 0 < j) : dInt (fun _ j => 0 < j) (fun i j => .int (i % j)) (.dat (.int i)) (.dat (.int j)) μ P := ⟨c, h⟩
theorem fdiv_i (h : P (.dat (.int (i / j))) μ) (c : CDiv i j) : dInt CDiv (fun i j => .int (i / j)) (.dat (.int i)) (.dat (.int j)) μ P := ⟨c, h⟩
theorem pow_i (h : P (.dat (.int (i ^ j.toNat))) μ) (c : CPow i j) : dInt CPow (fun i j => .int (i ^ j.toNat)) (.dat (.int i)) (.dat (.int j)) μ P := ⟨c, h⟩
theorem lt_i (h : P (.dat (.bool (decide (i < j)))) μ) : dOrd (fun i j => decide (i < j)) (fun i j => decide (i.cps.toList < j.cps.toList)) (.dat (.int i)) (.dat (.int j)) μ P := h
theorem le_i (h : P (.dat (.bool (decide (i ≤ j)))) μ) : dOrd (fun i j => decide (i ≤ j)) (fun i j => !decide (j.cps.toList < i.cps.toList)) (.dat (.int i)) (.dat (.int j)) μ P := h
theorem gt_i (h : P (.dat (.bool (decide (j < i)))) μ) : dOrd (fun i j => decide (j < i)) (fun i j => decide (j.cps.toList < i.cps.toList)) (.dat (.int i)) (.dat (.int j)) μ P := h
theorem ge_i (h : P (.dat (.bool (decide (j ≤ i)))) μ) : dOrd (fun i j => decide (j ≤ i)) (fun i j => !decide (i.cps.toList < j.cps.toList)) (.dat (.int i)) (.dat (.int j)) μ P := h
theorem eqv_i : PyData.eqv (.int i) (.int j) = decide (i = j) := by
  have e : PyData.eqv (.int i) (.int j) = (i == j) := rfl
  rw [e]
  by_cases h : i = j
  · subst h; simp
  · rw [decide_eq_false h]; exact beq_eq_false_iff_ne.mpr h
theorem eqv_s : PyData.eqv (.str s) (.str t) = decide (s = t) := by
  have e : PyData.eqv (.str s) (.str t) = (s == t) := rfl
  rw [e]
  by_cases h : s = t
  · subst h; simp
  · rw [decide_eq_false h]; exact beq_eq_false_iff_ne.mpr h
theorem eq_i (h : P (.dat (.bool (decide (i = j)))) μ) : dEqv false (.dat (.int i)) (.dat (.int j)) μ P := ⟨.inl rfl, by rw [eqv_i]; exact h⟩
theorem eq_s (h : P (.dat (.bool (decide (s = t)))) μ) : dEqv false (.dat (.str s)) (.dat (.str t)) μ P := ⟨.inl rfl, by rw [eqv_s]; exact h⟩
theorem ne_i (h : P (.dat (.bool (!decide (i = j)))) μ) : dEqv true (.dat (.int i)) (.dat (.int j)) μ P := ⟨.inl rfl, by rw [eqv_i]; exact h⟩
theorem ne_s (h : P (.dat (.bool (!decide (s = t)))) μ) : dEqv true (.dat (.str s)) (.dat (.str t)) μ P := ⟨.inl rfl, by rw [eqv_s]; exact h⟩
theorem eq_v {d e : PyData} (hx : valOf μ x = some d) (hy : valOf μ y = some e) (ok : okEq d e) (h : P (.dat (.bool (PyData.eqv d e))) μ) : dEqv false x y μ P := by
  unfold dEqv
  rw [hx, hy]
  exact ⟨ok, h⟩
theorem ne_v {d e : PyData} (hx : valOf μ x = some d) (hy : valOf μ y = some e) (ok : okEq d e) (h : P (.dat (.bool (!PyData.eqv d e))) μ) : dEqv true x y μ P := by
  unfold dEqv
  rw [hx, hy]
  exact ⟨ok, h⟩
theorem is_n (h : P (.dat (.bool (isNon x))) μ) : dIsN false x (.dat .none) μ P := h
theorem isnot_n (h : P (.dat (.bool (!isNon x))) μ) : dIsN true x (.dat .none) μ P := h
end
/-! in -/
def dInU (K : PySem.W.Frag) (w : World) (neg : Bool) : BR := fun x y μ P => dIn K w neg x y μ P ∨ ∃ d ds, valOf μ x = some d ∧ valOf μ y = some (.list ds) ∧ SeqAt.shaped d = true ∧ SeqAt.shaped (.list ds) = true ∧ P (.dat (.bool (if neg then !ds.any fun z => PyData.eqv z d else ds.any fun z => PyData.eqv z d))) μ
section
variable {X : Cx} {K : PySem.W.Frag} {w : World} {μ : Mu} {P : Sl → Mu → Prop} {x y : Sl}
theorem c_inU (hu : X.A.units + 65 < cLine) : BinD X (compareOp .In) (dInU X.K X.w false) := by
  intro bad as σ H ρ μ x y vx vy P Q k rx ry hr p
  rcases hr with hr | ⟨d, ds, hx, hy, sd, se, q⟩
  · exact c_in bad as σ H ρ μ _ _ _ _ _ _ k rx ry hr p
  · exact wpO_of (op_inD hu) ⟨d, ds, val_dp k rx hx, val_dp k ry hy, sd, se, p.nowD k (.bl _) q⟩
theorem c_notInU (hu : X.A.units + 65 < cLine) : BinD X (compareOp .NotIn) (dInU X.K X.w true) := by
  intro bad as σ H ρ μ x y vx vy P Q k rx ry hr p
  rcases hr with hr | ⟨d, ds, hx, hy, sd, se, q⟩
  · exact c_notIn bad as σ H ρ μ _ _ _ _ _ _ k rx ry hr p
  · exact wpO_of (op_notInD hu) ⟨d, ds, val_dp k rx hx, val_dp k ry hy, sd, se, p.nowD k (.bl _) q⟩
theorem in_s {c : Nat} {z : Str} (h : P (.dat (.bool (decide (c ∈ z.cps.toList)))) μ) : dInU K w false (.dat (.str ⟨#[c]⟩)) (.dat (.str z)) μ P := .inl ⟨c, rfl, h⟩
theorem in_g {a : Addr} {z : Str} {kvs : List (Str × PyData)} (hk : KD K w a kvs) (h : P (.dat (.bool (kvs.lookup z).isSome)) μ) : dInU K w false (.dat (.str z)) (.glo a) μ P := .inl ⟨z, kvs, rfl, hk, h⟩
theorem notin_g {a : Addr} {z : Str} {kvs : List (Str × PyData)} (hk : KD K w a kvs) (h : P (.dat (.bool (!(kvs.lookup z).isSome))) μ) : dInU K w true (.dat (.str z)) (.glo a) μ P := .inl ⟨z, kvs, rfl, hk, h⟩
theorem dIn_seq {neg : Bool} {d : PyData} {ds : List PyData} (hy : seqOf μ y = some ds) (hd : flatD d = true) (hds : ds.all flatD = true) (h : P (.dat (.bool (if neg then !ds.any fun e => PyData.eqv e d else ds.any fun e => PyData.eqv e d))) μ) : dIn K w neg (.dat d) y μ P := by
  unfold dIn
  split
  · cases hy
  · cases hy
  · exact ⟨d, ds, rfl, hy, hd, hds, h⟩
theorem in_q {d : PyData} {ds : List PyData} (hy : seqOf μ y = some ds) (hd : flatD d = true) (hds : ds.all flatD = true) (h : P (.dat (.bool (ds.any fun e => PyData.eqv e d))) μ) : dInU K w false (.dat d) y μ P := .inl (dIn_seq hy hd hds h)
theorem notin_q {d : PyData} {ds : List PyData} (hy : seqOf μ y = some ds) (hd : flatD d = true) (hds : ds.all flatD = true) (h : P (.dat (.bool (!ds.any fun e => PyData.eqv e d))) μ) : dInU K w true (.dat d) y μ P := .inl (dIn_seq hy hd hds h)
theorem in_d {d : PyData} {ds : List PyData} (hx : valOf μ x = some d) (hy : valOf μ y = some (.list ds)) (sd : SeqAt.shaped d = true) (se : SeqAt.shaped (.list ds) = true) (h : P (.dat (.bool (ds.any fun z => PyData.eqv z d))) μ) : dInU K w false x y μ P := .inr ⟨d, ds, hx, hy, sd, se, h⟩
/-! items -/
theorem ix_str {i : Int} {s : Str} {c : Nat} (hz : s.length ≤ sizeLine) (hc : atI s.cps.toList i = some c) (h : P (.dat (.str ⟨#[c]⟩)) μ) : dIx K w (.dat (.str s)) (.dat (.int i)) μ P := ⟨hz, c, hc, h⟩
theorem ix_scr {i n : Int} {ns : List Int} (hc : atI ns i = some n) (h : P (.dat (.int n)) μ) : dIx K w (.scr ns) (.dat (.int i)) μ P := ⟨n, hc, h⟩
theorem ix_q {i : Int} {ds : List PyData} {d : PyData} (hs : seqOf μ x = some ds) (hd : atI ds i = some d) (h : P (.dat d) μ) : dIx K w x (.dat (.int i)) μ P := by
  unfold dIx
  dsimp only
  split
  · cases hs
  · cases hs
  · exact ⟨ds, d, hs, hd, h⟩
theorem ix_g {a : Addr} {z : Str} {kvs : List (Str × PyData)} {d : PyData} (hk : KD K w a kvs) (hd : kvs.lookup z = some d) (h : P (.dat d) μ) : dIx K w (.glo a) (.dat (.str z)) μ P := ⟨a, kvs, d, rfl, hk, hd, h⟩
/-! built in -/
theorem len_q {s : Sl} {ds : List PyData} (hs : lenOf μ s = some n) (hf : strFits s) (h : P (.dat (.int (n : Nat))) μ) : dLen [s] μ P := ⟨s, n, rfl, hs, hf, h⟩
theorem abs_i {i : Int} (h : P (.dat (.int (if i < 0 then -i else i))) μ) : dAbs [.dat (.int i)] μ P := ⟨i, rfl, h⟩
theorem tup_of {rs : List Sl} {ds : List PyData} (hd : datsOf rs = some ds) (hz : ds.length ≤ sizeLine) (h : P (.dat (.tuple ds)) μ) : dTup rs μ P := ⟨ds, hd, hz, h⟩
theorem lst_of {rs : List Sl} {ds : List PyData} (hd : datsOf rs = some ds) (hz : ds.length ≤ sizeLine) (h : P (.obj μ.length) (μ ++ [some (.lst ds)])) : dLst rs μ P := ⟨ds, hd, hz, h⟩
theorem isi_of {s : Sl} {T : String} {d : PyData} {b : Bool} (hs : valOf μ s = some d) (hb : kitB (tyD d) T = some b) (h : P (.dat (.bool b)) μ) : dIsi [s, .typ T] μ P := ⟨s, T, d, b, rfl, hs, hb, h⟩
theorem all_of {s : Sl} {bs : List Bool} (hs : lstOf μ s = some (bs.map PyData.bool)) (h : P (.dat (.bool (bs.all id))) μ) : dAll [s] μ P := ⟨s, bs, rfl, hs, h⟩
theorem any_of {s : Sl} {bs : List Bool} (hs : lstOf μ s = some (bs.map PyData.bool)) (h : P (.dat (.bool (bs.any id))) μ) : dAny [s] μ P := ⟨s, bs, rfl, hs, h⟩
end
end Dv

set_option maxRecDepth 100000
set_option maxHeartbeats 4000000
namespace Dv
open PySem PySem.Spec PyProof.Rows L2

section
variable {X : Cx} {ρ : Env} {μ : Mu} {P : Sl → Mu → Prop} {PB : Bool → Mu → Prop} {pos p apos : Pos} {a b c e o : Expr} {es : List Expr}
/-! ### names of the module, as facts -/
theorem ev_gI {x : Str} {i : Int} (hm : ∃ t, X.mg x = some (.int i t)) (h : P (.dat (.int i)) μ) (hg : Gl X x := by rfl) (hdb : (x == ("__debug__" : Str)) = false := by decide) : Ev X (.Name x pos) ρ μ P := by
  obtain ⟨t, hm⟩ := hm; exact ev_gint hm h hg hdb
theorem ev_gS {x : Str} {i : Str} (hm : ∃ t, X.mg x = some (.str i t)) (h : P (.dat (.str i)) μ) (hg : Gl X x := by rfl) (hdb : (x == ("__debug__" : Str)) = false := by decide) : Ev X (.Name x pos) ρ μ P := by
  obtain ⟨t, hm⟩ := hm; exact ev_gstr hm h hg hdb
theorem ev_gT {x : Str} {ds : List PyData} (hm : ∃ a, X.mg x = some (.ref a) ∧ KTup X.K a ds) (h : P (.dat (.tuple ds)) μ) (hg : Gl X x := by rfl) (hdb : (x == ("__debug__" : Str)) = false := by decide) : Ev X (.Name x pos) ρ μ P := by
  obtain ⟨t, hm, hk⟩ := hm; exact ev_gtup hm hk h hg hdb
/-! ### calls of what is built in -/
section
variable (hg : Gl X "len") 
theorem e_len (hm : X.mg "len" = none) (h : Ev X e ρ μ fun s μ1 => ∃ n, lenOf μ1 s = some n ∧ strFits s ∧ P (.dat (.int (n : Nat))) μ1) (hg : Gl X "len" := by rfl) (he : starEach [e] X.env = (false, eval e X.env) :: starEach [] X.env := by rfl) (hpl : (backTo pos (starEach [] X.env)).any (·.1) = false := by rfl) : Ev X (.Call (.Name "len" p) [e] [] pos) ρ μ P :=
  ev_callB k_len hm boot_len (ea_cons (h.imp fun s μ1 ⟨n, h1, h2, h3⟩ => ea_nil ⟨s, n, rfl, h1, h2, h3⟩) he) hg (by decide) (by decide) he hpl
end
theorem e_abs (hm : X.mg "abs" = none) (h : Ev X e ρ μ fun s μ1 => ∃ i : Int, s = .dat (.int i) ∧ P (.dat (.int (if i < 0 then -i else i))) μ1) (hg : Gl X "abs" := by rfl) (he : starEach [e] X.env = (false, eval e X.env) :: starEach [] X.env := by rfl) (hpl : (backTo pos (starEach [] X.env)).any (·.1) = false := by rfl) : Ev X (.Call (.Name "abs" p) [e] [] pos) ρ μ P :=
  ev_callB k_abs hm (by decide +kernel) (ea_cons (h.imp fun s μ1 ⟨i, h1, h3⟩ => ea_nil ⟨i, by rw [h1], h3⟩) he) hg (by decide) (by decide) he hpl
theorem e_max (hc : X.calm = true) (hm : X.mg "max" = none) (h : Ea X [a, b] ρ μ fun rs μ1 => dMax2 rs μ1 P) (hg : Gl X "max" := by rfl) (he : starEach [a, b] X.env = (false, eval a X.env) :: starEach [b] X.env := by rfl) (hpl : (backTo pos (starEach [b] X.env)).any (·.1) = false := by rfl) : Ev X (.Call (.Name "max" p) [a, b] [] pos) ρ μ P :=
  ev_callB (k_max2 hc) hm (by decide +kernel) h hg (by decide) (by decide) he hpl
theorem e_min (hc : X.calm = true) (hm : X.mg "min" = none) (h : Ea X [a, b] ρ μ fun rs μ1 => dMin2 rs μ1 P) (hg : Gl X "min" := by rfl) (he : starEach [a, b] X.env = (false, eval a X.env) :: starEach [b] X.env := by rfl) (hpl : (backTo pos (starEach [b] X.env)).any (·.1) = false := by rfl) : Ev X (.Call (.Name "min" p) [a, b] [] pos) ρ μ P :=
  ev_callB (k_min2 hc) hm (by decide +kernel) h hg (by decide) (by decide) he hpl
theorem e_all (hc : X.calm = true) (hm : X.mg "all" = none) (h : Ev X e ρ μ fun s μ1 => ∃ bs : List Bool, lstOf μ1 s = some (bs.map PyData.bool) ∧ P (.dat (.bool (bs.all id))) μ1) (hg : Gl X "all" := by rfl) (he : starEach [e] X.env = (false, eval e X.env) :: starEach [] X.env := by rfl) (hpl : (backTo pos (starEach [] X.env)).any (·.1) = false := by rfl) : Ev X (.Call (.Name "all" p) [e] [] pos) ρ μ P :=
  ev_callB (k_all hc) hm (by decide +kernel) (ea_cons (h.imp fun s μ1 ⟨i, h1, h3⟩ => ea_nil ⟨s, i, rfl, h1, h3⟩) he) hg (by decide) (by decide) he hpl
theorem e_any (hc : X.calm = true) (hm : X.mg "any" = none) (h : Ev X e ρ μ fun s μ1 => ∃ bs : List Bool, lstOf μ1 s = some (bs.map PyData.bool) ∧ P (.dat (.bool (bs.any id))) μ1) (hg : Gl X "any" := by rfl) (he : starEach [e] X.env = (false, eval e X.env) :: starEach [] X.env := by rfl) (hpl : (backTo pos (starEach [] X.env)).any (·.1) = false := by rfl) : Ev X (.Call (.Name "any" p) [e] [] pos) ρ μ P :=
  ev_callB (k_any hc) hm (by decide +kernel) (ea_cons (h.imp fun s μ1 ⟨i, h1, h3⟩ => ea_nil ⟨s, i, rfl, h1, h3⟩) he) hg (by decide) (by decide) he hpl
theorem e_int (hm : X.mg "int" = none) (h : Ev X e ρ μ fun s μ1 => dInt1 [s] μ1 P) (hg : Gl X "int" := by rfl) (he : starEach [e] X.env = (false, eval e X.env) :: starEach [] X.env := by rfl) (hpl : (backTo pos (starEach [] X.env)).any (·.1) = false := by rfl) : Ev X (.Call (.Name "int" p) [e] [] pos) ρ μ P :=
  ev_callTy k_int1 hm (by decide +kernel) (ea_cons (h.imp fun s μ1 h1 => ea_nil h1) he) hg (by decide) (by decide) he hpl
theorem e_int10 (hm : X.mg "int" = none) (h : Ea X [a, b] ρ μ fun rs μ1 => dInt10 rs μ1 P) (hg : Gl X "int" := by rfl) (he : starEach [a, b] X.env = (false, eval a X.env) :: starEach [b] X.env := by rfl) (hpl : (backTo pos (starEach [b] X.env)).any (·.1) = false := by rfl) : Ev X (.Call (.Name "int" p) [a, b] [] pos) ρ μ P :=
  ev_callTy k_int10 hm (by decide +kernel) h hg (by decide) (by decide) he hpl
theorem e_str (hm : X.mg "str" = none) (h : Ev X e ρ μ fun s μ1 => dStr [s] μ1 P) (hg : Gl X "str" := by rfl) (he : starEach [e] X.env = (false, eval e X.env) :: starEach [] X.env := by rfl) (hpl : (backTo pos (starEach [] X.env)).any (·.1) = false := by rfl) : Ev X (.Call (.Name "str" p) [e] [] pos) ρ μ P :=
  ev_callTy k_str hm (by decide +kernel) (ea_cons (h.imp fun s μ1 h1 => ea_nil h1) he) hg (by decide) (by decide) he hpl
theorem e_list (hm : X.mg "list" = none) (h : Ev X e ρ μ fun s μ1 => ∃ ds, seqOf μ1 s = some ds ∧ P (.obj μ1.length) (μ1 ++ [some (.lst ds)])) (hg : Gl X "list" := by rfl) (he : starEach [e] X.env = (false, eval e X.env) :: starEach [] X.env := by rfl) (hpl : (backTo pos (starEach [] X.env)).any (·.1) = false := by rfl) : Ev X (.Call (.Name "list" p) [e] [] pos) ρ μ P :=
  ev_callTy k_list hm (by decide +kernel) (ea_cons (h.imp fun s μ1 ⟨i, h1, h3⟩ => ea_nil ⟨s, i, rfl, h1, h3⟩) he) hg (by decide) (by decide) he hpl
theorem e_tuple (hm : X.mg "tuple" = none) (h : Ev X e ρ μ fun s μ1 => ∃ ds, lstOf μ1 s = some ds ∧ P (.dat (.tuple ds)) μ1) (hg : Gl X "tuple" := by rfl) (he : starEach [e] X.env = (false, eval e X.env) :: starEach [] X.env := by rfl) (hpl : (backTo pos (starEach [] X.env)).any (·.1) = false := by rfl) : Ev X (.Call (.Name "tuple" p) [e] [] pos) ρ μ P :=
  ev_callTy k_tuple hm (by decide +kernel) (ea_cons (h.imp fun s μ1 ⟨i, h1, h3⟩ => ea_nil ⟨s, i, rfl, h1, h3⟩) he) hg (by decide) (by decide) he hpl
/-- isinstance(a, T), T a name of what is built in -/
theorem e_isi {T : Str} {n : String} {pT : Pos} (hm : X.mg "isinstance" = none) (hmT : X.mg T = none) (hvT : bootBuiltins T = some (.type n)) (h : Ev X a ρ μ fun s μ1 => ∃ d q, valOf μ1 s = some d ∧ kitB (tyD d) n = some q ∧ P (.dat (.bool q)) μ1) (hg : Gl X "isinstance" := by rfl) (hgT : Gl X T := by rfl) (hnT : T ≠ "__name__" := by decide) (hdT : (T == ("__debug__" : Str)) = false := by decide)
    (he : starEach [a, .Name T pT] X.env = (false, eval a X.env) :: starEach [.Name T pT] X.env := by rfl) (he2 : starEach [.Name T pT] X.env = (false, eval (.Name T pT) X.env) :: starEach [] X.env := by rfl) (hpl : (backTo pos (starEach [.Name T pT] X.env)).any (·.1) = false := by rfl) : Ev X (.Call (.Name "isinstance" p) [a, .Name T pT] [] pos) ρ μ P :=
  ev_callB k_isi hm boot_isinstance (ea_cons (h.imp fun s μ1 ⟨d, q, h1, h2, h3⟩ => ea_cons (ev_typ hmT hvT (ea_nil ⟨s, n, d, q, rfl, h1, h2, h3⟩) hgT hnT hdT) he2) he) hg (by decide) (by decide) he hpl

/-! ### methods -/
def isL (s : Sl) (μ : Mu) (f : Nat → List PyData → Prop) : Prop := ∃ j ds, s = .obj j ∧ μ[j]? = some (some (.lst ds)) ∧ f j ds
theorem isL_ty {s : Sl} {j : Nat} {ds : List PyData} (e : s = .obj j) (h : μ[j]? = some (some (.lst ds))) : isTy "list" μ s := by
  subst e
  refine ⟨rfl, ?_⟩
  show (match μ[j]? with | some (some (.lst ds)) => some ds | _ => none).isSome = true
  rw [h]; rfl
theorem rep_ints {K : PySem.W.Frag} {bad : Bad} {H : Hp} : ∀ {ns : List Int}, Rps K bad H (ns.map V.int) (ns.map PyData.int)
  | [] => .nil
  | n :: ns => .cons (.int n) rep_ints
theorem chg_of {j : Nat} {ds : List PyData} {f : Nat → List PyData → Prop} (h : μ[j]? = some (some (.lst ds))) (q : f j ds) : chg (.obj j) μ f := by
  unfold chg
  dsimp only
  rw [h]
  exact q
theorem andT {p q : Bool} (e : p = true) (h : PB (p && q) μ) : PB q μ := by rw [e] at h; exact h
theorem andF {p q : Bool} (e : p = false) (h : PB (p && q) μ) : PB false μ := by rw [e] at h; exact h
section
variable (hbase : attributeBase o "append" X.env (eval o X.env) = eval o X.env)
theorem e_append (h : Ev X o ρ μ fun s μ1 => ∃ j ds, s = .obj j ∧ μ1[j]? = some (some (.lst ds)) ∧ Ev X e ρ μ1 fun r μ2 => ∃ d ds2, r = .dat d ∧ μ2[j]? = some (some (.lst ds2)) ∧ ds2.length < sizeLine ∧ P (.dat .none) (μ2.set j (some (.lst (ds2 ++ [d])))))
    (hbase : attributeBase o "append" X.env (eval o X.env) = eval o X.env := by rfl)
    (hfew : ((backTo pos (starEach [e] X.env)).all (fun x => !x.1) && (backToKw pos (keywordEach [] X.env)).all (fun x => x.1.isSome) && decide (([e] : List Expr).length + ([] : List Keyword).length + (if ([] : List Keyword).isEmpty then 0 else 1) < 30)) = true := by rfl)
    (hline : (apos.endLine == pos.line) = true := by rfl) (hs : starEach [e] X.env = (false, eval e X.env) :: starEach [] X.env := by rfl) (hplain : (backTo pos (starEach [] X.env)).any (·.1) = false := by rfl) : Ev X (.Call (.Attribute o "append" apos) [e] [] pos) ρ μ P :=
  ev_meth PySem.F.plainAttrs_list PySem.F.slot_list_append PySem.F.type_list_append m_append (h.imp fun s μ1 ⟨j, ds, h1, h2, h3⟩ => ⟨isL_ty h1 h2, ea_cons (h3.imp fun r μ2 ⟨d, ds2, h4, h5, h6, h7⟩ => ea_nil ⟨d, by rw [h4], by rw [h1]; exact chg_of h5 ⟨h6, h7⟩⟩) hs⟩) hbase hfew hline hs hplain
theorem e_pop (h : Ev X o ρ μ fun s μ1 => ∃ j ds d, s = .obj j ∧ μ1[j]? = some (some (.lst ds)) ∧ ds[ds.length - 1]? = some d ∧ P (.dat d) (μ1.set j (some (.lst ds.dropLast))))
    (hbase : attributeBase o "pop" X.env (eval o X.env) = eval o X.env := by rfl) (hline : (apos.endLine == pos.line) = true := by rfl) : Ev X (.Call (.Attribute o "pop" apos) [] [] pos) ρ μ P :=
  ev_meth0 PySem.F.plainAttrs_list PySem.F.slot_list_pop PySem.F.type_list_pop m_pop (h.imp fun s μ1 ⟨j, ds, d, h1, h2, h3, h4⟩ => ⟨isL_ty h1 h2, rfl, by rw [h1]; exact chg_of h2 ⟨d, h3, h4⟩⟩) hbase hline
theorem e_popAt (h : Ev X o ρ μ fun s μ1 => ∃ j ds, s = .obj j ∧ μ1[j]? = some (some (.lst ds)) ∧ Ev X e ρ μ1 fun r μ2 => ∃ i : Int, ∃ ds2 k d, r = .dat (.int i) ∧ μ2[j]? = some (some (.lst ds2)) ∧ -(2 ^ 63) ≤ i ∧ i < 2 ^ 63 ∧ seqIndex? i ds2.length = some k ∧ ds2[k]? = some d ∧ P (.dat d) (μ2.set j (some (.lst (ds2.eraseIdx k)))))
    (hbase : attributeBase o "pop" X.env (eval o X.env) = eval o X.env := by rfl)
    (hfew : ((backTo pos (starEach [e] X.env)).all (fun x => !x.1) && (backToKw pos (keywordEach [] X.env)).all (fun x => x.1.isSome) && decide (([e] : List Expr).length + ([] : List Keyword).length + (if ([] : List Keyword).isEmpty then 0 else 1) < 30)) = true := by rfl)
    (hline : (apos.endLine == pos.line) = true := by rfl) (hs : starEach [e] X.env = (false, eval e X.env) :: starEach [] X.env := by rfl) (hplain : (backTo pos (starEach [] X.env)).any (·.1) = false := by rfl) : Ev X (.Call (.Attribute o "pop" apos) [e] [] pos) ρ μ P :=
  ev_meth PySem.F.plainAttrs_list PySem.F.slot_list_pop PySem.F.type_list_pop m_popAt (h.imp fun s μ1 ⟨j, ds, h1, h2, h3⟩ => ⟨isL_ty h1 h2, ea_cons (h3.imp fun r μ2 ⟨i, ds2, k, d, h4, h5, h6, h7, h8, h9, h10⟩ => ea_nil ⟨i, by rw [h4], by rw [h1]; exact chg_of h5 ⟨k, d, h6, h7, h8, h9, h10⟩⟩) hs⟩) hbase hfew hline hs hplain
theorem e_remove (hc : X.calm = true) (h : Ev X o ρ μ fun s μ1 => ∃ j ds, s = .obj j ∧ μ1[j]? = some (some (.lst ds)) ∧ Ev X e ρ μ1 fun r μ2 => ∃ (i : Int) (ns : List Int), r = .dat (.int i) ∧ μ2[j]? = some (some (.lst (ns.map PyData.int))) ∧ i ∈ ns ∧ P (.dat .none) (μ2.set j (some (.lst ((ns.erase i).map PyData.int)))))
    (hbase : attributeBase o "remove" X.env (eval o X.env) = eval o X.env := by rfl)
    (hfew : ((backTo pos (starEach [e] X.env)).all (fun x => !x.1) && (backToKw pos (keywordEach [] X.env)).all (fun x => x.1.isSome) && decide (([e] : List Expr).length + ([] : List Keyword).length + (if ([] : List Keyword).isEmpty then 0 else 1) < 30)) = true := by rfl)
    (hline : (apos.endLine == pos.line) = true := by rfl) (hs : starEach [e] X.env = (false, eval e X.env) :: starEach [] X.env := by rfl) (hplain : (backTo pos (starEach [] X.env)).any (·.1) = false := by rfl) : Ev X (.Call (.Attribute o "remove" apos) [e] [] pos) ρ μ P := fun bad as σ H Q k pp => by
  refine wpE_of (pe_remX hc L2.takes0 wpE_pe wpE_pe hbase hfew hline hs hplain) ?_
  refine h bad as σ H _ k fun bad1 as1 H1 v s μ1 g1 k1 r1 ⟨j, ds, h1, h2, h3⟩ => ?_
  refine ⟨isTy_ok k1 r1 (isL_ty h1 h2), h3 bad1 as1 σ H1 _ k1 fun bad2 as2 H2 w r μ2 g2 k2 r2 ⟨i, ns, h4, h5, h6, h7⟩ => ?_⟩
  subst h1 h4
  obtain ⟨l, ha, rfl⟩ := r1.go g2
  obtain ⟨_, ws, e1, e2⟩ := k2.muts j l _ ha h5
  have ew := ints_rep e2
  subst ew
  refine ⟨l, ns, i, rfl, r2.dat_int, e1, fun _ => ?_, fun z => (z h6).elim⟩
  exact post_wr k2 ((pp.go g1).go g2) ha h5 (ds' := (ns.erase i).map PyData.int) (rep_ints) .non h7
end
theorem e_split (h : Ev X o ρ μ fun s μ1 => ∃ x, s = .dat (.str x) ∧ Ev X e ρ μ1 fun r μ2 => ∃ y, r = .dat (.str y) ∧ (y.length == 0) = false ∧ x.length + 2 ≤ sizeLine ∧ P (.obj μ2.length) (μ2 ++ [some (.lst ((Txt.split x y).map PyData.str))]))
    (hbase : attributeBase o "split" X.env (eval o X.env) = eval o X.env := by rfl)
    (hfew : ((backTo pos (starEach [e] X.env)).all (fun x => !x.1) && (backToKw pos (keywordEach [] X.env)).all (fun x => x.1.isSome) && decide (([e] : List Expr).length + ([] : List Keyword).length + (if ([] : List Keyword).isEmpty then 0 else 1) < 30)) = true := by rfl)
    (hline : (apos.endLine == pos.line) = true := by rfl) (hs : starEach [e] X.env = (false, eval e X.env) :: starEach [] X.env := by rfl) (hplain : (backTo pos (starEach [] X.env)).any (·.1) = false := by rfl) : Ev X (.Call (.Attribute o "split" apos) [e] [] pos) ρ μ P :=
  ev_meth PySem.F.plainAttrs_str PySem.F.slot_str_split PySem.F.type_str_split m_split (h.imp fun s μ1 ⟨x, h1, h3⟩ => ⟨by rw [h1]; rfl, ea_cons (h3.imp fun r μ2 ⟨y, h4, h5, h6, h7⟩ => ea_nil ⟨x, y, h1, by rw [h4], h5, h6, h7⟩) hs⟩) hbase hfew hline hs hplain
theorem e_join (h : Ev X o ρ μ fun s μ1 => ∃ x, s = .dat (.str x) ∧ Ev X e ρ μ1 fun r μ2 => ∃ ys, seqOf μ2 r = some (ys.map PyData.str) ∧ (ys.map (·.length)).sum + ys.length * x.length ≤ 16777216 ∧ P (.dat (.str (Txt.join x ys))) μ2)
    (hbase : attributeBase o "join" X.env (eval o X.env) = eval o X.env := by rfl)
    (hfew : ((backTo pos (starEach [e] X.env)).all (fun x => !x.1) && (backToKw pos (keywordEach [] X.env)).all (fun x => x.1.isSome) && decide (([e] : List Expr).length + ([] : List Keyword).length + (if ([] : List Keyword).isEmpty then 0 else 1) < 30)) = true := by rfl)
    (hline : (apos.endLine == pos.line) = true := by rfl) (hs : starEach [e] X.env = (false, eval e X.env) :: starEach [] X.env := by rfl) (hplain : (backTo pos (starEach [] X.env)).any (·.1) = false := by rfl) : Ev X (.Call (.Attribute o "join" apos) [e] [] pos) ρ μ P :=
  ev_meth PySem.F.plainAttrs_str PySem.F.slot_str_join PySem.F.type_str_join m_join (h.imp fun s μ1 ⟨x, h1, h3⟩ => ⟨by rw [h1]; rfl, ea_cons (h3.imp fun r μ2 ⟨y, h4, h5, h6⟩ => ea_nil ⟨x, r, y, h1, rfl, h4, h5, h6⟩) hs⟩) hbase hfew hline hs hplain
theorem e_starts (h : Ev X o ρ μ fun s μ1 => ∃ x, s = .dat (.str x) ∧ Ev X e ρ μ1 fun r μ2 => ∃ y, r = .dat (.str y) ∧ P (.dat (.bool (Txt.startswith x y))) μ2)
    (hbase : attributeBase o "startswith" X.env (eval o X.env) = eval o X.env := by rfl)
    (hfew : ((backTo pos (starEach [e] X.env)).all (fun x => !x.1) && (backToKw pos (keywordEach [] X.env)).all (fun x => x.1.isSome) && decide (([e] : List Expr).length + ([] : List Keyword).length + (if ([] : List Keyword).isEmpty then 0 else 1) < 30)) = true := by rfl)
    (hline : (apos.endLine == pos.line) = true := by rfl) (hs : starEach [e] X.env = (false, eval e X.env) :: starEach [] X.env := by rfl) (hplain : (backTo pos (starEach [] X.env)).any (·.1) = false := by rfl) : Ev X (.Call (.Attribute o "startswith" apos) [e] [] pos) ρ μ P :=
  ev_meth PySem.F.plainAttrs_str PySem.F.slot_str_startswith PySem.F.type_str_startswith m_starts (h.imp fun s μ1 ⟨x, h1, h3⟩ => ⟨by rw [h1]; rfl, ea_cons (h3.imp fun r μ2 ⟨y, h4, h6⟩ => ea_nil ⟨x, y, h1, by rw [h4], h6⟩) hs⟩) hbase hfew hline hs hplain

/-! ### a <= b <= c of whole numbers -/
theorem ev_lele {i j k : Int} (ha : Ev X a ρ μ (isD (.int i) μ)) (hb : Ev X b ρ μ (isD (.int j) μ)) (hc : Ev X c ρ μ (isD (.int k) μ)) (h : P (.dat (.bool (decide (i ≤ j) && decide (j ≤ k)))) μ) (hm : lastMarks [.LtE, .LtE] [b, c] = false := by with_unfolding_all rfl) : Ev X (.Compare a [.LtE, .LtE] [b, c] pos) ρ μ P :=
  ev_chain c_le c_le (ha.is (hb.is ⟨_, rfl, fun e => hc.is (andT (PB := fun k μ => P (.dat (.bool k)) μ) (p := decide (i ≤ j)) e h), fun e => andF (PB := fun k μ => P (.dat (.bool k)) μ) (p := decide (i ≤ j)) e h⟩)) hm
theorem ev_lelt {i j k : Int} (ha : Ev X a ρ μ (isD (.int i) μ)) (hb : Ev X b ρ μ (isD (.int j) μ)) (hc : Ev X c ρ μ (isD (.int k) μ)) (h : P (.dat (.bool (decide (i ≤ j) && decide (j < k)))) μ) (hm : lastMarks [.LtE, .Lt] [b, c] = false := by with_unfolding_all rfl) : Ev X (.Compare a [.LtE, .Lt] [b, c] pos) ρ μ P :=
  ev_chain c_le c_lt (ha.is (hb.is ⟨_, rfl, fun e => hc.is (andT (PB := fun k μ => P (.dat (.bool k)) μ) (p := decide (i ≤ j)) e h), fun e => andF (PB := fun k μ => P (.dat (.bool k)) μ) (p := decide (i ≤ j)) e h⟩)) hm
theorem et_lele {i j k : Int} (ha : Ev X a ρ μ (isD (.int i) μ)) (hb : Ev X b ρ μ (isD (.int j) μ)) (hc : Ev X c ρ μ (isD (.int k) μ)) (h : PB (decide (i ≤ j) && decide (j ≤ k)) μ) (hm : lastMarks [.LtE, .LtE] [b, c] = false := by with_unfolding_all rfl) : Et X (.Compare a [.LtE, .LtE] [b, c] pos) ρ μ PB :=
  et_chain c_le c_le (ha.is (hb.is ⟨_, rfl, fun e => hc.is ⟨_, rfl, andT (p := decide (i ≤ j)) e h⟩, fun e => andF (p := decide (i ≤ j)) e h⟩)) hm
theorem et_lelt {i j k : Int} (ha : Ev X a ρ μ (isD (.int i) μ)) (hb : Ev X b ρ μ (isD (.int j) μ)) (hc : Ev X c ρ μ (isD (.int k) μ)) (h : PB (decide (i ≤ j) && decide (j < k)) μ) (hm : lastMarks [.LtE, .Lt] [b, c] = false := by with_unfolding_all rfl) : Et X (.Compare a [.LtE, .Lt] [b, c] pos) ρ μ PB :=
  et_chain c_le c_lt (ha.is (hb.is ⟨_, rfl, fun e => hc.is ⟨_, rfl, andT (p := decide (i ≤ j)) e h⟩, fun e => andF (p := decide (i ≤ j)) e h⟩)) hm

/-! ### comprehensions over told lists -/
variable {elt tg iter : Expr} {scope : Scope}
theorem lcd_mapT {α : Type} {js vs : List Nat} {ds : List PyData} {μ1 : Mu} (xs : List α) (inj : α → PyData) (f : α → PyData) (hds : ds = xs.map inj) (hz : xs.length ≤ sizeLine)
    (h : ∀ x ∈ xs, ∀ acc, AgB X scope tg js (.dat (inj x)) (wipeE ρ vs) (μ1 ++ [some (.lst acc)]) fun ρ2 μ2 => EvB X scope elt ρ2 μ2 fun r μ4 => r = .dat (f x) ∧ μ4 = μ1 ++ [some (.lst acc)])
    (fin : P (.obj μ1.length) (μ1 ++ [some (.lst (xs.map f))])) : LcD X scope tg [] elt js vs ρ P ds μ1 := by
  subst hds
  refine ⟨fun i acc μ' => i ≤ xs.length ∧ acc = (xs.take i).map f ∧ μ' = μ1, ⟨Nat.zero_le _, rfl, rfl⟩, ?_, ?_, ?_⟩
  · rintro i acc μ' ⟨_, rfl, rfl⟩
    refine ⟨rfl, fun hi => ?_⟩
    rw [List.length_map] at hi
    rw [List.length_map, List.length_take]
    omega
  · rintro i d acc μ' hd ⟨hi, rfl, rfl⟩ s0 H0 C cl fp
    rw [List.getElem?_map] at hd
    cases ex : xs[i]? with
    | none => rw [ex] at hd; cases hd
    | some x =>
      rw [ex] at hd
      obtain rfl := Option.some.inj hd
      have hlt := (List.getElem?_eq_some_iff.mp ex).1
      intro bad as σ H v Q k r p
      refine h x (List.mem_of_getElem? ex) _ s0 H0 C cl fp bad as σ H v Q k r fun bad' as' σ' H' ρ' μ2 g k' st hq => p bad' as' σ' H' ρ' μ2 g k' st ?_
      intro s1 H1 C1 cl1 fp1
      refine (hq s1 H1 C1 cl1 fp1).imp fun r μ4 ⟨e1, e2⟩ => ⟨f x, μ', e1, e2, hlt, ?_, rfl⟩
      rw [List.take_add_one, ex, Option.toList_some, List.map_append]
      rfl
  · rintro acc μ' ⟨_, rfl, rfl⟩
    rw [List.length_map, List.take_length]
    exact fin
end
end Dv

set_option maxRecDepth 100000
set_option maxHeartbeats 4000000
namespace Dv
open PySem PySem.Spec PyProof.Rows L2
def kinds : List String := ["NoneType", "bool", "int", "str", "list", "tuple", "dict"]
theorem kit_tab : (kinds.all fun a => kinds.all fun b => kitB a b == some (a == b || (a == "bool" && b == "int"))) = true := by decide +kernel
theorem kit_at {a b : String} (ha : a ∈ kinds) (hb : b ∈ kinds) : kitB a b = some (a == b || (a == "bool" && b == "int")) := eq_of_beq (List.all_eq_true.mp (List.all_eq_true.mp kit_tab a ha) b hb)
theorem kit_yes {a b : String} (h : (kinds.contains a && (kinds.contains b && (a == b || (a == "bool" && b == "int")))) = true) : kitB a b = some true := by
  rw [Bool.and_eq_true, Bool.and_eq_true] at h
  rw [kit_at (List.contains_iff_mem.mp h.1) (List.contains_iff_mem.mp h.2.1), h.2.2]
theorem kit_no {a b : String} (h : (kinds.contains a && (kinds.contains b && !(a == b || (a == "bool" && b == "int")))) = true) : kitB a b = some false := by
  rw [Bool.and_eq_true, Bool.and_eq_true, Bool.not_eq_true'] at h
  rw [kit_at (List.contains_iff_mem.mp h.1) (List.contains_iff_mem.mp h.2.1), h.2.2]
section
variable {Pr : RR → Mu → Prop} {n : Nat} {μ μ' : Mu} {d d' : PyData}
theorem retD (e : d = d') (hP : Pr (.dat d') μ') (em : μ.take n = μ') : rtP n Pr (.dat d) μ := by
  subst e em; exact hP
theorem retO {j : Nat} {m m' : MO} (hj : n ≤ j) (hm : μ[j]? = some (some m)) (e : m = m') (hP : Pr (.new m') μ') (em : μ.take n = μ') : rtP n Pr (.obj j) μ := by
  subst e em
  show if j < n then _ else _
  rw [if_neg (by omega)]
  exact ⟨m, hm, hP⟩
theorem retA {j : Nat} (hj : j < n) (hP : Pr (.arg j) μ') (em : μ.take n = μ') : rtP n Pr (.obj j) μ := by
  subst em
  show if j < n then _ else _
  rw [if_pos hj]
  exact hP
end
section
variable {spec : Spec} {μ : Mu} {P : Sl → Mu → Prop}
/-- a call: the first argument a list that is changed, the others data -/
theorem callP_o1 {j : Nat} {m : MO} {rest : List Sl} (hr : rest.all (okS 0) = true) (hj : μ[j]? = some (some m)) (h : spec (.obj 0 :: rest) [some m] (backP μ [j] P)) : CallP spec (.obj j :: rest) μ P := by
  refine ⟨[j], .obj 0 :: rest, by simp, ?_, ?_, fun i hi => ⟨m, by rw [List.mem_singleton.mp hi]; exact hj⟩, ?_⟩
  · rw [List.all_cons]
    refine Bool.and_eq_true_iff.mpr ⟨rfl, List.all_eq_true.mpr fun s hs => ?_⟩
    have := List.all_eq_true.mp hr s hs
    cases s with
    | obj i => exact absurd this (by unfold okS; simp)
    | _ => rfl
  · have : ∀ l : List Sl, l.all (okS 0) = true → l.map (renS [j]) = l := fun l => by
      induction l with
      | nil => exact fun _ => rfl
      | cons a l ih =>
        intro h
        rw [List.all_cons, Bool.and_eq_true] at h
        rw [List.map_cons, ih h.2]
        congr 1
        cases a with
        | obj i => exact absurd h.1 (by unfold okS; simp)
        | _ => rfl
    rw [List.map_cons, this rest hr]
    rfl
  · rw [show ([j].map fun j => (μ[j]?).getD none) = [some m] by rw [List.map_cons, hj]; rfl]
    exact h
end
end Dv

set_option maxRecDepth 100000
set_option maxHeartbeats 4000000
namespace Dv
open PySem PySem.Spec PyProof.Rows L2

section
variable {X : Cx} {ρ : Env} {μ : Mu} {P : Sl → Mu → Prop} {PB : Bool → Mu → Prop} {pos : Pos} {a b c e : Expr} {rest : List Expr}
theorem ew_orT (h1 : Et X a ρ μ (isB true μ)) (h : PB true μ) : Ew X (.BoolOp .Or (a :: b :: rest) pos) ρ μ PB := ew_or (h1.is ⟨fun _ => h, fun e => (nomatch e)⟩)
theorem ew_andF (h1 : Et X a ρ μ (isB false μ)) (h : PB false μ) : Ew X (.BoolOp .And (a :: b :: rest) pos) ρ μ PB := ew_and (h1.is ⟨fun e => (nomatch e), fun _ => h⟩)
end
/-! ### objects as data -/
def frzN (μ : Mu) (n : Nat) : Option Sl → Option Sl
  | some (.obj j) => if j < n then some (.obj j) else (lstOf μ (.obj j)).map fun ds => .dat (.list ds)
  | s => s
theorem lstOf_obj {μ : Mu} {j : Nat} {ds : List PyData} (h : lstOf μ (.obj j) = some ds) : μ[j]? = some (some (.lst ds)) := by
  unfold lstOf at h
  dsimp only at h
  split at h
  · rename_i e
    cases h
    exact e
  · cases h
section
variable {K : PySem.W.Frag} {bad : Bad} {as : List Addr} {σ : L2.St} {H : Hp} {ρ : Env} {μ : Mu} {n : Nat}
theorem SOk.freeze (k : SOk K bad as σ H ρ μ) (n : Nat) : SOk K (less bad as μ n) (as.take n) σ H (ρ.map (frzN μ n)) (μ.take n) := by
  have k1 : SOk K bad as σ H (ρ.map (clip n)) μ := k.fewer (by rw [List.length_map]) fun i s e => (clip_get e).1
  have k2 := k1.take (n := n) fun i j e => (clip_get e).2 j rfl
  refine ⟨by rw [List.length_map]; exact k.ls, k2.la, k2.nd, k2.muts, k2.bin, fun i s e => ?_⟩
  rw [List.getElem?_map] at e
  cases er : ρ[i]? with
  | none => rw [er] at e; cases e
  | some o =>
    rw [er] at e
    have e : frzN μ n o = some s := Option.some.inj e
    have old : clip n o = some s → ∃ v, σ[i]? = some (some v) ∧ SRep K (less bad as μ n) (as.take n) H v s := fun h => k2.slot i s (by rw [List.getElem?_map, er]; exact congrArg some h)
    cases o with
    | none => cases e
    | some t =>
      cases t with
      | obj j =>
        have e : (if j < n then some (Sl.obj j) else (lstOf μ (.obj j)).map fun ds => Sl.dat (.list ds)) = some s := e
        split at e
        · rename_i hj
          exact old (by show (if j < n then some (Sl.obj j) else none) = some s; rw [if_pos hj]; exact e)
        · rename_i hj
          cases el : lstOf μ (.obj j) with
          | none => rw [el] at e; cases e
          | some ds =>
            rw [el] at e
            obtain rfl := Option.some.inj e
            have hm := lstOf_obj el
            obtain ⟨v, h1, a, h2, rfl⟩ := k.slot i (.obj j) er
            obtain ⟨_, vs, h3, h4⟩ := k.muts j a _ h2 hm
            exact ⟨_, h1, Rp.lst h3 (fun z => z.2 ⟨j, _, by omega, h2, hm⟩) (h4.sub fun _ z => z.1)⟩
      | _ => exact old e
theorem flat_any {bad' : Bad} {H' : Hp} {v : V} {d : PyData} (h : flatD d = true) (r : Rp K bad H v d) : Rp K bad' H' v d := by
  cases r with
  | non => exact .non
  | bl b => exact .bl b
  | int i => exact .int i
  | str x => exact .str x
  | lst _ _ _ => cases h
  | tup _ _ => cases h
theorem SOk.melt {bad2 : Bad} {as2 : List Addr} {H2 : Hp} (k : SOk K bad as σ H ρ μ) (g : Go (less bad as μ 0) [] H bad2 as2 H2) : Go bad as H bad as H2 ∧ SOk K bad as σ H2 ρ μ := by
  have kp : Kept bad H H2 := fun a o e n => g.keep a o e fun z => n z.1
  have g2 : Go bad as H bad as H2 := ⟨⟨[], by simp⟩, fun _ h => h, fun _ h => .inl h, fun _ h => .inl h, fun j a h e => by have := (List.getElem?_eq_some_iff.mp e).1; omega, kp, g.stay⟩
  refine ⟨g2, k.ls, k.la, k.nd, fun i a m e q => ?_, fun a z => g.stay a (k.bin a z), fun i s e => ?_⟩
  · obtain ⟨b, r⟩ := k.muts i a m e q
    refine ⟨b, r.step kp (fun _ z => .inl z) ?_⟩
    obtain ⟨o, eo, _⟩ := r.nim
    rw [eo]
    exact g.keep a o eo fun z => (z.2 ⟨i, m, Nat.zero_le _, e, q⟩).elim
  · obtain ⟨v, h1, h2⟩ := k.slot i s e
    exact ⟨v, h1, h2.go g2⟩
end
section
variable {X : Cx} {S : Snap} {ρ : Env} {μ : Mu} {P : Sl → Mu → Prop} {PB : Bool → Mu → Prop} {D : DE} {e : Expr}
theorem Et.frz {p : Bool} (h : Et X e (ρ.map (frzN μ 0)) [] (isB p [])) (q : PB p μ) : Et X e ρ μ PB := fun bad as σ H Q k pp =>
  h _ _ σ H Q (k.freeze 0) fun bad2 as2 H2 b μ2 g k2 ⟨e1, e2⟩ => by
    subst e1
    obtain ⟨g3, k3⟩ := k.melt g
    exact pp _ _ _ _ _ g3 k3 q
theorem Ev.frz {d : PyData} (hf : flatD d = true) (h : Ev X e (ρ.map (frzN μ 0)) [] (isD d [])) (q : P (.dat d) μ) : Ev X e ρ μ P := fun bad as σ H Q k pp =>
  h _ _ σ H Q (k.freeze 0) fun bad2 as2 H2 v r μ2 g k2 r2 ⟨e1, e2⟩ => by
    subst e1
    obtain ⟨g3, k3⟩ := k.melt g
    exact pp _ _ _ _ (.dat d) _ g3 k3 (flat_any hf r2) q
/-- the objects from the n-th on are data from here on -/
theorem s_freeze {sts : List Stmt} (n : Nat) (hn : S.as0.length ≤ n) (h : Sx X S sts (ρ.map (frzN μ n)) (μ.take n) D) : Sx X S sts ρ μ D := fun bad as σ H De r k d =>
  h _ _ σ H De (reach_take (μ := μ) r hn) (k.freeze n) d
end
end Dv

set_option maxRecDepth 100000
set_option maxHeartbeats 4000000
namespace Dv
open PySem PySem.Spec PyProof.Rows L2
def enumP {α : Type} (i : Nat) : List α → List (Nat × α)
  | [] => []
  | d :: ds => (i, d) :: enumP (i + 1) ds
theorem enumD_map {α : Type} (f : α → PyData) : ∀ (xs : List α) (i : Nat), enumD i (xs.map f) = (enumP i xs).map fun p => .tuple [.int (p.1 : Nat), f p.2]
  | [], _ => rfl
  | x :: xs, i => by
    show PyData.tuple [.int (i : Nat), f x] :: enumD (i + 1) (xs.map f) = _
    rw [enumD_map f xs (i + 1)]
    rfl
theorem enumP_mem {α : Type} {p : Nat × α} : ∀ {xs : List α} {i : Nat}, p ∈ enumP i xs → p.2 ∈ xs
  | x :: xs, i, h => by
    rcases List.mem_cons.mp (show p ∈ (i, x) :: enumP (i + 1) xs from h) with rfl | h
    · exact List.mem_cons_self
    · exact List.mem_cons_of_mem _ (enumP_mem h)
theorem enumP_len {α : Type} : ∀ {xs : List α} {i : Nat}, (enumP i xs).length = xs.length
  | [], _ => rfl
  | x :: xs, i => congrArg (· + 1) (enumP_len (xs := xs) (i := i + 1))
theorem star_last {α : Type} (f : α → PyData) (init : List α) (l : α) : starD ((init ++ [l]).map f) 2 0 = [.list (init.map f), f l] := by
  unfold starD
  have e : ((init ++ [l]).map f).length + 1 - 2 = (init.map f).length := by simp
  rw [e]
  simp
theorem star_first (d : PyData) (ds : List PyData) : starD (d :: ds) 2 1 = [d, .list ds] := by
  unfold starD
  simp
section
variable {X : Cx} {ρ : Env} {μ : Mu} {js : List Nat} {ts : List Expr} {ds ds' : List PyData} {P : Env → Mu → Prop} {PB : Bool → Mu → Prop} {c : Expr} {Ps : Sl → Mu → Prop} {e : Expr}
theorem ags_eq (e : ds = ds') (h : Ags X ts js ds' ρ μ P) : Ags X ts js ds ρ μ P := e ▸ h
theorem Et.trim (h : Et X c ρ μ fun b μ1 => PB b (μ1.take μ.length)) : Et X c ρ μ PB := fun bad as σ H Q k p =>
  h bad as σ H Q k fun bad' as' H' b μ' g k' q => by
    have la := k.la
    have hρ : ∀ (i j : Nat), ρ[i]? = some (some (.obj j)) → j < μ.length := fun i j e => by
      obtain ⟨v, _, a, h2, _⟩ := k.slot i _ e
      have := (List.getElem?_eq_some_iff.mp h2).1
      omega
    exact p _ _ _ b _ (go_take (μ' := μ') g k.bin (by omega)) (k'.take hρ) q
theorem int_b {b : Bool} (h : Ps (.dat (.int (if b then 1 else 0))) μ) : dInt1 [.dat (.bool b)] μ Ps := h
theorem int_i {i : Int} (h : Ps (.dat (.int i)) μ) : dInt1 [.dat (.int i)] μ Ps := h
theorem str_i {i : Int} (hz : i.natAbs.log2 < 1920) (h : Ps (.dat (.str (toString i))) μ) : dStr [.dat (.int i)] μ Ps := ⟨hz, h⟩
theorem str_s {i : Str} (h : Ps (.dat (.str i)) μ) : dStr [.dat (.str i)] μ Ps := h
/-- a made list as data, from a value -/
theorem dataO {n : Nat} {j : Nat} {ds : List PyData} (hj : n ≤ j) (hm : μ[j]? = some (some (.lst ds))) (h : Ps (.dat (.list ds)) (μ.take n)) : dataP n Ps (.obj j) μ := ⟨hj, ds, hm, h⟩
end
end Dv

set_option maxRecDepth 100000
set_option maxHeartbeats 4000000
namespace Dv
open PySem PySem.Spec PyProof.Rows L2
def keepE : List Bool → Env → Env
  | b :: bs, s :: ρ => (match b with | true => s | false => none) :: keepE bs ρ
  | [], _ :: ρ => none :: keepE [] ρ
  | _, [] => []
theorem keepE_len : ∀ {bs : List Bool} {ρ : Env}, (keepE bs ρ).length = ρ.length
  | b :: bs, s :: ρ => by unfold keepE; rw [List.length_cons, keepE_len, List.length_cons]
  | [], s :: ρ => by unfold keepE; rw [List.length_cons, keepE_len, List.length_cons]
  | _ :: _, [] => by unfold keepE; rfl
  | [], [] => by unfold keepE; rfl
theorem keepE_get : ∀ {bs : List Bool} {ρ : Env} {i : Nat} {s : Sl}, (keepE bs ρ)[i]? = some (some s) → ρ[i]? = some (some s)
  | b :: bs, t :: ρ, 0, s, h => by
    unfold keepE at h
    cases b with
    | true => exact h
    | false => cases h
  | b :: bs, t :: ρ, i + 1, s, h => by
    unfold keepE at h
    exact keepE_get (bs := bs) (ρ := ρ) (i := i) h
  | [], t :: ρ, 0, s, h => by unfold keepE at h; cases h
  | [], t :: ρ, i + 1, s, h => by unfold keepE at h; exact keepE_get (bs := []) (ρ := ρ) (i := i) h
  | _ :: _, [], i, s, h => by unfold keepE at h; exact h
  | [], [], i, s, h => by unfold keepE at h; exact h
section
variable {X : Cx} {S : Snap} {ρ : Env} {μ : Mu} {P : Sl → Mu → Prop} {PB : Bool → Mu → Prop} {D : DE} {o e : Expr} {pos apos : Pos}
/-- the names outside bs forgotten, the objects from n on let go -/
theorem s_keep {sts : List Stmt} (bs : List Bool) (n : Nat) (hn : S.as0.length ≤ n) (h : Sx X S sts (keepE bs (ρ.map (clip n))) (μ.take n) D) : Sx X S sts ρ μ D :=
  s_take n hn (s_fewer keepE_len (fun i s => keepE_get) h)
theorem bk_0 {d : PyData} (h : P (.dat d) μ) : backP μ [] P (.dat d) [] := h
theorem bk_1 {d : PyData} {j : Nat} {m : Option MO} (h : P (.dat d) (μ.set j m)) : backP μ [j] P (.dat d) [m] := h
theorem bk_n0 {m : MO} (h : P (.obj μ.length) (μ ++ [some m])) : backP μ [] P (.new m) [] := h
theorem bk_n1 {j : Nat} {m' : Option MO} {m : MO} (h : P (.obj μ.length) (μ.set j m' ++ [some m])) : backP μ [j] P (.new m) [m'] := h
theorem eraseIdx_mapI (ns : List Int) (j : Nat) : (ns.map PyData.int).eraseIdx j = (ns.eraseIdx j).map PyData.int := by
  induction ns generalizing j with
  | nil => rfl
  | cons n r ih =>
    cases j with
    | zero => rfl
    | succ j => show PyData.int n :: (r.map PyData.int).eraseIdx j = _; rw [ih]; rfl
theorem e_popInt (h : Ev X o ρ μ fun s μ1 => ∃ j ds, s = .obj j ∧ μ1[j]? = some (some (.lst ds)) ∧ Ev X e ρ μ1 fun r μ2 => ∃ (i : Int) (ls : List Int), r = .dat (.int i) ∧ μ2[j]? = some (some (.lst (ls.map PyData.int))) ∧ 0 ≤ i ∧ i < (ls.length : Nat) ∧ i < 2 ^ 62 ∧ ∀ x, ls[i.toNat]? = some x → P (.dat (.int x)) (μ2.set j (some (.lst ((ls.eraseIdx i.toNat).map PyData.int)))))
    (hbase : attributeBase o "pop" X.env (eval o X.env) = eval o X.env := by rfl)
    (hfew : ((backTo pos (starEach [e] X.env)).all (fun x => !x.1) && (backToKw pos (keywordEach [] X.env)).all (fun x => x.1.isSome) && decide (([e] : List Expr).length + ([] : List Keyword).length + (if ([] : List Keyword).isEmpty then 0 else 1) < 30)) = true := by rfl)
    (hline : (apos.endLine == pos.line) = true := by rfl) (hs : starEach [e] X.env = (false, eval e X.env) :: starEach [] X.env := by rfl) (hplain : (backTo pos (starEach [] X.env)).any (·.1) = false := by rfl) : Ev X (.Call (.Attribute o "pop" apos) [e] [] pos) ρ μ P :=
  e_popAt (h.imp fun s μ1 ⟨j, ds, h1, h2, h3⟩ => ⟨j, ds, h1, h2, h3.imp fun r μ2 ⟨i, ls, h4, h5, h6, h7, h8, h9⟩ => by
    have hlt : i.toNat < ls.length := by omega
    refine ⟨i, _, i.toNat, .int ls[i.toNat], h4, h5, by omega, by omega, ?_, ?_, ?_⟩
    · rw [List.length_map]
      exact seqIndex_of h6 (by omega)
    · rw [List.getElem?_map, List.getElem?_eq_getElem hlt]; rfl
    · rw [eraseIdx_mapI]
      exact h9 _ (List.getElem?_eq_getElem hlt)⟩) hbase hfew hline hs hplain
theorem shaped_ints (ls : List Int) : SeqAt.shaped (.list (ls.map PyData.int)) = true := by
  have h : ∀ ls : List Int, PyData.canLayAll0 (ls.map PyData.int) = true ∧ PyData.depthAll (ls.map PyData.int) = 0 := fun ls => by
    induction ls with
    | nil => exact ⟨rfl, rfl⟩
    | cons a r ih => exact ⟨by rw [List.map_cons]; unfold PyData.canLayAll0; rw [ih.1]; rfl, by rw [List.map_cons]; unfold PyData.depthAll; rw [ih.2]; rfl⟩
  unfold SeqAt.shaped PyData.canLay0 PyData.depth
  rw [(h ls).1, (h ls).2]
  rfl
theorem eqv_nil (ds : List PyData) : PyData.eqv (.list ds) (.list []) = decide (ds = []) := by
  cases ds with
  | nil => rfl
  | cons a r => rw [decide_eq_false (by simp)]; rfl
theorem eq_nil {x y : Sl} {ls : List Int} (hx : valOf μ x = some (.list (ls.map PyData.int))) (hy : valOf μ y = some (.list [])) (h : P (.dat (.bool (decide (ls = [])))) μ) : dEqv false x y μ P := by
  refine eq_v hx hy (.inr ⟨shaped_ints ls, rfl⟩) ?_
  rw [eqv_nil, show decide (ls.map PyData.int = []) = decide (ls = []) by simp]
  exact h
theorem ne_nil {x y : Sl} {ls : List Int} (hx : valOf μ x = some (.list (ls.map PyData.int))) (hy : valOf μ y = some (.list [])) (h : P (.dat (.bool (!decide (ls = [])))) μ) : dEqv true x y μ P := by
  refine ne_v hx hy (.inr ⟨shaped_ints ls, rfl⟩) ?_
  rw [eqv_nil, show decide (ls.map PyData.int = []) = decide (ls = []) by simp]
  exact h
theorem any_int (i : Int) : ∀ ls : List Int, ((ls.map PyData.int).any fun e => PyData.eqv e (.int i)) = decide (i ∈ ls)
  | [] => rfl
  | a :: r => by
    rw [List.map_cons, List.any_cons, any_int i r, eqv_i]
    by_cases h : a = i
    · subst h; simp
    · have h2 : ¬ i = a := fun e => h e.symm
      simp [h, h2]
theorem in_ints {K : PySem.W.Frag} {w : World} {i : Int} {y : Sl} {ls : List Int} (hy : seqOf μ y = some (ls.map PyData.int)) (h : P (.dat (.bool (decide (i ∈ ls)))) μ) : dInU K w false (.dat (.int i)) y μ P := by
  refine in_q hy rfl (by rw [List.all_map]; exact List.all_eq_true.mpr fun _ _ => rfl) ?_
  have e : ((ls.map PyData.int).any fun e => PyData.eqv e (.int i)) = decide (i ∈ ls) := any_int i ls
  rw [e]
  exact h
end
end Dv

set_option maxRecDepth 100000
set_option maxHeartbeats 4000000
namespace Dv
open PySem PySem.Spec PyProof.Rows L2
/-- a list of texts -/
def StrL (H : Hp) (a : Addr) : Prop := ∃ vs, H a = some (.lst vs) ∧ ∀ v ∈ vs, ∃ x, v = V.str x
/-- what stands is kept off, lists of texts apart -/
def oldB (bad : Bad) (H : Hp) : Bad := ⟨fun a => bad.av a ∨ (H a ≠ none ∧ ¬ StrL H a), bad.wr, fun a h => .inl (bad.le a h)⟩
def isoS : Sl → Prop
  | .dat d => flatD d = true ∨ ∃ xs : List Str, d = .list (xs.map PyData.str)
  | _ => False
section
variable {K : PySem.W.Frag} {bad : Bad} {σ : L2.St} {H : Hp} {ρ ρi : Env}
theorem strs_vals {bad : Bad} {H : Hp} : ∀ {xs : List Str} {vs : List V}, Rps K bad H vs (xs.map PyData.str) → ∀ v ∈ vs, ∃ x, v = V.str x
  | [], _, .nil, v, h => by cases h
  | x :: xs, _, .cons r t, v, h => by
    cases r
    rcases List.mem_cons.mp h with rfl | h
    · exact ⟨_, rfl⟩
    · exact strs_vals t v h
theorem rps_strs {bad bad' : Bad} {H H' : Hp} : ∀ {xs : List Str} {vs : List V}, Rps K bad H vs (xs.map PyData.str) → Rps K bad' H' vs (xs.map PyData.str)
  | [], _, .nil => .nil
  | x :: xs, _, .cons r t => by
    cases r
    exact .cons (.str x) (rps_strs t)
theorem SOk.iso (k : SOk K bad [] σ H ρ []) (hl : ρi.length = ρ.length) (hi : ∀ (i : Nat) (s : Sl), ρi[i]? = some (some s) → ρ[i]? = some (some s) ∧ isoS s) : SOk K (oldB bad H) [] σ H ρi [] := by
  refine ⟨by rw [hl]; exact k.ls, rfl, fun i j a x y e => by simp at e, fun i a m e => by simp at e, fun a z => z.elim (k.bin a) fun z => z.1, fun i s e => ?_⟩
  obtain ⟨e1, e2⟩ := hi i s e
  obtain ⟨v, h1, h2⟩ := k.slot i s e1
  refine ⟨v, h1, ?_⟩
  cases s with
  | dat d =>
    rcases e2 with e2 | ⟨xs, rfl⟩
    · exact flat_any e2 h2
    · have h2 : Rp K bad H v (.list (xs.map PyData.str)) := h2
      cases h2 with
      | @lst a vs _ ha hb hv => exact Rp.lst ha (fun z => z.elim hb fun z => z.2 ⟨vs, ha, strs_vals hv⟩) (rps_strs hv)
  | _ => exact e2.elim
/-- lists of lists of tuples, made behind H: each is new -/
theorem young {bad2 : Bad} {H2 : Hp} (sub : ∀ a, (oldB bad H).av a → bad2.av a) (bin : ∀ a, bad.av a → H a ≠ none) (kp : Kept bad H H2) : ∀ {vs : List V} {ds : List PyData}, Rps K bad2 H2 vs ds → (∀ d ∈ ds, ∃ t ts, d = PyData.list (.tuple t :: ts) ∧ ts.length ≤ 50) →
    ∀ v ∈ vs, ∃ b xs, v = .ref b ∧ H2 b = some (.lst xs) ∧ xs.length ≤ 51 ∧ H b = none
  | _, _, .nil, _, v, h => by cases h
  | _, _, .cons (v := u) (d := d0) r t, hd, v, h => by
    rcases List.mem_cons.mp h with rfl | h
    · obtain ⟨q, ts, rfl, hl⟩ := hd d0 (by simp)
      cases r with
      | @lst b xs _ hb nb hr =>
        refine ⟨b, xs, rfl, hb, by rw [hr.length]; simpa using Nat.succ_le_succ hl, ?_⟩
        cases e : H b with
        | none => rfl
        | some o =>
          have nb1 : ¬ (oldB bad H).av b := fun z => nb (sub b z)
          have hs : StrL H b := by
            rcases Classical.em (StrL H b) with z | z
            · exact z
            · exact (nb1 (.inr ⟨by rw [e]; exact (fun q => by cases q), z⟩)).elim
          obtain ⟨ws, h1, h2⟩ := hs
          have h3 := kp b _ h1 fun z => (nb1 (.inl (bad.le b z))).elim
          rw [hb] at h3
          obtain rfl := HO.lst.inj (Option.some.inj h3)
          cases hr with
          | cons r1 _ =>
            obtain ⟨x, rfl⟩ := h2 _ List.mem_cons_self
            cases r1
    · exact young sub bin kp t (fun d hd' => hd d (by simp [hd'])) v h
end

section
variable {X : Cx} {bad : Bad} {H H4 : Hp} {σ2 : L2.St} {iT iB iO : Nat} {at_ ab : Addr} {vs ws : List V} {De : Ends} {one told back : Str} {po p1 pt pb pp p2 p3 p4 p5 p6 p7 p8 p9 a1 a2 : Pos} {c1 c2 : Nat}
theorem kept_upd {Hx : Hp} {b : Addr} {o : HO} (kp : Kept bad H Hx) (h : H b = none) : Kept bad H (upd Hx b o) := fun a o' e n => by
  rw [upd_ne (by rintro rfl; rw [h] at e; cases e)]
  exact kp a o' e n
theorem stay_upd {Hx : Hp} {b : Addr} {o : HO} (st : Stays H Hx) : Stays H (upd Hx b o) := fun a z => by
  by_cases q : a = b
  · subst q; rw [upd_same]; exact fun z => by cases z
  · rw [upd_ne q]; exact st a z
theorem probe_tail (hc : X.calm = true) (hN : X.N.Nodup) (hO : X.N[iO]? = some one) (hT : X.N[iT]? = some told) (hB : X.N[iB]? = some back) (lO : X.env.scope.names.lookup one = some .local) (lT : X.env.scope.names.lookup told = some .local) (lB : X.env.scope.names.lookup back = some .local)
    (dO : (one == ("__debug__" : Str)) = false) (dT : (told == ("__debug__" : Str)) = false) (dB : (back == ("__debug__" : Str)) = false) (cO : (one == ("__classdict__" : Str)) = false) (cT : (told == ("__classdict__" : Str)) = false) (cB : (back == ("__classdict__" : Str)) = false)
    (nT : iO ≠ iT) (nB : iO ≠ iB) (hOl : iO < σ2.length) (sT : σ2[iT]? = some (some (.ref at_))) (sB : σ2[iB]? = some (some (.ref ab))) (h1 : H4 at_ = some (.lst vs)) (h2 : H4 ab = some (.lst ws)) (hl : vs.length + ws.length ≤ 100)
    (yv : ∀ v ∈ vs ++ ws, ∃ b xs, v = .ref b ∧ H4 b = some (.lst xs) ∧ xs.length ≤ 51 ∧ H b = none) (hab : H ab = none) (kp : Kept bad H H4) (st : Stays H H4)
    (fin : ∀ σ' H', σ'.length = σ2.length → (∀ i, i ≠ iO → σ'[i]? = σ2[i]?) → Kept bad H H' → Stays H H' → De.nx σ' H')
    (hb1 : attributeBase (.Name one p1) "append" X.env (eval (.Name one p1) X.env) = eval (.Name one p1) X.env := by rfl) (hb2 : attributeBase (.Name back p6) "append" X.env (eval (.Name back p6) X.env) = eval (.Name back p6) X.env := by rfl)
    (hs1 : starEach [.Constant .none c1 p2] X.env = (false, eval (.Constant .none c1 p2) X.env) :: starEach [] X.env := by rfl) (hs2 : starEach [.Constant .none c2 p7] X.env = (false, eval (.Constant .none c2 p7) X.env) :: starEach [] X.env := by rfl)
    (hf1 : ((backTo p3 (starEach [.Constant .none c1 p2] X.env)).all (fun x => !x.1) && (backToKw p3 (keywordEach [] X.env)).all (fun x => x.1.isSome) && decide (([.Constant .none c1 p2] : List Expr).length + ([] : List Keyword).length + (if ([] : List Keyword).isEmpty then 0 else 1) < 30)) = true := by rfl)
    (hf2 : ((backTo p8 (starEach [.Constant .none c2 p7] X.env)).all (fun x => !x.1) && (backToKw p8 (keywordEach [] X.env)).all (fun x => x.1.isSome) && decide (([.Constant .none c2 p7] : List Expr).length + ([] : List Keyword).length + (if ([] : List Keyword).isEmpty then 0 else 1) < 30)) = true := by rfl)
    (hl1 : (a1.endLine == p3.line) = true := by rfl) (hl2 : (a2.endLine == p8.line) = true := by rfl) (hp1 : (backTo p3 (starEach [] X.env)).any (·.1) = false := by rfl) (hp2 : (backTo p8 (starEach [] X.env)).any (·.1) = false := by rfl)
    (hw1 : swapsWith (.Call (.Attribute (.Name one p1) "append" a1) [.Constant .none c1 p2] [] p3) none p4.line X.env = pure false := by rfl) (hw2 : swapsWith (.Call (.Attribute (.Name back p6) "append" a2) [.Constant .none c2 p7] [] p8) none p9.line X.env = pure false := by rfl)
    (hpo : PassesOwn (model X.prog X.w) X.A X.env X.xe := by exact PassesOwn.never) (hfs : ∀ x, foldedSetIterable (.BinOp (.Name told pt) .Add (.Name back pb) pp) X.env x = pure x := by intro _; rfl) :
    wpSs X [.For (.Name one po) (.BinOp (.Name told pt) .Add (.Name back pb) pp) [.Expr (.Call (.Attribute (.Name one p1) "append" a1) [.Constant .none c1 p2] [] p3) p4] [] p5, .Expr (.Call (.Attribute (.Name back p6) "append" a2) [.Constant .none c2 p7] [] p8) p9] De σ2 H4 := by
  refine wpSs_of (pss_cons (ps_for hpo hc (pi_list (pe_op op_cat (pe_var hT (.inl lT) dT cT) (pe_var hB (.inl lB) dB cB))) (pg_name hN hO (.inl lO) (.inr lO)) (pss_cons (ps_expr (pe_bm PySem.F.plainAttrs_list PySem.F.slot_list_append PySem.F.type_list_append mt_append (pe_var hO (.inl lO) dO cO) (pa_cons pe_non pa_nil hs1) hb1 hf1 hl1 hs1 hp1) hw1) pss_nil) hfs)
    (pss_cons (ps_expr (pe_bm PySem.F.plainAttrs_list PySem.F.slot_list_append PySem.F.type_list_append mt_append (pe_var hB (.inl lB) dB cB) (pa_cons pe_non pa_nil hs2) hb2 hf2 hl2 hs2 hp2) hw2) pss_nil)) ?_
  have hli : (vs ++ ws).length ≤ 100 := by rw [List.length_append]; exact hl
  refine ⟨_, sT, _, sB, at_, ab, vs, ws, rfl, rfl, h1, h2, by rw [sizeLine_eq]; omega, fun p hp => ?_⟩
  have there : ∀ {a : Addr} {o : HO}, H4 a = some o → a ≠ p := fun e => by rintro rfl; rw [hp] at e; cases e
  refine ⟨p, rfl, ⟨_, SqL.of upd_same⟩, ?_⟩
  refine ⟨fun i m σx Hx => m = (vs ++ ws).length - i ∧ i ≤ (vs ++ ws).length ∧ σx.length = σ2.length ∧ (∀ j, j ≠ iO → σx[j]? = σ2[j]?) ∧ Kept bad H Hx ∧ Stays H Hx ∧ Hx p = some (.lst (vs ++ ws)) ∧ (∀ v ∈ vs ++ ws, ∃ b xs, v = .ref b ∧ Hx b = some (.lst xs) ∧ xs.length ≤ 100 + i ∧ H b = none ∧ b ≠ p) ∧ ∃ us, Hx ab = some (.lst us) ∧ us.length ≤ 100 + i ∧ ab ≠ p,
    ⟨_, rfl, Nat.zero_le _, rfl, fun _ _ => rfl, fun a o e n => ?_, stay_upd st, upd_same, fun v hv => ?_, ws, by rw [upd_ne (there h2)]; exact h2, by omega, there h2⟩, ?_⟩
  · have := kp a o e n
    rw [upd_ne (there this)]
    exact this
  · obtain ⟨b, xs, e1, e2, e3, e4⟩ := yv v hv
    exact ⟨b, xs, e1, by rw [upd_ne (there e2)]; exact e2, by omega, e4, there e2⟩
  · rintro i m σx Hx ⟨rfl, hi, hsl, hsx, kx, sx, hpx, hyx, us, hus, hul, habp⟩
    by_cases hlt : i < (vs ++ ws).length
    · have hg : (vs ++ ws)[i]? = some (vs ++ ws)[i] := List.getElem?_eq_getElem hlt
      refine .inr ⟨⟨_, _, SqL.of hpx, hg⟩, _, fun _ _ q => ⟨(vs ++ ws).length - (i + 1), by omega, q⟩, ?_⟩
      rintro x H' ⟨rfl, hx⟩
      obtain rfl : (vs ++ ws)[i] = x := Option.some.inj (hg.symm.trans (hx _ (SqL.of hpx)))
      obtain ⟨b, xs, e1, e2, e3, e4, e5⟩ := hyx _ (List.getElem_mem hlt)
      have hset : (σx.set iO (some ((vs ++ ws)[i])))[iO]? = some (some (.ref b)) := by
        rw [List.getElem?_set_self (by omega), e1]
      refine ⟨_, hset, .inl ⟨rfl, _, SqL.of e2⟩, b, xs, .non, rfl, rfl, e2, by rw [sizeLine_eq]; omega, ?_⟩
      refine ⟨rfl, hlt, by rw [List.length_set]; exact hsl, fun j hj => by rw [List.getElem?_set_ne (Ne.symm hj)]; exact hsx j hj, kept_upd kx e4, stay_upd sx, by rw [upd_ne (Ne.symm e5)]; exact hpx, fun v hv => ?_, ?_⟩
      · obtain ⟨b', xs', f1, f2, f3, f4, f5⟩ := hyx v hv
        by_cases q : b' = b
        · subst q
          exact ⟨b', _, f1, upd_same, by rw [e2] at f2; rw [List.length_append, List.length_singleton]; omega, f4, f5⟩
        · exact ⟨b', xs', f1, by rw [upd_ne q]; exact f2, by omega, f4, f5⟩
      · by_cases q : ab = b
        · subst q
          exact ⟨_, upd_same, by rw [List.length_append, List.length_singleton]; omega, habp⟩
        · exact ⟨us, by rw [upd_ne q]; exact hus, by omega, habp⟩
    · refine .inl ⟨⟨_, SqL.of hpx, by omega⟩, ?_⟩
      refine ⟨_, (hsx iB (Ne.symm nB)).trans sB, .inl ⟨rfl, _, SqL.of hus⟩, ab, us, .non, rfl, rfl, hus, by rw [sizeLine_eq]; rw [List.length_append] at hi; omega, ?_⟩
      exact fin _ _ hsl hsx (kept_upd kx hab) (stay_upd sx)

theorem go_same {bad : Bad} {H H' : Hp} (kp : Kept bad H H') (st : Stays H H') : Go bad [] H bad [] H' :=
  ⟨⟨[], rfl⟩, fun _ h => h, fun _ h => .inl h, fun _ h => .inl h, fun j a _ e => by simp at e, kp, st⟩
theorem SOk.same {K : PySem.W.Frag} {bad : Bad} {σ σ' : L2.St} {H H' : Hp} {ρ : Env} (k : SOk K bad [] σ H ρ []) (kp : Kept bad H H') (st : Stays H H') (hl : σ'.length = σ.length) (hs : ∀ (i : Nat) (s : Sl), ρ[i]? = some (some s) → σ'[i]? = σ[i]?) : SOk K bad [] σ' H' ρ [] := by
  refine ⟨by rw [hl]; exact k.ls, rfl, fun i j a x y e => by simp at e, fun i a m e => by simp at e, fun a z => st a (k.bin a z), fun i s e => ?_⟩
  obtain ⟨v, h1, h2⟩ := k.slot i s e
  exact ⟨v, (hs i s e).trans h1, h2.go (go_same kp st)⟩
theorem s_probe {S : Snap} {D : DE} {ρ ρi : Env} {iT iB iO : Nat} {dts dbs : List PyData} {elt tg iter e2 c : Expr} {scope : Scope} {bodyI : List Stmt} {posl posa posb posi pt1 pb1 po p1 pt pb pp p2 p3 p4 p5 p6 p7 p8 p9 a1 a2 : Pos} {c1 c2 : Nat} {one told back : Str} (own : List (Str × Nat)) (js : List Nat)
    (hc : X.calm = true) (hN : X.N.Nodup) (hsw : swapsWith (.ListComp elt [⟨tg, iter, [], 0⟩] scope posl) (some (.Name told pt1)) posa.line X.env = pure true) (ok : BlkOk X.N X.env.scope scope own) (hjs : ∀ j ∈ js, j ∈ own.map (·.2))
    (hl : ρi.length = ρ.length) (hi : ∀ (i : Nat) (s : Sl), ρi[i]? = some (some s) → ρ[i]? = some (some s) ∧ isoS s) (zT : ρ[iT]? = some none) (zB : ρ[iB]? = some none) (zO : ρ[iO]? = some none)
    (nTB : iT ≠ iB) (nT : iO ≠ iT) (nB : iO ≠ iB) (hO : X.N[iO]? = some one) (hT : X.N[iT]? = some told) (hB : X.N[iB]? = some back) (lO : X.env.scope.names.lookup one = some .local) (lT : X.env.scope.names.lookup told = some .local) (lB : X.env.scope.names.lookup back = some .local)
    (dO : (one == ("__debug__" : Str)) = false) (dT : (told == ("__debug__" : Str)) = false) (dB : (back == ("__debug__" : Str)) = false) (cO : (one == ("__classdict__" : Str)) = false) (cT : (told == ("__classdict__" : Str)) = false) (cB : (back == ("__classdict__" : Str)) = false)
    (hd : ∀ d ∈ dts ++ dbs, ∃ t ts, d = PyData.list (.tuple t :: ts) ∧ ts.length ≤ 50) (hlen : dts.length + dbs.length ≤ 100)
    (h1 : Iv X tg iter ρi [] (LcD X scope tg [] elt js (own.map (·.2)) ρi fun r μ1 => Ev X e2 (ρi.set iT (some r)) μ1 fun r2 μ2 => ∃ j j2, r = .obj j ∧ r2 = .obj j2 ∧ lstOf μ2 (.obj j) = some dts ∧ lstOf μ2 (.obj j2) = some dbs))
    (h3 : Et X c ((ρ.set iT (some (.dat (.list dts)))).set iB (some (.dat (.list dbs)))) [] (isB false []))
    (fin : D.nx ρ [])
    (hs2' : swapsWith e2 (some (.Name back pb1)) posb.line X.env = pure false := by rfl) (hfs1 : ∀ x, foldedSetIterable iter X.env x = pure x := by intro _; rfl)
    (hb1 : attributeBase (.Name one p1) "append" X.env (eval (.Name one p1) X.env) = eval (.Name one p1) X.env := by rfl) (hb2 : attributeBase (.Name back p6) "append" X.env (eval (.Name back p6) X.env) = eval (.Name back p6) X.env := by rfl)
    (hs1 : starEach [.Constant .none c1 p2] X.env = (false, eval (.Constant .none c1 p2) X.env) :: starEach [] X.env := by rfl) (hs2 : starEach [.Constant .none c2 p7] X.env = (false, eval (.Constant .none c2 p7) X.env) :: starEach [] X.env := by rfl)
    (hf1 : ((backTo p3 (starEach [.Constant .none c1 p2] X.env)).all (fun x => !x.1) && (backToKw p3 (keywordEach [] X.env)).all (fun x => x.1.isSome) && decide (([.Constant .none c1 p2] : List Expr).length + ([] : List Keyword).length + (if ([] : List Keyword).isEmpty then 0 else 1) < 30)) = true := by rfl)
    (hf2 : ((backTo p8 (starEach [.Constant .none c2 p7] X.env)).all (fun x => !x.1) && (backToKw p8 (keywordEach [] X.env)).all (fun x => x.1.isSome) && decide (([.Constant .none c2 p7] : List Expr).length + ([] : List Keyword).length + (if ([] : List Keyword).isEmpty then 0 else 1) < 30)) = true := by rfl)
    (hl1 : (a1.endLine == p3.line) = true := by rfl) (hl2 : (a2.endLine == p8.line) = true := by rfl) (hp1 : (backTo p3 (starEach [] X.env)).any (·.1) = false := by rfl) (hp2 : (backTo p8 (starEach [] X.env)).any (·.1) = false := by rfl)
    (hw1 : swapsWith (.Call (.Attribute (.Name one p1) "append" a1) [.Constant .none c1 p2] [] p3) none p4.line X.env = pure false := by rfl) (hw2 : swapsWith (.Call (.Attribute (.Name back p6) "append" a2) [.Constant .none c2 p7] [] p8) none p9.line X.env = pure false := by rfl)
    (hpo : PassesOwn (model X.prog X.w) X.A X.env X.xe := by exact PassesOwn.never) (hfs : ∀ x, foldedSetIterable (.BinOp (.Name told pt) .Add (.Name back pb) pp) X.env x = pure x := by intro _; rfl) :
    Sx X S [.Assign [.Name told pt1] (.ListComp elt [⟨tg, iter, [], 0⟩] scope posl) posa, .Assign [.Name back pb1] e2 posb, .If c bodyI [] posi, .For (.Name one po) (.BinOp (.Name told pt) .Add (.Name back pb) pp) [.Expr (.Call (.Attribute (.Name one p1) "append" a1) [.Constant .none c1 p2] [] p3) p4] [] p5, .Expr (.Call (.Attribute (.Name back p6) "append" a2) [.Constant .none c2 p7] [] p8) p9] ρ [] D := fun bad as σ H De r k d => by
  obtain rfl : as = [] := List.eq_nil_of_length_eq_zero k.la
  obtain ⟨wi, hpi, hw⟩ := h1
  have hTl : iT < σ.length := by rw [k.ls]; exact (List.getElem?_eq_some_iff.mp zT).1
  have hBl : iB < σ.length := by rw [k.ls]; exact (List.getElem?_eq_some_iff.mp zB).1
  have hOl : iO < σ.length := by rw [k.ls]; exact (List.getElem?_eq_some_iff.mp zO).1
  refine wpSs_of (pss_cons (ps_setLc (g := wpGB X scope tg) (tt := tYes) (te := wpEB X scope elt) hc hN hT lT hsw hpi ok (fun s H C cl fp => ⟨fun pins s1 σ H1 v u Q I r hq => hq s H C cl fp pins s1 u I r⟩) (fun _ _ _ _ _ => pts_nil) (fun s H C cl fp => ⟨fun pins s1 σ H1 Q I hq => hq s H C cl fp pins s1 I⟩) hfs1)
    (pss_cons (ps_set hN hB (.inl lB) wpE_pe hs2' (.inr lB)) (pss_cons (ps_if wpT_pt wpSs_pss wpSs_pss) wpSs_pss))) ?_
  dsimp only [tSeq, tAsg, gName, tIfS]
  refine lc_read (J := ⟨fun _ _ => True, fun _ _ _ _ => True, fun _ _ => True⟩) .nil hjs (k.iso hl hi) hw fun bad1 as1 H1 v r1 μ1 g1 k1 rr1 q1 => ?_
  refine q1 bad1 as1 (σ.set iT (some v)) H1 _ (k1.set iT rr1) fun bad2 as2 H2 v2 r2 μ2 g2 k2 rr2 ⟨j, j2, e1, e2', l1, l2⟩ => ?_
  subst e1 e2'
  have g := g1.trans g2
  obtain ⟨at_, ha1, rfl⟩ := rr1.go g2
  obtain ⟨ab, ha2, rfl⟩ := rr2
  obtain ⟨_, vs, hv1, hv2⟩ := k2.muts j at_ _ ha1 (lstOf_obj l1)
  obtain ⟨_, ws, hw1', hw2'⟩ := k2.muts j2 ab _ ha2 (lstOf_obj l2)
  have kp : Kept bad H H2 := fun a o e n => g.keep a o e n
  have nat : H at_ = none := g.newA j at_ (Nat.zero_le _) ha1
  have nab : H ab = none := g.newA j2 ab (Nat.zero_le _) ha2
  have nb : ∀ {a : Addr}, H a = none → ¬ bad.av a := fun h z => k.bin _ z h
  have sub : ∀ a, bad.av a → bad2.av a := fun a z => g.sub a (.inl z)
  have y1 := young g.sub k.bin kp hv2 fun d hd' => hd d (List.mem_append_left _ hd')
  have y2 := young g.sub k.bin kp hw2' fun d hd' => hd d (List.mem_append_right _ hd')
  have kb : SOk X.K bad [] σ H2 ρ [] := k.same kp g.stay rfl fun _ _ _ => rfl
  have rT : SRep X.K bad [] H2 (.ref at_) (.dat (.list dts)) := Rp.lst hv1 (nb nat) (hv2.sub sub)
  have rB : SRep X.K bad [] H2 (.ref ab) (.dat (.list dbs)) := Rp.lst hw1' (nb nab) (hw2'.sub sub)
  refine h3 bad [] ((σ.set iT (some (.ref at_))).set iB (some (.ref ab))) H2 _ ((kb.set iT rT).set iB rB) fun bad4 as4 H4 b μ4 g4 k4 ⟨eb, eμ⟩ => ?_
  subst eb
  rw [if_neg Bool.false_ne_true]
  refine wpSs_of pss_nil ?_
  have k24 : ∀ {a : Addr} {o : HO}, H2 a = some o → H a = none → H4 a = some o := fun e h => g4.keep _ _ e fun z => (nb h (bad.le _ z)).elim
  have kp4 : Kept bad H H4 := fun a o e n => g4.keep a o (kp a o e n) n
  have st4 : Stays H H4 := fun a z => g4.stay a (g.stay a z)
  refine probe_tail (bad := bad) (H := H) hc hN hO hT hB lO lT lB dO dT dB cO cT cB nT nB (by rw [List.length_set, List.length_set]; exact hOl) (by rw [List.getElem?_set_ne (Ne.symm nTB), List.getElem?_set_self hTl]) (List.getElem?_set_self (by rw [List.length_set]; exact hBl)) (k24 hv1 nat) (k24 hw1' nab) (by rw [hv2.length, hw2'.length]; exact hlen) (fun u hu => ?_) nab kp4 st4 (fun σ' H' hl' hs' kp' st' => ?_) hb1 hb2 hs1 hs2 hf1 hf2 hl1 hl2 hp1 hp2 hw1 hw2 hpo hfs
  · rcases List.mem_append.mp hu with hu | hu
    · obtain ⟨b, xs, f1, f2, f3, f4⟩ := y1 u hu
      exact ⟨b, xs, f1, k24 f2 f4, f3, f4⟩
    · obtain ⟨b, xs, f1, f2, f3, f4⟩ := y2 u hu
      exact ⟨b, xs, f1, k24 f2 f4, f3, f4⟩
  · refine d.nx bad [] σ' H' ρ [] (r.go k.bin (go_same kp' st')) (k.same kp' st' (by rw [hl', List.length_set, List.length_set]) fun i s e => ?_) fin
    have n1 : i ≠ iO := by rintro rfl; rw [zO] at e; cases e
    have n2 : i ≠ iT := by rintro rfl; rw [zT] at e; cases e
    have n3 : i ≠ iB := by rintro rfl; rw [zB] at e; cases e
    rw [hs' i n1, List.getElem?_set_ne (Ne.symm n3), List.getElem?_set_ne (Ne.symm n2)]
end

section
variable {P : Program} {w : World} {K : PySem.W.Frag} {mg : Str → Option Value} {base : Heap}
theorem fnok_data {x : Str} {st : Stmt} {f : Addr} {fd : FuncData} {N ps : List Str} {k : Nat} {spec : Spec} (F : C8.Fun K x x st f fd) (S : FnScope N ps (C8.fnScope st)) (len : ∀ sls μ P, spec sls μ P → sls.length = ps.length)
    (body : ∀ (X : Cx), (∃ cdv A outer s H E, X = (cxOf L2.CX0 P w K mg base N x (C8.fnScope st) f cdv A outer s H E).nox) → Room k X.A → ∀ (S : Snap) sls μ Pr, S.as0.length = μ.length → spec sls μ Pr →
      Sx X S (C8.fnBody st) (entry N sls) μ { nx := fun _ μ' => rtP μ.length Pr (.dat .none) μ', rt := rtP μ.length Pr }) : FnOk P w K mg base L2.CX0 (k + 1) f fd ps (DSp K spec) := by
  refine C8.fn0 F S (fun vs H Q E ⟨bad, as, sls, μ, Pr, k0, hs, _⟩ => ?_) fun cdv A outer s H vs Q E hr ⟨bad, as, sls, μ, Pr, k0, hs, hq⟩ => ?_
  · have := k0.ls
    rw [List.length_map, List.length_map] at this
    exact this.trans (len _ _ _ hs)
  · have la := k0.la
    refine ⟨_, wpSs_pss, body _ ⟨cdv, A, outer, s, H, E, rfl⟩ hr ⟨as, bad, bad, H⟩ sls μ Pr la hs bad as _ H _ Reach.start k0.start ⟨fun b a σ' H' ρ' μ' q k1 h1 => ?_, fun b a σ' H' ρ' μ' v r q k1 r1 h1 => ?_, fun _ _ _ _ _ _ _ _ z => z, fun _ _ _ _ _ _ _ _ z => z⟩⟩
    · obtain ⟨rr, μ2, fe, p⟩ := fend (r := .dat .none) (v := .non) q k1 Rp.non (by rw [la]; exact h1)
      exact hq _ _ _ _ fe p
    · obtain ⟨rr, μ2, fe, p⟩ := fend q k1 r1 (by rw [la]; exact h1)
      exact hq _ _ _ _ fe p
/-- a law's promise, met where it begins -/
theorem sp_begin {spec : Spec} {H : Hp} {a : Addr} {ns : List Int} {E : XK} (hS : SqL K H a (ns.map V.int)) (h : spec [.scr ns] [] fun r _ => r = .dat (.bool true)) : DSp K spec [.ref a] H (fun v _ => v = .bl true) E := by
  refine ⟨⟨fun _ => False, fun _ => False, fun _ h => h⟩, [], [.scr ns], [], fun r _ => r = .dat (.bool true), ⟨rfl, rfl, fun i j a x y e => by simp at e, fun i a m e => by simp at e, fun a z => z.elim, fun i s e => ?_⟩, h, fun v H' r μ' fe hr => ?_⟩
  · cases i with
    | zero =>
      obtain rfl := Option.some.inj (Option.some.inj e)
      refine ⟨.ref a, rfl, a, rfl, ?_⟩
      rcases hS with hS | hS
      · exact .inl ⟨hS, fun z => z⟩
      · exact .inr hS
    | succ i => simp at e
  · subst hr
    have := fe.res
    cases this
    rfl
/-! ### what the top has written -/
inductive KDs (K : PySem.W.Frag) : List DictEntry → List (Str × PyData) → Prop
  | nil : KDs K [] []
  | cons {e : DictEntry} {es : List DictEntry} {k : Str} {t : Tok} {v : V} {d : PyData} {kvs : List (Str × PyData)} : e.key = .str k t → RelV v e.val → (∀ bad H, Rp K bad H v d) → e.refKey = false → KDs K es kvs → KDs K (e :: es) ((k, d) :: kvs)
theorem KDs.find {z : Str} : ∀ {es : List DictEntry} {kvs : List (Str × PyData)}, KDs K es kvs → (∃ d v e, kvs.lookup z = some d ∧ es.find? (fun e => e.key.isStr z) = some e ∧ RelV v e.val ∧ ∀ bad H, Rp K bad H v d) ∨ (kvs.lookup z = none ∧ es.find? (fun e => e.key.isStr z) = none ∧ es.any (·.refKey) = false)
  | _, _, .nil => .inr ⟨rfl, rfl, rfl⟩
  | _, _, .cons (e := e) (k := k) (t := t) (v := v) (d := d) hk hv hd hr h => by
    have e1 : e.key.isStr z = (k == z) := by rw [hk]; rfl
    rw [List.find?_cons, List.lookup_cons, e1]
    by_cases q : k = z
    · subst q
      rw [beq_self_eq_true]
      exact .inl ⟨d, v, e, rfl, rfl, hv, hd⟩
    · rw [beq_eq_false_iff_ne.mpr q, beq_eq_false_iff_ne.mpr (Ne.symm q)]
      rcases KDs.find (z := z) h with h | ⟨h1, h2, h3⟩
      · exact .inl h
      · exact .inr ⟨h1, h2, by rw [List.any_cons, hr, h3]; rfl⟩
theorem kd_of {a : Addr} {es : Array DictEntry} {n : Nat} {kvs : List (Str × PyData)} {ks : List Str} (at_ : K.lookup a = some ⟨.type "dict", none, .dict es n, #[]⟩) (lit : es.toList.map He.keyOf = He.keysIn w.params ks) (low : (a == sysModules) = false) (h : KDs K es.toList kvs) : KD K w a kvs := by
  refine ⟨⟨es, n, at_, He.keysLit_of lit, low⟩, fun z => ?_⟩
  rcases h.find (z := z) with ⟨d, v, e, h1, h2, h3, h4⟩ | ⟨h1, h2, h3⟩
  · refine .inl ⟨d, e.val, v, h1, ?_, h3, h4⟩
    unfold PySem.W.nsIn
    rw [at_]
    dsimp only
    rw [h2]
  · refine .inr ⟨h1, ?_⟩
    unfold PySem.W.nsIn
    rw [at_]
    dsimp only
    rw [h2, h3]
    rfl
theorem ktup_strs {a : Addr} {o : Obj} {its : Array Value} {n : Nat} {xs : List Str} (hl : K.lookup a = some o) (hc : o.cls = .type "tuple") (hd : o.data = .seq its n) (hz : its.size ≤ sizeLine) (r : Vals (xs.map V.str) its.toList) : KTup K a (xs.map PyData.str) := fun bad H =>
  .tup (.inr ⟨o, its, n, hl, hc, hd, hz, r⟩) rep_strs
end
end Dv

set_option maxRecDepth 100000
set_option maxHeartbeats 4000000
namespace K71
open PySem PySem.Spec PyProof.Rows L2 Dv
abbrev PW : Program := PySem.Challenge.pw_coverrows_k71_webs_written
def tp (i : Nat) : Stmt := PW.main.body.getD i (.Pass ⟨0, 0, 0, 0⟩)
theorem units65 {k : Nat} {A : Around} (r : Room k A) : A.units + 65 < cLine := by have := r.un; omega
def kvK : List (Str × PyData) := [("num", .int 0), ("var", .int 0), ("load", .int 1), ("neg", .int 1), ("not", .int 1), ("add", .int 2), ("sub", .int 2), ("mul", .int 2), ("and", .int 2), ("or", .int 2), ("xor", .int 2), ("put", .int 2), ("set", .int 1)]
def kvM : List (Str × PyData) := [("num", .str "word"), ("var", .str "name"), ("set", .str "name")]
def deedD : List PyData := [.str "put", .str "set"]
structure Txt (w : World) (K : PySem.W.Frag) (mg : Str → Option Value) : Prop where
  z_len : mg "len" = none
  z_all : mg "all" = none
  z_any : mg "any" = none
  z_abs : mg "abs" = none
  z_max : mg "max" = none
  z_min : mg "min" = none
  z_int : mg "int" = none
  z_str : mg "str" = none
  z_bool : mg "bool" = none
  z_list : mg "list" = none
  z_tuple : mg "tuple" = none
  z_set : mg "set" = none
  z_isinstance : mg "isinstance" = none
  z_range : mg "range" = none
  z_enumerate : mg "enumerate" = none
  g_MOST_WORD : ∃ t, mg "MOST_WORD" = some (.int 65535 t)
  g_MOST_LETTERS : ∃ t, mg "MOST_LETTERS" = some (.int 8 t)
  g_LEAST_NODES : ∃ t, mg "LEAST_NODES" = some (.int 2 t)
  g_MOST_NODES : ∃ t, mg "MOST_NODES" = some (.int 40 t)
  g_LETTERS : ∃ t, mg "LETTERS" = some (.str "abcdefghijklmnopqrstuvwxyz" t)
  g_MOST_FIGURES : ∃ t, mg "MOST_FIGURES" = some (.int 5 t)
  g_FIGURES : ∃ t, mg "FIGURES" = some (.str "0123456789" t)
  g_BETWEEN : ∃ t, mg "BETWEEN" = some (.str "; " t)
  g_MOST_LINES : ∃ t, mg "MOST_LINES" = some (.int 20 t)
  g_DEEDS : ∃ a, mg "DEEDS" = some (.ref a) ∧ KTup K a deedD
  g_KIDS : ∃ a, mg "KIDS" = some (.ref a) ∧ KD K w a kvK
  g_MARKS : ∃ a, mg "MARKS" = some (.ref a) ∧ KD K w a kvM
section
variable {w : World} {K : PySem.W.Frag} {mg : Str → Option Value} {base : Heap}
/-! ### is_whole .. -/
def wholeB (i lo hi : Int) : Bool := decide (lo ≤ i) && decide (i ≤ hi)
def sp_is_whole : Dv.Spec := fun sls μ P => ∃ i lo hi : Int, sls = [.dat (.int i), .dat (.int lo), .dat (.int hi)] ∧ μ = [] ∧ P (.dat (.bool (wholeB i lo hi))) []
theorem len_is_whole {sls μ P} (h : sp_is_whole sls μ P) : sls.length = 3 := by obtain ⟨_, _, _, rfl, _⟩ := h; rfl

abbrev N_is_whole : List Str := ["thing", "low", "high"]
theorem nd_is_whole : N_is_whole.Nodup := by decide +kernel
abbrev s_is_whole : Stmt := tp 11
theorem sc_is_whole : FnScope N_is_whole ["thing", "low", "high"] (C8.fnScope s_is_whole) := C8.fnScope_by (by decide +kernel)
theorem cal_is_whole (T : Txt w K mg)  {f : Addr} {fd : FuncData} {dsl : List Sl} (D : DefD K mg "is_whole" s_is_whole ["thing", "low", "high"] dsl f fd) : Cal PW w K mg base (0 + 1) "is_whole" sp_is_whole dsl := by
  refine cal_data (N := N_is_whole) D sc_is_whole (fun sls μ P h => ?_) ?_
  · exact len_is_whole h
  rintro X ⟨cdv, A, outer, s, H, E, rfl⟩ hr S sls μ Pr hS ⟨i, lo, hi, rfl, rfl, hP⟩
  have nd := nd_is_whole
  have hu := hr.units
  have hu2 := units65 hr
  refine s_cons ?_
  refine s_ret ?_
  refine' ev_andP ?h11 (fun hA => ?h12) ?h13
  case h11 =>
    refine e_isi T.z_isinstance T.z_int boot_int ?_
    refine ev_name 0 rfl ?_
    first | refine ⟨_, true, rfl, kit_yes rfl, ?_⟩ | refine ⟨_, false, rfl, kit_no rfl, ?_⟩
    exact ⟨rfl, rfl⟩
  case h12 =>
    refine' ev_andP ?h21 (fun hA => ?h22) ?h23
    case h21 =>
      refine' ev_notP ?h31 ?h32
      case h31 =>
        refine e_isi T.z_isinstance T.z_bool boot_bool ?_
        refine ev_name 0 rfl ?_
        first | refine ⟨_, true, rfl, kit_yes rfl, ?_⟩ | refine ⟨_, false, rfl, kit_no rfl, ?_⟩
        exact ⟨rfl, rfl⟩
      case h32 =>
        exact ⟨rfl, rfl⟩
    case h22 =>
      refine ev_one ?_
      refine' ev_lele ?h41 ?h42 ?h43 ?h44
      case h41 =>
        refine ev_name 1 rfl ?_
        exact ⟨rfl, rfl⟩
      case h42 =>
        refine ev_name 0 rfl ?_
        exact ⟨rfl, rfl⟩
      case h43 =>
        refine ev_name 2 rfl ?_
        exact ⟨rfl, rfl⟩
      case h44 =>
        exact ⟨rfl, rfl⟩
    case h23 =>
      exact ⟨rfl, rfl⟩
  case h13 =>
    exact retD (by unfold wholeB; simp) hP rfl
def sp_is_word : Dv.Spec := fun sls μ P => ∃ i : Int, sls = [.dat (.int i)] ∧ μ = [] ∧ P (.dat (.bool (wholeB i 0 65535))) []
theorem len_is_word {sls μ P} (h : sp_is_word sls μ P) : sls.length = 1 := by obtain ⟨_, rfl, _⟩ := h; rfl

abbrev N_is_word : List Str := ["thing"]
theorem nd_is_word : N_is_word.Nodup := by decide +kernel
abbrev s_is_word : Stmt := tp 12
theorem sc_is_word : FnScope N_is_word ["thing"] (C8.fnScope s_is_word) := C8.fnScope_by (by decide +kernel)
theorem cal_is_word (T : Txt w K mg) (c_is_whole_1 : Cal PW w K mg base 1 "is_whole" sp_is_whole [.dat (.int 0), .dat (.int 65535)]) {f : Addr} {fd : FuncData} (D : DefD K mg "is_word" s_is_word ["thing"] [] f fd) : Cal PW w K mg base (1 + 1) "is_word" sp_is_word [] := by
  refine cal_data (N := N_is_word) D sc_is_word (fun sls μ P h => ?_) ?_
  · exact len_is_word h
  rintro X ⟨cdv, A, outer, s, H, E, rfl⟩ hr S sls μ Pr hS ⟨i, rfl, rfl, hP⟩
  have nd := nd_is_word
  have hu := hr.units
  have hu2 := units65 hr
  refine s_cons ?_
  refine s_ret ?_
  refine ev_cal c_is_whole_1 hr ?_
  refine ea_cons ?_
  refine ev_name 0 rfl ?_
  refine ea_nil ?_
  refine callP_dat rfl ?_
  refine ⟨_, _, _, rfl, rfl, ?_⟩
  exact retD rfl hP rfl
def nameB (s : Str) : Bool := (decide (1 ≤ (s.length : Int)) && decide ((s.length : Int) ≤ 8)) && s.cps.toList.all fun c => decide (c ∈ ("abcdefghijklmnopqrstuvwxyz" : Str).cps.toList)
def sp_is_name : Dv.Spec := fun sls μ P => ∃ s : Str, sls = [.dat (.str s)] ∧ s.length ≤ sizeLine ∧ μ = [] ∧ P (.dat (.bool (nameB s))) []
theorem len_is_name {sls μ P} (h : sp_is_name sls μ P) : sls.length = 1 := by obtain ⟨_, rfl, _⟩ := h; rfl
theorem orN1 {q : Bool} (h : (!true || !q) = true) : q = false := by cases q <;> first | rfl | cases h
theorem orN2 {q : Bool} (h : (!true || !q) = false) : q = true := by cases q <;> first | rfl | cases h
theorem notT {q : Bool} (h : (!q) = true) : q = false := by cases q <;> first | rfl | cases h
theorem notF {q : Bool} (h : (!q) = false) : q = true := by cases q <;> first | rfl | cases h
theorem all_map {α : Type} (xs : List α) (f : α → Bool) : (xs.map f).all id = xs.all f := by rw [List.all_map]; rfl

abbrev N_is_name : List Str := ["thing", "sign"]
theorem nd_is_name : N_is_name.Nodup := by decide +kernel
abbrev s_is_name : Stmt := tp 13
theorem sc_is_name : FnScope N_is_name ["thing"] (C8.fnScope s_is_name) := C8.fnScope_by (by decide +kernel)
theorem cal_is_name (T : Txt w K mg)  {f : Addr} {fd : FuncData} (D : DefD K mg "is_name" s_is_name ["thing"] [] f fd) : Cal PW w K mg base (0 + 1) "is_name" sp_is_name [] := by
  refine cal_data (N := N_is_name) D sc_is_name (fun sls μ P h => ?_) ?_
  · exact len_is_name h
  rintro X ⟨cdv, A, outer, s, H, E, rfl⟩ hr S sls μ Pr hS ⟨st, rfl, hz, rfl, hP⟩
  have nd := nd_is_name
  have hu := hr.units
  have hu2 := units65 hr
  refine s_cons ?_
  refine' s_ifP ?h51 (fun hC => ?h52) (fun hC => ?h53)
  case h51 =>
    refine et_of_ew ?_
    refine' ew_orP ?h61 (fun hA => ?h62) ?h63
    case h61 =>
      refine' et_notP ?h71 ?h72
      case h71 =>
        refine et_val ?_
        refine e_isi T.z_isinstance T.z_str boot_str ?_
        refine ev_name 0 rfl ?_
        first | refine ⟨_, true, rfl, kit_yes rfl, ?_⟩ | refine ⟨_, false, rfl, kit_no rfl, ?_⟩
        refine ⟨_, rfl, ?_⟩
        exact ⟨rfl, rfl⟩
      case h72 =>
        exact ⟨rfl, rfl⟩
    case h62 =>
      refine ew_or1 ?_
      refine' et_notP ?h81 ?h82
      case h81 =>
        refine' et_lele ?h91 ?h92 ?h93 ?h94
        case h91 =>
          refine ev_int ?_
          exact ⟨rfl, rfl⟩
        case h92 =>
          refine e_len T.z_len ?_
          refine ev_name 0 rfl ?_
          refine ⟨_, rfl, by first | exact True.intro | first | assumption | rfl | decide | exact Nat.le_of_ble_eq_true rfl | omega | (simp only [List.length_cons, List.length_nil, List.length_map, List.length_append]; omega) | exact hszl | exact hszw | exact Or.inl ⟨by decide, by decide⟩ | exact Or.inr ⟨by decide, by decide⟩ | exact pow_ok (by decide) (by decide) (by omega) (by omega) | exact ⟨by omega, by omega⟩ | exact Or.inl ⟨by omega, by omega⟩, ?_⟩
          exact ⟨rfl, rfl⟩
        case h93 =>
          refine ev_gI T.g_MOST_LETTERS ?_
          exact ⟨rfl, rfl⟩
        case h94 =>
          exact ⟨rfl, rfl⟩
      case h82 =>
        exact ⟨rfl, rfl⟩
    case h63 =>
      exact ⟨rfl, rfl⟩
  case h52 =>
    refine s_cons ?_
    refine s_ret ?_
    refine ev_bool ?_
    exact retD (by first | (rw [all_map]; unfold nameB; revert hC; cases (decide (1 ≤ (st.length : Int)) && decide ((st.length : Int) ≤ 8)) <;> simp) | (unfold nameB; revert hC; cases (decide (1 ≤ (st.length : Int)) && decide ((st.length : Int) ≤ 8)) <;> simp)) hP rfl
  case h53 =>
    refine s_nil ?_
    refine s_cons ?_
    refine s_ret ?_
    refine Ev.trim ?_
    refine e_all rfl T.z_all ?_
    refine ev_lc [("sign", 1)] [1] rfl nd (blkOk_by (N := N_is_name) (sc := C8.fnScope s_is_name) (by decide +kernel)) .nil (by decide) ?_
    refine iv_str ?_
    refine ev_name 0 rfl ?_
    refine ⟨_, rfl, ?_⟩
    refine lcd_mapT st.cps.toList (fun c => PyData.str ⟨#[c]⟩) (fun c => PyData.bool (decide (c ∈ ("abcdefghijklmnopqrstuvwxyz" : Str).cps.toList))) (rfl) (by show st.cps.size ≤ _; exact hz) (fun x hx acc => ?_) ?_
    · intro s0 H0 C0 cl0 fp0
      refine ag_name 1 nd ?_ (by decide)
      intro s1 H1 C1 cl1 fp1
      refine ev_cmp (c_inU hu2) rfl ?_
      refine ev_name 1 rfl ?_
      refine ev_gS T.g_LETTERS ?_
      first | refine in_s ?_ | refine in_q rfl (by first | assumption | rfl | decide | exact Nat.le_of_ble_eq_true rfl | omega | (simp only [List.length_cons, List.length_nil, List.length_map, List.length_append]; omega) | exact hszl | exact hszw | exact Or.inl ⟨by decide, by decide⟩ | exact Or.inr ⟨by decide, by decide⟩ | exact pow_ok (by decide) (by decide) (by omega) (by omega) | exact ⟨by omega, by omega⟩ | exact Or.inl ⟨by omega, by omega⟩) (by first | assumption | rfl | decide | exact Nat.le_of_ble_eq_true rfl | omega | (simp only [List.length_cons, List.length_nil, List.length_map, List.length_append]; omega) | exact hszl | exact hszw | exact Or.inl ⟨by decide, by decide⟩ | exact Or.inr ⟨by decide, by decide⟩ | exact pow_ok (by decide) (by decide) (by omega) (by omega) | exact ⟨by omega, by omega⟩ | exact Or.inl ⟨by omega, by omega⟩) ?_ | refine in_d rfl rfl (by first | assumption | rfl | decide | exact Nat.le_of_ble_eq_true rfl | omega | (simp only [List.length_cons, List.length_nil, List.length_map, List.length_append]; omega) | exact hszl | exact hszw | exact Or.inl ⟨by decide, by decide⟩ | exact Or.inr ⟨by decide, by decide⟩ | exact pow_ok (by decide) (by decide) (by omega) (by omega) | exact ⟨by omega, by omega⟩ | exact Or.inl ⟨by omega, by omega⟩) (by first | assumption | rfl | decide | exact Nat.le_of_ble_eq_true rfl | omega | (simp only [List.length_cons, List.length_nil, List.length_map, List.length_append]; omega) | exact hszl | exact hszw | exact Or.inl ⟨by decide, by decide⟩ | exact Or.inr ⟨by decide, by decide⟩ | exact pow_ok (by decide) (by decide) (by omega) (by omega) | exact ⟨by omega, by omega⟩ | exact Or.inl ⟨by omega, by omega⟩) ?_
      exact ⟨rfl, rfl⟩
    refine ⟨st.cps.toList.map fun c => decide (c ∈ ("abcdefghijklmnopqrstuvwxyz" : Str).cps.toList), by show some _ = some _; rw [List.map_map]; rfl, ?_⟩
    exact retD (by first | (rw [all_map]; unfold nameB; revert hC; cases (decide (1 ≤ (st.length : Int)) && decide ((st.length : Int) ≤ 8)) <;> simp) | (unfold nameB; revert hC; cases (decide (1 ≤ (st.length : Int)) && decide ((st.length : Int) ≤ 8)) <;> simp)) hP rfl
/-! ### is_mark -/
def isNonD : PyData → Bool
  | .none => true
  | _ => false
def MarkIn (op : Str) (m : PyData) : Prop := kvM.lookup op = none ∨ (kvM.lookup op = some (.str "word") ∧ ∃ i, m = .int i) ∨ (kvM.lookup op = some (.str "name") ∧ ∃ s : Str, m = .str s ∧ s.length ≤ sizeLine)
def markB (op : Str) (m : PyData) : Bool := match kvM.lookup op with
  | none => isNonD m
  | some _ => (match m with
    | .int i => wholeB i 0 65535
    | .str s => nameB s
    | _ => false)
theorem isNon_dat {m : PyData} : isNon (.dat m) = isNonD m := by cases m <;> rfl
def sp_is_mark : Dv.Spec := fun sls μ P => ∃ op m, sls = [.dat (.str op), .dat m] ∧ MarkIn op m ∧ μ = [] ∧ P (.dat (.bool (markB op m))) []
theorem len_is_mark {sls μ P} (h : sp_is_mark sls μ P) : sls.length = 2 := by obtain ⟨_, _, rfl, _⟩ := h; rfl

abbrev N_is_mark : List Str := ["op", "thing"]
theorem nd_is_mark : N_is_mark.Nodup := by decide +kernel
abbrev s_is_mark : Stmt := tp 14
theorem sc_is_mark : FnScope N_is_mark ["op", "thing"] (C8.fnScope s_is_mark) := C8.fnScope_by (by decide +kernel)
theorem cal_is_mark (T : Txt w K mg) (c_is_word : Cal PW w K mg base 2 "is_word" sp_is_word []) (c_is_name : Cal PW w K mg base 1 "is_name" sp_is_name []) {f : Addr} {fd : FuncData} (D : DefD K mg "is_mark" s_is_mark ["op", "thing"] [] f fd) : Cal PW w K mg base (2 + 1) "is_mark" sp_is_mark [] := by
  refine cal_data (N := N_is_mark) D sc_is_mark (fun sls μ P h => ?_) ?_
  · exact len_is_mark h
  rintro X ⟨cdv, A, outer, s, H, E, rfl⟩ hr S sls μ Pr hS ⟨op, m, rfl, hM, rfl, hP⟩
  have nd := nd_is_mark
  have hu := hr.units
  have hu2 := units65 hr
  obtain ⟨a_MARKS, m_MARKS, d_MARKS⟩ := T.g_MARKS
  rcases hM with h1 | ⟨h1, i, rfl⟩ | ⟨h1, st, rfl, hz⟩
  · refine s_cons ?_
    refine' s_ifP ?h101 (fun hC => ?h102) (fun hC => ?h103)
    case h101 =>
      refine et_cmp (c_notInU hu2) rfl ?_
      refine ev_name 0 rfl ?_
      refine ev_glo m_MARKS ?_
      refine notin_g d_MARKS ?_
      refine ⟨_, rfl, ?_⟩
      exact ⟨rfl, rfl⟩
    case h102 =>
      refine s_cons ?_
      refine s_ret ?_
      refine ev_cmp c_isN rfl ?_
      refine ev_name 1 rfl ?_
      refine ev_none ?_
      refine is_n ?_
      exact retD (by rw [isNon_dat]; unfold markB; rw [h1]) hP rfl
    case h103 =>
      exact absurd hC (by rw [h1]; decide)
  · refine s_cons ?_
    refine' s_ifP ?h111 (fun hC => ?h112) (fun hC => ?h113)
    case h111 =>
      refine et_cmp (c_notInU hu2) rfl ?_
      refine ev_name 0 rfl ?_
      refine ev_glo m_MARKS ?_
      refine notin_g d_MARKS ?_
      refine ⟨_, rfl, ?_⟩
      exact ⟨rfl, rfl⟩
    case h112 =>
      exact absurd hC (by rw [h1]; decide)
    case h113 =>
      refine s_nil ?_
      refine s_cons ?_
      refine s_ret ?_
      refine' ev_ifP ?h121 (fun hC => ?h122) (fun hC => ?h123)
      case h121 =>
        refine et_cmp (c_eqv hu) rfl ?_
        refine ev_sub (fun _ _ => rfl) ?_
        refine ev_glo m_MARKS ?_
        refine ev_name 0 rfl ?_
        refine ix_g d_MARKS (by first | assumption | rfl | decide | exact Nat.le_of_ble_eq_true rfl | omega | (simp only [List.length_cons, List.length_nil, List.length_map, List.length_append]; omega) | exact hszl | exact hszw | exact Or.inl ⟨by decide, by decide⟩ | exact Or.inr ⟨by decide, by decide⟩ | exact pow_ok (by decide) (by decide) (by omega) (by omega) | exact ⟨by omega, by omega⟩ | exact Or.inl ⟨by omega, by omega⟩) ?_
        refine ev_str ?_
        first | refine eq_i ?_ | refine eq_s ?_ | refine eq_v rfl rfl (by first | assumption | rfl | decide | exact Nat.le_of_ble_eq_true rfl | omega | (simp only [List.length_cons, List.length_nil, List.length_map, List.length_append]; omega) | exact hszl | exact hszw | exact Or.inl ⟨by decide, by decide⟩ | exact Or.inr ⟨by decide, by decide⟩ | exact pow_ok (by decide) (by decide) (by omega) (by omega) | exact ⟨by omega, by omega⟩ | exact Or.inl ⟨by omega, by omega⟩) ?_
        refine ⟨_, rfl, ?_⟩
        exact ⟨rfl, rfl⟩
      case h122 =>
        refine ev_cal c_is_word hr ?_
        refine ea_cons ?_
        refine ev_name 1 rfl ?_
        refine ea_nil ?_
        refine callP_dat rfl ?_
        refine ⟨_, rfl, rfl, ?_⟩
        exact retD (by unfold markB; rw [h1]) hP rfl
      case h123 =>
        exact absurd hC (by decide)
  · refine s_cons ?_
    refine' s_ifP ?h131 (fun hC => ?h132) (fun hC => ?h133)
    case h131 =>
      refine et_cmp (c_notInU hu2) rfl ?_
      refine ev_name 0 rfl ?_
      refine ev_glo m_MARKS ?_
      refine notin_g d_MARKS ?_
      refine ⟨_, rfl, ?_⟩
      exact ⟨rfl, rfl⟩
    case h132 =>
      exact absurd hC (by rw [h1]; decide)
    case h133 =>
      refine s_nil ?_
      refine s_cons ?_
      refine s_ret ?_
      refine' ev_ifP ?h141 (fun hC => ?h142) (fun hC => ?h143)
      case h141 =>
        refine et_cmp (c_eqv hu) rfl ?_
        refine ev_sub (fun _ _ => rfl) ?_
        refine ev_glo m_MARKS ?_
        refine ev_name 0 rfl ?_
        refine ix_g d_MARKS (by first | assumption | rfl | decide | exact Nat.le_of_ble_eq_true rfl | omega | (simp only [List.length_cons, List.length_nil, List.length_map, List.length_append]; omega) | exact hszl | exact hszw | exact Or.inl ⟨by decide, by decide⟩ | exact Or.inr ⟨by decide, by decide⟩ | exact pow_ok (by decide) (by decide) (by omega) (by omega) | exact ⟨by omega, by omega⟩ | exact Or.inl ⟨by omega, by omega⟩) ?_
        refine ev_str ?_
        first | refine eq_i ?_ | refine eq_s ?_ | refine eq_v rfl rfl (by first | assumption | rfl | decide | exact Nat.le_of_ble_eq_true rfl | omega | (simp only [List.length_cons, List.length_nil, List.length_map, List.length_append]; omega) | exact hszl | exact hszw | exact Or.inl ⟨by decide, by decide⟩ | exact Or.inr ⟨by decide, by decide⟩ | exact pow_ok (by decide) (by decide) (by omega) (by omega) | exact ⟨by omega, by omega⟩ | exact Or.inl ⟨by omega, by omega⟩) ?_
        refine ⟨_, rfl, ?_⟩
        exact ⟨rfl, rfl⟩
      case h142 =>
        exact absurd hC (by decide)
      case h143 =>
        refine ev_cal c_is_name hr ?_
        refine ea_cons ?_
        refine ev_name 1 rfl ?_
        refine ea_nil ?_
        refine callP_dat rfl ?_
        refine ⟨_, rfl, by first | assumption | rfl | decide | exact Nat.le_of_ble_eq_true rfl | omega | (simp only [List.length_cons, List.length_nil, List.length_map, List.length_append]; omega) | exact hszl | exact hszw | exact Or.inl ⟨by decide, by decide⟩ | exact Or.inr ⟨by decide, by decide⟩ | exact pow_ok (by decide) (by decide) (by omega) (by omega) | exact ⟨by omega, by omega⟩ | exact Or.inl ⟨by omega, by omega⟩, rfl, ?_⟩
        exact retD (by unfold markB; rw [h1]) hP rfl
/-! ### is_node -/
structure Nd where
  op : Str
  mark : PyData
  kids : List Int
def Nd.d (n : Nd) : PyData := .tuple [.str n.op, n.mark, .tuple (n.kids.map PyData.int)]
def dO : Option Nd → PyData
  | none => .none
  | some n => n.d
def NdIn : Option Nd → Prop
  | none => True
  | some n => MarkIn n.op n.mark ∧ n.kids.length ≤ sizeLine
def nodeB (n : Nd) (at_ : Int) : Bool := match kvK.lookup n.op with
  | some (.int k) => markB n.op n.mark && (decide ((n.kids.length : Int) = k) && n.kids.all fun k => wholeB k 0 (at_ - 1))
  | _ => false
def nodeO (o : Option Nd) (at_ : Int) : Bool := match o with
  | none => false
  | some n => nodeB n at_
theorem kvK_int {op : Str} (h : (kvK.lookup op).isSome = true) : ∃ k : Int, kvK.lookup op = some (.int k) := by
  have key : ∀ l : List (Str × PyData), (∀ p ∈ l, ∃ k, p.2 = .int k) → (l.lookup op).isSome = true → ∃ k : Int, l.lookup op = some (.int k) := fun l => by
    induction l with
    | nil => exact fun _ h => nomatch h
    | cons p r ih =>
      intro hp h
      obtain ⟨x, v⟩ := p
      rw [List.lookup_cons] at h ⊢
      split
      · obtain ⟨k, e⟩ := hp _ (List.mem_cons_self)
        exact ⟨k, congrArg some e⟩
      · rename_i q
        rw [q] at h
        exact ih (fun p q => hp p (List.mem_cons_of_mem _ q)) h
  exact key kvK (by unfold kvK; simp) h
def sp_is_node : Dv.Spec := fun sls μ P => ∃ o, ∃ i : Int, sls = [.dat (dO o), .dat (.int i)] ∧ NdIn o ∧ μ = [] ∧ P (.dat (.bool (nodeO o i))) []
theorem len_is_node {sls μ P} (h : sp_is_node sls μ P) : sls.length = 2 := by obtain ⟨_, _, rfl, _⟩ := h; rfl
theorem nodeB_no1 {n : Nd} {i : Int} {p : Bool} (h : (p || (!(kvK.lookup n.op).isSome || !markB n.op n.mark)) = true) (hp : p = false) : nodeB n i = false := by
  unfold nodeB
  split
  · rename_i e
    rw [hp, e] at h
    simp at h
    rw [h]
    rfl
  · rfl
theorem nodeB_no2 {n : Nd} {i kk : Int} {p : Bool} (hk : kvK.lookup n.op = some (.int kk)) (h : (p || !decide ((n.kids.length : Int) = kk)) = true) (hp : p = false) : nodeB n i = false := by
  unfold nodeB
  rw [hk]
  rw [hp] at h
  simp at h
  simp [h]
theorem nodeB_yes {n : Nd} {i kk : Int} {p q r : Bool} (hk : kvK.lookup n.op = some (.int kk)) (h1 : (p || (r || !markB n.op n.mark)) = false) (h2 : (q || !decide ((n.kids.length : Int) = kk)) = false) : nodeB n i = n.kids.all fun k => wholeB k 0 (i - 1) := by
  unfold nodeB
  rw [hk]
  simp only [Bool.or_eq_false_iff, Bool.not_eq_false'] at h1 h2
  simp only
  rw [h1.2.2, h2.2]
  simp

abbrev N_is_node : List Str := ["thing", "at", "op", "rest", "kid"]
theorem nd_is_node : N_is_node.Nodup := by decide +kernel
abbrev s_is_node : Stmt := tp 15
theorem sc_is_node : FnScope N_is_node ["thing", "at"] (C8.fnScope s_is_node) := C8.fnScope_by (by decide +kernel)
theorem cal_is_node (T : Txt w K mg) (c_is_whole_3 : Cal PW w K mg base 1 "is_whole" sp_is_whole []) (c_is_mark : Cal PW w K mg base 3 "is_mark" sp_is_mark []) {f : Addr} {fd : FuncData} (D : DefD K mg "is_node" s_is_node ["thing", "at"] [] f fd) : Cal PW w K mg base (3 + 1) "is_node" sp_is_node [] := by
  refine cal_data (N := N_is_node) D sc_is_node (fun sls μ P h => ?_) ?_
  · exact len_is_node h
  rintro X ⟨cdv, A, outer, s, H, E, rfl⟩ hr S sls μ Pr hS ⟨o, i, rfl, hM, rfl, hP⟩
  have nd := nd_is_node
  have hu := hr.units
  have hu2 := units65 hr
  obtain ⟨a_KIDS, m_KIDS, d_KIDS⟩ := T.g_KIDS
  cases o with
  | none =>
    refine s_cons ?_
    refine' s_ifP (p := true) ?q1 (fun hC => ?q2) (fun hC => nomatch hC)
    case q1 =>
      refine et_of_ew (ew_orT ?_ ⟨rfl, rfl⟩)
      refine' et_notP ?h151 ?h152
      case h151 =>
        refine et_val ?_
        refine e_isi T.z_isinstance T.z_tuple boot_tuple ?_
        refine ev_name 0 rfl ?_
        first | refine ⟨_, true, rfl, kit_yes rfl, ?_⟩ | refine ⟨_, false, rfl, kit_no rfl, ?_⟩
        refine ⟨_, rfl, ?_⟩
        exact ⟨rfl, rfl⟩
      case h152 =>
        exact ⟨rfl, rfl⟩
    case q2 =>
      refine s_cons ?_
      refine s_ret (ev_bool ?_)
      exact retD rfl hP rfl
  | some n =>
    refine s_cons ?_
    refine' s_ifP ?h161 (fun hC => ?h162) (fun hC => ?h163)
    case h161 =>
      refine et_of_ew ?_
      refine' ew_orP ?h171 (fun hA => ?h172) ?h173
      case h171 =>
        refine' et_notP ?h181 ?h182
        case h181 =>
          refine et_val ?_
          refine e_isi T.z_isinstance T.z_tuple boot_tuple ?_
          refine ev_name 0 rfl ?_
          first | refine ⟨_, true, rfl, kit_yes rfl, ?_⟩ | refine ⟨_, false, rfl, kit_no rfl, ?_⟩
          refine ⟨_, rfl, ?_⟩
          exact ⟨rfl, rfl⟩
        case h182 =>
          exact ⟨rfl, rfl⟩
      case h172 =>
        refine ew_or1 ?_
        refine et_cmp (c_neqv hu) rfl ?_
        refine e_len T.z_len ?_
        refine ev_name 0 rfl ?_
        refine ⟨_, rfl, by first | exact True.intro | first | assumption | rfl | decide | exact Nat.le_of_ble_eq_true rfl | omega | (simp only [List.length_cons, List.length_nil, List.length_map, List.length_append]; omega) | exact hszl | exact hszw | exact Or.inl ⟨by decide, by decide⟩ | exact Or.inr ⟨by decide, by decide⟩ | exact pow_ok (by decide) (by decide) (by omega) (by omega) | exact ⟨by omega, by omega⟩ | exact Or.inl ⟨by omega, by omega⟩, ?_⟩
        refine ev_int ?_
        first | refine ne_i ?_ | refine ne_s ?_ | refine ne_v rfl rfl (by first | assumption | rfl | decide | exact Nat.le_of_ble_eq_true rfl | omega | (simp only [List.length_cons, List.length_nil, List.length_map, List.length_append]; omega) | exact hszl | exact hszw | exact Or.inl ⟨by decide, by decide⟩ | exact Or.inr ⟨by decide, by decide⟩ | exact pow_ok (by decide) (by decide) (by omega) (by omega) | exact ⟨by omega, by omega⟩ | exact Or.inl ⟨by omega, by omega⟩) ?_
        refine ⟨_, rfl, ?_⟩
        exact ⟨rfl, rfl⟩
      case h173 =>
        exact ⟨rfl, rfl⟩
    case h162 =>
      exact absurd hC (by simp)
    case h163 =>
      refine s_nil ?_
      refine s_cons ?_
      refine s_asg [2, 3] ?_
      refine ev_name 0 rfl ?_
      refine ag_star 1 rfl rfl (by first | assumption | rfl | decide | exact Nat.le_of_ble_eq_true rfl | omega | (simp only [List.length_cons, List.length_nil, List.length_map, List.length_append]; omega) | exact hszl | exact hszw | exact Or.inl ⟨by decide, by decide⟩ | exact Or.inr ⟨by decide, by decide⟩ | exact pow_ok (by decide) (by decide) (by omega) (by omega) | exact ⟨by omega, by omega⟩ | exact Or.inl ⟨by omega, by omega⟩) (by first | assumption | rfl | decide | exact Nat.le_of_ble_eq_true rfl | omega | (simp only [List.length_cons, List.length_nil, List.length_map, List.length_append]; omega) | exact hszl | exact hszw | exact Or.inl ⟨by decide, by decide⟩ | exact Or.inr ⟨by decide, by decide⟩ | exact pow_ok (by decide) (by decide) (by omega) (by omega) | exact ⟨by omega, by omega⟩ | exact Or.inl ⟨by omega, by omega⟩) ?_
      refine ags_cons ?_
      refine ag_name 2 nd ?_ (by decide)
      refine ags_star (ags_cons ?_)
      refine ag_name 3 nd ?_ (by decide)
      refine ags_nil ?_
      refine s_cons ?_
      refine' s_ifP ?h191 (fun hC => ?h192) (fun hC => ?h193)
      case h191 =>
        refine et_of_ew ?_
        refine' ew_orP ?h201 (fun hA => ?h202) ?h203
        case h201 =>
          refine' et_notP ?h211 ?h212
          case h211 =>
            refine et_val ?_
            refine e_isi T.z_isinstance T.z_str boot_str ?_
            refine ev_name 2 rfl ?_
            first | refine ⟨_, true, rfl, kit_yes rfl, ?_⟩ | refine ⟨_, false, rfl, kit_no rfl, ?_⟩
            refine ⟨_, rfl, ?_⟩
            exact ⟨rfl, rfl⟩
          case h212 =>
            exact ⟨rfl, rfl⟩
        case h202 =>
          refine' ew_orP ?h221 (fun hA => ?h222) ?h223
          case h221 =>
            refine et_cmp (c_notInU hu2) rfl ?_
            refine ev_name 2 rfl ?_
            refine ev_glo m_KIDS ?_
            refine notin_g d_KIDS ?_
            refine ⟨_, rfl, ?_⟩
            exact ⟨rfl, rfl⟩
          case h222 =>
            refine ew_or1 ?_
            refine' et_notP ?h231 ?h232
            case h231 =>
              refine et_val ?_
              refine ev_cal c_is_mark hr ?_
              refine ea_cons ?_
              refine ev_name 2 rfl ?_
              refine ea_cons ?_
              refine ev_sub (fun _ _ => rfl) ?_
              refine ev_name 3 rfl ?_
              refine ev_int ?_
              first | refine ix_scr (by first | assumption | rfl | decide | exact Nat.le_of_ble_eq_true rfl | omega | (simp only [List.length_cons, List.length_nil, List.length_map, List.length_append]; omega) | exact hszl | exact hszw | exact Or.inl ⟨by decide, by decide⟩ | exact Or.inr ⟨by decide, by decide⟩ | exact pow_ok (by decide) (by decide) (by omega) (by omega) | exact ⟨by omega, by omega⟩ | exact Or.inl ⟨by omega, by omega⟩) ?_ | refine ix_q rfl (by first | assumption | rfl | decide | exact Nat.le_of_ble_eq_true rfl | omega | (simp only [List.length_cons, List.length_nil, List.length_map, List.length_append]; omega) | exact hszl | exact hszw | exact Or.inl ⟨by decide, by decide⟩ | exact Or.inr ⟨by decide, by decide⟩ | exact pow_ok (by decide) (by decide) (by omega) (by omega) | exact ⟨by omega, by omega⟩ | exact Or.inl ⟨by omega, by omega⟩) ?_ | refine ix_str (by first | assumption | rfl | decide | exact Nat.le_of_ble_eq_true rfl | omega | (simp only [List.length_cons, List.length_nil, List.length_map, List.length_append]; omega) | exact hszl | exact hszw | exact Or.inl ⟨by decide, by decide⟩ | exact Or.inr ⟨by decide, by decide⟩ | exact pow_ok (by decide) (by decide) (by omega) (by omega) | exact ⟨by omega, by omega⟩ | exact Or.inl ⟨by omega, by omega⟩) (by first | assumption | rfl | decide | exact Nat.le_of_ble_eq_true rfl | omega | (simp only [List.length_cons, List.length_nil, List.length_map, List.length_append]; omega) | exact hszl | exact hszw | exact Or.inl ⟨by decide, by decide⟩ | exact Or.inr ⟨by decide, by decide⟩ | exact pow_ok (by decide) (by decide) (by omega) (by omega) | exact ⟨by omega, by omega⟩ | exact Or.inl ⟨by omega, by omega⟩) ?_
              refine ea_nil ?_
              refine callP_dat rfl ?_
              refine ⟨_, _, rfl, hM.1, rfl, ?_⟩
              refine ⟨_, rfl, ?_⟩
              exact ⟨rfl, rfl⟩
            case h232 =>
              exact ⟨rfl, rfl⟩
          case h223 =>
            exact ⟨rfl, rfl⟩
        case h203 =>
          exact ⟨rfl, rfl⟩
      case h192 =>
        refine s_cons ?_
        refine s_ret ?_
        refine ev_bool ?_
        exact retD (congrArg PyData.bool (nodeB_no1 (i := i) hC rfl).symm) hP rfl
      case h193 =>
        have h1 := hC
        obtain ⟨kk, hk⟩ := kvK_int (op := n.op) (by cases z : (kvK.lookup n.op).isSome with | true => rfl | false => rw [z] at hC; simp at hC)
        refine s_nil ?_
        refine s_cons ?_
        refine' s_ifP ?h241 (fun hC => ?h242) (fun hC => ?h243)
        case h241 =>
          refine et_of_ew ?_
          refine' ew_orP ?h251 (fun hA => ?h252) ?h253
          case h251 =>
            refine' et_notP ?h261 ?h262
            case h261 =>
              refine et_val ?_
              refine e_isi T.z_isinstance T.z_tuple boot_tuple ?_
              refine ev_sub (fun _ _ => rfl) ?_
              refine ev_name 3 rfl ?_
              refine ev_int ?_
              first | refine ix_scr (by first | assumption | rfl | decide | exact Nat.le_of_ble_eq_true rfl | omega | (simp only [List.length_cons, List.length_nil, List.length_map, List.length_append]; omega) | exact hszl | exact hszw | exact Or.inl ⟨by decide, by decide⟩ | exact Or.inr ⟨by decide, by decide⟩ | exact pow_ok (by decide) (by decide) (by omega) (by omega) | exact ⟨by omega, by omega⟩ | exact Or.inl ⟨by omega, by omega⟩) ?_ | refine ix_q rfl (by first | assumption | rfl | decide | exact Nat.le_of_ble_eq_true rfl | omega | (simp only [List.length_cons, List.length_nil, List.length_map, List.length_append]; omega) | exact hszl | exact hszw | exact Or.inl ⟨by decide, by decide⟩ | exact Or.inr ⟨by decide, by decide⟩ | exact pow_ok (by decide) (by decide) (by omega) (by omega) | exact ⟨by omega, by omega⟩ | exact Or.inl ⟨by omega, by omega⟩) ?_ | refine ix_str (by first | assumption | rfl | decide | exact Nat.le_of_ble_eq_true rfl | omega | (simp only [List.length_cons, List.length_nil, List.length_map, List.length_append]; omega) | exact hszl | exact hszw | exact Or.inl ⟨by decide, by decide⟩ | exact Or.inr ⟨by decide, by decide⟩ | exact pow_ok (by decide) (by decide) (by omega) (by omega) | exact ⟨by omega, by omega⟩ | exact Or.inl ⟨by omega, by omega⟩) (by first | assumption | rfl | decide | exact Nat.le_of_ble_eq_true rfl | omega | (simp only [List.length_cons, List.length_nil, List.length_map, List.length_append]; omega) | exact hszl | exact hszw | exact Or.inl ⟨by decide, by decide⟩ | exact Or.inr ⟨by decide, by decide⟩ | exact pow_ok (by decide) (by decide) (by omega) (by omega) | exact ⟨by omega, by omega⟩ | exact Or.inl ⟨by omega, by omega⟩) ?_
              first | refine ⟨_, true, rfl, kit_yes rfl, ?_⟩ | refine ⟨_, false, rfl, kit_no rfl, ?_⟩
              refine ⟨_, rfl, ?_⟩
              exact ⟨rfl, rfl⟩
            case h262 =>
              exact ⟨rfl, rfl⟩
          case h252 =>
            refine ew_or1 ?_
            refine et_cmp (c_neqv hu) rfl ?_
            refine e_len T.z_len ?_
            refine ev_sub (fun _ _ => rfl) ?_
            refine ev_name 3 rfl ?_
            refine ev_int ?_
            first | refine ix_scr (by first | assumption | rfl | decide | exact Nat.le_of_ble_eq_true rfl | omega | (simp only [List.length_cons, List.length_nil, List.length_map, List.length_append]; omega) | exact hszl | exact hszw | exact Or.inl ⟨by decide, by decide⟩ | exact Or.inr ⟨by decide, by decide⟩ | exact pow_ok (by decide) (by decide) (by omega) (by omega) | exact ⟨by omega, by omega⟩ | exact Or.inl ⟨by omega, by omega⟩) ?_ | refine ix_q rfl (by first | assumption | rfl | decide | exact Nat.le_of_ble_eq_true rfl | omega | (simp only [List.length_cons, List.length_nil, List.length_map, List.length_append]; omega) | exact hszl | exact hszw | exact Or.inl ⟨by decide, by decide⟩ | exact Or.inr ⟨by decide, by decide⟩ | exact pow_ok (by decide) (by decide) (by omega) (by omega) | exact ⟨by omega, by omega⟩ | exact Or.inl ⟨by omega, by omega⟩) ?_ | refine ix_str (by first | assumption | rfl | decide | exact Nat.le_of_ble_eq_true rfl | omega | (simp only [List.length_cons, List.length_nil, List.length_map, List.length_append]; omega) | exact hszl | exact hszw | exact Or.inl ⟨by decide, by decide⟩ | exact Or.inr ⟨by decide, by decide⟩ | exact pow_ok (by decide) (by decide) (by omega) (by omega) | exact ⟨by omega, by omega⟩ | exact Or.inl ⟨by omega, by omega⟩) (by first | assumption | rfl | decide | exact Nat.le_of_ble_eq_true rfl | omega | (simp only [List.length_cons, List.length_nil, List.length_map, List.length_append]; omega) | exact hszl | exact hszw | exact Or.inl ⟨by decide, by decide⟩ | exact Or.inr ⟨by decide, by decide⟩ | exact pow_ok (by decide) (by decide) (by omega) (by omega) | exact ⟨by omega, by omega⟩ | exact Or.inl ⟨by omega, by omega⟩) ?_
            refine ⟨_, rfl, by first | exact True.intro | first | assumption | rfl | decide | exact Nat.le_of_ble_eq_true rfl | omega | (simp only [List.length_cons, List.length_nil, List.length_map, List.length_append]; omega) | exact hszl | exact hszw | exact Or.inl ⟨by decide, by decide⟩ | exact Or.inr ⟨by decide, by decide⟩ | exact pow_ok (by decide) (by decide) (by omega) (by omega) | exact ⟨by omega, by omega⟩ | exact Or.inl ⟨by omega, by omega⟩, ?_⟩
            refine ev_sub (fun _ _ => rfl) ?_
            refine ev_glo m_KIDS ?_
            refine ev_name 2 rfl ?_
            refine ix_g d_KIDS (by first | assumption | rfl | decide | exact Nat.le_of_ble_eq_true rfl | omega | (simp only [List.length_cons, List.length_nil, List.length_map, List.length_append]; omega) | exact hszl | exact hszw | exact Or.inl ⟨by decide, by decide⟩ | exact Or.inr ⟨by decide, by decide⟩ | exact pow_ok (by decide) (by decide) (by omega) (by omega) | exact ⟨by omega, by omega⟩ | exact Or.inl ⟨by omega, by omega⟩) ?_
            first | refine ne_i ?_ | refine ne_s ?_ | refine ne_v rfl rfl (by first | assumption | rfl | decide | exact Nat.le_of_ble_eq_true rfl | omega | (simp only [List.length_cons, List.length_nil, List.length_map, List.length_append]; omega) | exact hszl | exact hszw | exact Or.inl ⟨by decide, by decide⟩ | exact Or.inr ⟨by decide, by decide⟩ | exact pow_ok (by decide) (by decide) (by omega) (by omega) | exact ⟨by omega, by omega⟩ | exact Or.inl ⟨by omega, by omega⟩) ?_
            refine ⟨_, rfl, ?_⟩
            exact ⟨rfl, rfl⟩
          case h253 =>
            exact ⟨rfl, rfl⟩
        case h242 =>
          refine s_cons ?_
          refine s_ret ?_
          refine ev_bool ?_
          exact retD (congrArg PyData.bool (nodeB_no2 (p := false) (i := i) hk (by simpa using hC) rfl).symm) hP rfl
        case h243 =>
          have h2 := hC
          refine s_nil ?_
          refine s_cons ?_
          refine s_ret ?_
          refine Ev.trim ?_
          refine e_all rfl T.z_all ?_
          refine ev_lc [("kid", 4)] [4] rfl nd (blkOk_by (N := N_is_node) (sc := C8.fnScope s_is_node) (by decide +kernel)) .nil (by decide) ?_
          refine iv_tup ?_
          refine ev_sub (fun _ _ => rfl) ?_
          refine ev_name 3 rfl ?_
          refine ev_int ?_
          first | refine ix_scr (by first | assumption | rfl | decide | exact Nat.le_of_ble_eq_true rfl | omega | (simp only [List.length_cons, List.length_nil, List.length_map, List.length_append]; omega) | exact hszl | exact hszw | exact Or.inl ⟨by decide, by decide⟩ | exact Or.inr ⟨by decide, by decide⟩ | exact pow_ok (by decide) (by decide) (by omega) (by omega) | exact ⟨by omega, by omega⟩ | exact Or.inl ⟨by omega, by omega⟩) ?_ | refine ix_q rfl (by first | assumption | rfl | decide | exact Nat.le_of_ble_eq_true rfl | omega | (simp only [List.length_cons, List.length_nil, List.length_map, List.length_append]; omega) | exact hszl | exact hszw | exact Or.inl ⟨by decide, by decide⟩ | exact Or.inr ⟨by decide, by decide⟩ | exact pow_ok (by decide) (by decide) (by omega) (by omega) | exact ⟨by omega, by omega⟩ | exact Or.inl ⟨by omega, by omega⟩) ?_ | refine ix_str (by first | assumption | rfl | decide | exact Nat.le_of_ble_eq_true rfl | omega | (simp only [List.length_cons, List.length_nil, List.length_map, List.length_append]; omega) | exact hszl | exact hszw | exact Or.inl ⟨by decide, by decide⟩ | exact Or.inr ⟨by decide, by decide⟩ | exact pow_ok (by decide) (by decide) (by omega) (by omega) | exact ⟨by omega, by omega⟩ | exact Or.inl ⟨by omega, by omega⟩) (by first | assumption | rfl | decide | exact Nat.le_of_ble_eq_true rfl | omega | (simp only [List.length_cons, List.length_nil, List.length_map, List.length_append]; omega) | exact hszl | exact hszw | exact Or.inl ⟨by decide, by decide⟩ | exact Or.inr ⟨by decide, by decide⟩ | exact pow_ok (by decide) (by decide) (by omega) (by omega) | exact ⟨by omega, by omega⟩ | exact Or.inl ⟨by omega, by omega⟩) ?_
          refine ⟨_, rfl, ?_⟩
          refine lcd_mapT n.kids PyData.int (fun k => PyData.bool (wholeB k 0 (i - 1))) (rfl) (hM.2) (fun x hx acc => ?_) ?_
          · intro s0 H0 C0 cl0 fp0
            refine ag_name 4 nd ?_ (by decide)
            intro s1 H1 C1 cl1 fp1
            refine ev_cal c_is_whole_3 hr ?_
            refine ea_cons ?_
            refine ev_name 4 rfl ?_
            refine ea_cons ?_
            refine ev_int ?_
            refine ea_cons ?_
            refine ev_bin b_sub ?_
            refine ev_name 1 rfl ?_
            refine ev_int ?_
            refine sub_i ?_
            refine ea_nil ?_
            refine callP_dat rfl ?_
            refine ⟨_, _, _, rfl, rfl, ?_⟩
            exact ⟨rfl, rfl⟩
          refine ⟨n.kids.map fun k => wholeB k 0 (i - 1), by show some _ = some _; rw [List.map_map]; rfl, ?_⟩
          exact retD (by rw [all_map]; exact congrArg PyData.bool (nodeB_yes (i := i) (q := false) hk h1 (by simpa using h2)).symm) hP rfl
end
end K71
set_option maxRecDepth 100000
set_option maxHeartbeats 4000000
namespace K71
open PySem PySem.Spec PyProof.Rows L2 Dv
section
variable {w : World} {K : PySem.W.Frag} {mg : Str → Option Value} {base : Heap}
/-! ### all_kids -/
def kidsOf : PyData → List PyData
  | .tuple [_, _, .tuple es] => es
  | _ => []
def allKids (ns : List Nd) : List Int := ns.flatMap (·.kids)
theorem allKids_d : ∀ ns : List Nd, ((ns.map Nd.d).flatMap fun d => (kidsOf d).map id) = (allKids ns).map PyData.int
  | [] => rfl
  | n :: ns => by
    rw [List.map_cons, List.flatMap_cons, allKids_d ns]
    show (n.kids.map PyData.int).map id ++ _ = ((n.kids ++ allKids ns)).map PyData.int
    rw [List.map_append, List.map_id]
def sp_all_kids : Dv.Spec := fun sls μ P => ∃ ns : List Nd, sls = [.dat (.list (ns.map Nd.d))] ∧ (allKids ns).length ≤ sizeLine ∧ μ = [] ∧ P (.new (.lst ((allKids ns).map PyData.int))) []
theorem len_all_kids {sls μ P} (h : sp_all_kids sls μ P) : sls.length = 1 := by obtain ⟨_, rfl, _⟩ := h; rfl

abbrev N_all_kids : List Str := ["web", "op", "mark", "kids", "kid"]
theorem nd_all_kids : N_all_kids.Nodup := by decide +kernel
abbrev s_all_kids : Stmt := tp 16
theorem sc_all_kids : FnScope N_all_kids ["web"] (C8.fnScope s_all_kids) := C8.fnScope_by (by decide +kernel)
theorem cal_all_kids (T : Txt w K mg)  {f : Addr} {fd : FuncData} (D : DefD K mg "all_kids" s_all_kids ["web"] [] f fd) : Cal PW w K mg base (0 + 1) "all_kids" sp_all_kids [] := by
  refine cal_data (N := N_all_kids) D sc_all_kids (fun sls μ P h => ?_) ?_
  · exact len_all_kids h
  rintro X ⟨cdv, A, outer, s, H, E, rfl⟩ hr S sls μ Pr hS ⟨ns, rfl, hz, rfl, hP⟩
  have nd := nd_all_kids
  have hu := hr.units
  have hu2 := units65 hr
  refine s_cons ?_
  refine s_ret ?_
  refine ev_lc2 [("op", 1), ("mark", 2), ("kids", 3), ("kid", 4)] [1, 2, 3] [4] [4] rfl nd (blkOk_by (N := N_all_kids) (sc := C8.fnScope s_all_kids) (by decide +kernel)) (by decide) (by decide) (by decide) ?_
  refine iv_list ?_
  refine ev_name 0 rfl ?_
  refine ⟨_, rfl, ?_⟩
  refine ⟨kidsOf, id, by rw [allKids_d, List.length_map]; exact hz, fun d hd acc => ?_, ?_⟩
  · obtain ⟨n, hn, rfl⟩ := List.mem_map.mp hd
    intro s0 H0 C0 cl0 fp0
    refine ag_tup rfl rfl ?_
    refine ags_cons ?_
    refine ag_name 1 nd ?_ (by decide)
    refine ags_cons ?_
    refine ag_name 2 nd ?_ (by decide)
    refine ags_cons ?_
    refine ag_name 3 nd ?_ (by decide)
    refine ags_nil ?_
    refine ⟨rfl, fun s1 H1 C1 cl1 fp1 => ?_⟩
    refine ev_name 3 rfl ?_
    refine ⟨rfl, rfl, fun e he acc2 => ?_⟩
    intro s2 H2 C2 cl2 fp2
    refine ag_name 4 nd ?_ (by decide)
    intro s3 H3 C3 cl3 fp3
    refine ev_name 4 rfl ?_
    exact ⟨rfl, rfl⟩
  dsimp only
  refine retO ?_ rfl ?_ hP rfl
  · first | assumption | rfl | decide | exact Nat.le_of_ble_eq_true rfl | omega | (simp only [List.length_cons, List.length_nil, List.length_map, List.length_append]; omega) | exact hszl | exact hszw | exact Or.inl ⟨by decide, by decide⟩ | exact Or.inr ⟨by decide, by decide⟩ | exact pow_ok (by decide) (by decide) (by omega) (by omega) | exact ⟨by omega, by omega⟩ | exact Or.inl ⟨by omega, by omega⟩
  · rw [allKids_d]
/-! ### is_web -/
def deedB (op : Str) : Bool := deedD.any fun e => PyData.eqv e (.str op)
def nodesB (w : List (Option Nd)) : Bool := (enumP 0 w).all fun p => nodeO p.2 (p.1 : Nat)
def manyB (ks : List Int) : Nat := (firstMet (fun i => ks.getD i 0) ks.length).length
def endB (ns : List Nd) : Bool := match ns.getLast? with
  | none => false
  | some l => deedB l.op && (!(ns.dropLast.any fun n => deedB n.op) && decide (((manyB (allKids ns) : Nat) : Int) = (ns.dropLast.length : Nat)))
def webB (w : List (Option Nd)) : Bool := (decide ((2 : Int) ≤ (w.length : Nat)) && decide (((w.length : Nat) : Int) ≤ 40)) && (nodesB w && endB (w.filterMap id))
def WebIn (w : List (Option Nd)) : Prop := ∀ o ∈ w, NdIn o
def sp_is_web : Dv.Spec := fun sls μ P => ∃ ws : List (Option Nd), sls = [.dat (.list (ws.map dO))] ∧ WebIn ws ∧ μ = [] ∧ P (.dat (.bool (webB ws))) []
theorem len_is_web {sls μ P} (h : sp_is_web sls μ P) : sls.length = 1 := by obtain ⟨_, rfl, _⟩ := h; rfl
theorem any_map {α : Type} (xs : List α) (f : α → Bool) : (xs.map f).any id = xs.any f := by rw [List.any_map]; rfl
theorem nodes_some : ∀ {w : List (Option Nd)} {i : Nat}, ((enumP i w).all fun p => nodeO p.2 (p.1 : Nat)) = true → ∃ ns : List Nd, w = ns.map some
  | [], _, _ => ⟨[], rfl⟩
  | o :: w, i, h => by
    rw [show enumP i (o :: w) = (i, o) :: enumP (i + 1) w from rfl, List.all_cons, Bool.and_eq_true] at h
    obtain ⟨ns, rfl⟩ := nodes_some h.2
    cases o with
    | none => exact absurd h.1 (by unfold nodeO; simp)
    | some n => exact ⟨n :: ns, rfl⟩
theorem kvK_two : ∀ p ∈ kvK, ∀ k, p.2 = .int k → k ≤ 2 := by
  unfold kvK
  intro p hp k e
  simp only [List.mem_cons, List.not_mem_nil, or_false] at hp
  rcases hp with rfl | rfl | rfl | rfl | rfl | rfl | rfl | rfl | rfl | rfl | rfl | rfl | rfl <;> (cases e; decide)
theorem lookup_in {x : Str} {v : PyData} : ∀ {l : List (Str × PyData)}, l.lookup x = some v → ∃ y, (y, v) ∈ l
  | [], h => nomatch h
  | (y, u) :: r, h => by
    rw [List.lookup_cons] at h
    split at h
    · cases h; exact ⟨y, List.mem_cons_self⟩
    · obtain ⟨z, hz⟩ := lookup_in h; exact ⟨z, List.mem_cons_of_mem _ hz⟩
theorem node_two {n : Nd} {i : Int} (h : nodeB n i = true) : n.kids.length ≤ 2 := by
  unfold nodeB at h
  split at h
  · rename_i k e
    rw [Bool.and_eq_true, Bool.and_eq_true, decide_eq_true_eq] at h
    obtain ⟨y, hy⟩ := lookup_in e
    have := kvK_two _ hy k rfl
    omega
  · cases h
theorem kids_two : ∀ {ns : List Nd} {i : Nat}, ((enumP i (ns.map some)).all fun p => nodeO p.2 (p.1 : Nat)) = true → (allKids ns).length ≤ 2 * ns.length
  | [], _, _ => Nat.le_refl _
  | n :: ns, i, h => by
    rw [show enumP i ((n :: ns).map some) = (i, some n) :: enumP (i + 1) (ns.map some) from rfl, List.all_cons, Bool.and_eq_true] at h
    have h1 := node_two (show nodeB n (i : Nat) = true from h.1)
    have h2 := kids_two h.2
    show (n.kids ++ allKids ns).length ≤ 2 * (ns.length + 1)
    rw [List.length_append]
    omega

def webLen (w : List (Option Nd)) : Bool := decide ((2 : Int) ≤ (w.length : Nat)) && decide (((w.length : Nat) : Int) ≤ 40)
theorem webLen_40 {w : List (Option Nd)} (h : webLen w = true) : w.length ≤ 40 := by
  unfold webLen at h
  rw [Bool.and_eq_true, decide_eq_true_eq, decide_eq_true_eq] at h
  omega
theorem webLen_size {w : List (Option Nd)} (h : webLen w = true) : w.length ≤ sizeLine := by
  have := webLen_40 h
  rw [sizeLine_eq]
  omega
theorem web_last {ns : List Nd} (h : webLen (ns.map some) = true) : ∃ ini l, ns = ini ++ [l] := by
  unfold webLen at h
  rw [Bool.and_eq_true, decide_eq_true_eq, decide_eq_true_eq, List.length_map] at h
  have : ns ≠ [] := by rintro rfl; simp at h
  exact ⟨ns.dropLast, ns.getLast this, (List.dropLast_concat_getLast this).symm⟩
theorem webB_no1 {w : List (Option Nd)} (h : webLen w = false) : webB w = false := by
  unfold webB
  rw [show (decide ((2 : Int) ≤ (w.length : Nat)) && decide (((w.length : Nat) : Int) ≤ 40)) = webLen w from rfl, h]
  rfl
theorem webB_no2 {w : List (Option Nd)} (h : nodesB w = false) : webB w = false := by
  unfold webB
  rw [h]
  simp
theorem map_dO_some (ns : List Nd) : (ns.map some).map dO = ns.map Nd.d := by rw [List.map_map]; rfl
theorem fm_some (ns : List Nd) : (ns.map some).filterMap id = ns := by
  rw [List.filterMap_map]
  exact List.filterMap_some
theorem webB_no3 {ini : List Nd} {l : Nd} (h : ((!deedB l.op) || ini.any fun n => deedB n.op) = true) : webB ((ini ++ [l]).map some) = false := by
  unfold webB
  rw [fm_some]
  have : endB (ini ++ [l]) = false := by
    unfold endB
    rw [List.getLast?_concat, List.dropLast_concat]
    dsimp only
    cases e1 : deedB l.op with
    | false => rfl
    | true =>
      rw [e1] at h
      rw [show (ini.any fun n => deedB n.op) = true by simpa using h]
      rfl
  rw [this]
  simp
theorem webB_yes {ini : List Nd} {l : Nd} (h1 : webLen ((ini ++ [l]).map some) = true) (h2 : nodesB ((ini ++ [l]).map some) = true) (h3 : ((!deedB l.op) || ini.any fun n => deedB n.op) = false) :
    webB ((ini ++ [l]).map some) = decide (((manyB (allKids (ini ++ [l])) : Nat) : Int) = (ini.length : Nat)) := by
  unfold webB
  rw [fm_some, h2, show (decide ((2 : Int) ≤ (((ini ++ [l]).map some).length : Nat)) && decide ((((ini ++ [l]).map some).length : Nat) ≤ (40 : Int))) = webLen ((ini ++ [l]).map some) from rfl, h1]
  unfold endB
  rw [List.getLast?_concat, List.dropLast_concat]
  rw [Bool.or_eq_false_iff, Bool.not_eq_false'] at h3
  dsimp only
  rw [h3.1, h3.2]
  rfl

abbrev N_is_web : List Str := ["thing", "at", "node", "parts", "last", "op", "mark", "kids"]
theorem nd_is_web : N_is_web.Nodup := by decide +kernel
abbrev s_is_web : Stmt := tp 17
theorem sc_is_web : FnScope N_is_web ["thing"] (C8.fnScope s_is_web) := C8.fnScope_by (by decide +kernel)
theorem cal_is_web (T : Txt w K mg) (c_is_node : Cal PW w K mg base 4 "is_node" sp_is_node []) (c_all_kids : Cal PW w K mg base 1 "all_kids" sp_all_kids []) {f : Addr} {fd : FuncData} (D : DefD K mg "is_web" s_is_web ["thing"] [] f fd) : Cal PW w K mg base (4 + 1) "is_web" sp_is_web [] := by
  refine cal_data (N := N_is_web) D sc_is_web (fun sls μ P h => ?_) ?_
  · exact len_is_web h
  rintro X ⟨cdv, A, outer, s, H, E, rfl⟩ hr S sls μ Pr hS ⟨ws, rfl, hW, rfl, hP⟩
  have nd := nd_is_web
  have hu := hr.units
  have hu2 := units65 hr
  refine s_cons ?_
  refine' s_ifP ?h271 (fun hC => ?h272) (fun hC => ?h273)
  case h271 =>
    refine et_of_ew ?_
    refine' ew_orP ?h281 (fun hA => ?h282) ?h283
    case h281 =>
      refine' et_notP ?h291 ?h292
      case h291 =>
        refine et_val ?_
        refine e_isi T.z_isinstance T.z_list boot_list ?_
        refine ev_name 0 rfl ?_
        first | refine ⟨_, true, rfl, kit_yes rfl, ?_⟩ | refine ⟨_, false, rfl, kit_no rfl, ?_⟩
        refine ⟨_, rfl, ?_⟩
        exact ⟨rfl, rfl⟩
      case h292 =>
        exact ⟨rfl, rfl⟩
    case h282 =>
      refine ew_or1 ?_
      refine' et_notP ?h301 ?h302
      case h301 =>
        refine' et_lele ?h311 ?h312 ?h313 ?h314
        case h311 =>
          refine ev_gI T.g_LEAST_NODES ?_
          exact ⟨rfl, rfl⟩
        case h312 =>
          refine e_len T.z_len ?_
          refine ev_name 0 rfl ?_
          refine ⟨_, rfl, by first | exact True.intro | first | assumption | rfl | decide | exact Nat.le_of_ble_eq_true rfl | omega | (simp only [List.length_cons, List.length_nil, List.length_map, List.length_append]; omega) | exact hszl | exact hszw | exact Or.inl ⟨by decide, by decide⟩ | exact Or.inr ⟨by decide, by decide⟩ | exact pow_ok (by decide) (by decide) (by omega) (by omega) | exact ⟨by omega, by omega⟩ | exact Or.inl ⟨by omega, by omega⟩, ?_⟩
          exact ⟨rfl, rfl⟩
        case h313 =>
          refine ev_gI T.g_MOST_NODES ?_
          exact ⟨rfl, rfl⟩
        case h314 =>
          exact ⟨rfl, rfl⟩
      case h302 =>
        exact ⟨rfl, rfl⟩
    case h283 =>
      exact ⟨rfl, rfl⟩
  case h272 =>
    refine s_cons ?_
    refine s_ret ?_
    refine ev_bool ?_
    exact retD (congrArg PyData.bool (webB_no1 (by have := orN1 hC; rw [List.length_map] at this; exact this)).symm) hP rfl
  case h273 =>
    have h1 : webLen ws = true := by have := orN2 hC; rw [List.length_map] at this; exact this
    have hwz : ws.length ≤ sizeLine := webLen_size h1
    refine s_nil ?_
    refine s_cons ?_
    refine' s_ifP ?h321 (fun hC => ?h322) (fun hC => ?h323)
    case h321 =>
      refine' et_notP ?h331 ?h332
      case h331 =>
        refine et_val ?_
        refine Ev.trim ?_
        refine e_all rfl T.z_all ?_
        refine ev_lc [("at", 1), ("node", 2)] [1, 2] rfl nd (blkOk_by (N := N_is_web) (sc := C8.fnScope s_is_web) (by decide +kernel)) .nil (by decide) ?_
        refine iv_enum T.z_enumerate ?_
        refine ea_cons ?_
        refine ev_name 0 rfl ?_
        refine ea_nil ?_
        refine ⟨_, rfl, ?_⟩
        refine lcd_mapT (enumP 0 ws) (fun p => PyData.tuple [.int (p.1 : Nat), dO p.2]) (fun p => PyData.bool (nodeO p.2 (p.1 : Nat))) (enumD_map dO ws 0) (by rw [enumP_len]; exact hwz) (fun x hx acc => ?_) ?_
        · intro s0 H0 C0 cl0 fp0
          refine ag_tup rfl rfl ?_
          refine ags_cons ?_
          refine ag_name 1 nd ?_ (by decide)
          refine ags_cons ?_
          refine ag_name 2 nd ?_ (by decide)
          refine ags_nil ?_
          intro s1 H1 C1 cl1 fp1
          refine ev_cal c_is_node hr ?_
          refine ea_cons ?_
          refine ev_name 2 rfl ?_
          refine ea_cons ?_
          refine ev_name 1 rfl ?_
          refine ea_nil ?_
          refine callP_dat rfl ?_
          refine ⟨_, _, rfl, hW _ (enumP_mem hx), rfl, ?_⟩
          exact ⟨rfl, rfl⟩
        refine ⟨(enumP 0 ws).map fun p => nodeO p.2 (p.1 : Nat), by show some _ = some _; rw [List.map_map]; rfl, ?_⟩
        refine ⟨_, rfl, ?_⟩
        exact ⟨rfl, rfl⟩
      case h332 =>
        exact ⟨rfl, rfl⟩
    case h322 =>
      refine s_cons ?_
      refine s_ret ?_
      refine ev_bool ?_
      exact retD (congrArg PyData.bool (webB_no2 (by rw [all_map] at hC; exact notT hC)).symm) hP rfl
    case h323 =>
      have h2 : nodesB ws = true := by rw [all_map] at hC; exact notF hC
      obtain ⟨ns, rfl⟩ := nodes_some h2
      have hk2 := kids_two h2
      obtain ⟨ini, l, rfl⟩ := web_last h1
      have hl40 : (ini ++ [l]).length ≤ 40 := by simpa using webLen_40 h1
      refine s_nil ?_
      refine s_cons ?_
      refine s_asg [4, 3] ?_
      refine ev_name 0 rfl ?_
      refine ag_star (ds := ((ini ++ [l]).map Nd.d)) 0 rfl (by show some _ = some _; rw [List.map_map]; rfl) (by rw [List.length_map]; omega) (by simp) ?_
      refine ags_eq (star_last Nd.d ini l) ?_
      refine ags_star (ags_cons ?_)
      refine ag_name 3 nd ?_ (by decide)
      refine ags_cons ?_
      refine ag_name 4 nd ?_ (by decide)
      refine ags_nil ?_
      refine s_cons ?_
      refine' s_ifP ?h341 (fun hC => ?h342) (fun hC => ?h343)
      case h341 =>
        refine et_of_ew ?_
        refine' ew_orP ?h351 (fun hA => ?h352) ?h353
        case h351 =>
          refine et_cmp (c_notInU hu2) rfl ?_
          refine ev_sub (fun _ _ => rfl) ?_
          refine ev_name 4 rfl ?_
          refine ev_int ?_
          first | refine ix_scr (by first | assumption | rfl | decide | exact Nat.le_of_ble_eq_true rfl | omega | (simp only [List.length_cons, List.length_nil, List.length_map, List.length_append]; omega) | exact hszl | exact hszw | exact Or.inl ⟨by decide, by decide⟩ | exact Or.inr ⟨by decide, by decide⟩ | exact pow_ok (by decide) (by decide) (by omega) (by omega) | exact ⟨by omega, by omega⟩ | exact Or.inl ⟨by omega, by omega⟩) ?_ | refine ix_q rfl (by first | assumption | rfl | decide | exact Nat.le_of_ble_eq_true rfl | omega | (simp only [List.length_cons, List.length_nil, List.length_map, List.length_append]; omega) | exact hszl | exact hszw | exact Or.inl ⟨by decide, by decide⟩ | exact Or.inr ⟨by decide, by decide⟩ | exact pow_ok (by decide) (by decide) (by omega) (by omega) | exact ⟨by omega, by omega⟩ | exact Or.inl ⟨by omega, by omega⟩) ?_ | refine ix_str (by first | assumption | rfl | decide | exact Nat.le_of_ble_eq_true rfl | omega | (simp only [List.length_cons, List.length_nil, List.length_map, List.length_append]; omega) | exact hszl | exact hszw | exact Or.inl ⟨by decide, by decide⟩ | exact Or.inr ⟨by decide, by decide⟩ | exact pow_ok (by decide) (by decide) (by omega) (by omega) | exact ⟨by omega, by omega⟩ | exact Or.inl ⟨by omega, by omega⟩) (by first | assumption | rfl | decide | exact Nat.le_of_ble_eq_true rfl | omega | (simp only [List.length_cons, List.length_nil, List.length_map, List.length_append]; omega) | exact hszl | exact hszw | exact Or.inl ⟨by decide, by decide⟩ | exact Or.inr ⟨by decide, by decide⟩ | exact pow_ok (by decide) (by decide) (by omega) (by omega) | exact ⟨by omega, by omega⟩ | exact Or.inl ⟨by omega, by omega⟩) ?_
          refine ev_gT T.g_DEEDS ?_
          refine notin_q rfl rfl rfl ?_
          refine ⟨_, rfl, ?_⟩
          exact ⟨rfl, rfl⟩
        case h352 =>
          refine ew_or1 ?_
          refine et_val ?_
          refine Ev.trim ?_
          refine e_any rfl T.z_any ?_
          refine ev_lc [("op", 5), ("mark", 6), ("kids", 7)] [5, 6, 7] rfl nd (blkOk_by (N := N_is_web) (sc := C8.fnScope s_is_web) (by decide +kernel)) .nil (by decide) ?_
          refine iv_list ?_
          refine ev_name 3 rfl ?_
          refine ⟨_, rfl, ?_⟩
          refine lcd_mapT ini Nd.d (fun n => PyData.bool (deedB n.op)) (rfl) (by rw [sizeLine_eq]; have := hl40; simp at this; omega) (fun x hx acc => ?_) ?_
          · intro s0 H0 C0 cl0 fp0
            refine ag_tup rfl rfl ?_
            refine ags_cons ?_
            refine ag_name 5 nd ?_ (by decide)
            refine ags_cons ?_
            refine ag_name 6 nd ?_ (by decide)
            refine ags_cons ?_
            refine ag_name 7 nd ?_ (by decide)
            refine ags_nil ?_
            intro s1 H1 C1 cl1 fp1
            refine ev_cmp (c_inU hu2) rfl ?_
            refine ev_name 5 rfl ?_
            refine ev_gT T.g_DEEDS ?_
            refine in_q rfl rfl rfl ?_
            exact ⟨rfl, rfl⟩
          refine ⟨ini.map fun n => deedB n.op, by show some _ = some _; rw [List.map_map]; rfl, ?_⟩
          refine ⟨_, rfl, ?_⟩
          exact ⟨rfl, rfl⟩
        case h353 =>
          exact ⟨rfl, rfl⟩
      case h342 =>
        refine s_cons ?_
        refine s_ret ?_
        refine ev_bool ?_
        exact retD (congrArg PyData.bool (webB_no3 (by rw [any_map] at hC; exact hC)).symm) hP rfl
      case h343 =>
        have h3 := hC
        rw [any_map] at h3
        refine s_nil ?_
        refine s_cons ?_
        refine s_ret ?_
        refine ev_cmp (c_eqv hu) rfl ?_
        refine ev_lenSet T.z_len T.z_set rfl ?_
        refine ev_cal c_all_kids hr ?_
        refine ea_cons ?_
        refine ev_name 0 rfl ?_
        refine ea_nil ?_
        rw [map_dO_some]
        refine callP_dat rfl ?_
        refine ⟨_, rfl, by have := hk2; have := hl40; rw [sizeLine_eq]; simp at *; omega, rfl, ?_⟩
        refine ⟨allKids (ini ++ [l]), rfl, by have := hk2; have := hl40; simp at *; omega, ?_⟩
        refine e_len T.z_len ?_
        refine ev_name 3 rfl ?_
        refine ⟨_, rfl, by first | exact True.intro | first | assumption | rfl | decide | exact Nat.le_of_ble_eq_true rfl | omega | (simp only [List.length_cons, List.length_nil, List.length_map, List.length_append]; omega) | exact hszl | exact hszw | exact Or.inl ⟨by decide, by decide⟩ | exact Or.inr ⟨by decide, by decide⟩ | exact pow_ok (by decide) (by decide) (by omega) (by omega) | exact ⟨by omega, by omega⟩ | exact Or.inl ⟨by omega, by omega⟩, ?_⟩
        first | refine eq_i ?_ | refine eq_s ?_ | refine eq_v rfl rfl (by first | assumption | rfl | decide | exact Nat.le_of_ble_eq_true rfl | omega | (simp only [List.length_cons, List.length_nil, List.length_map, List.length_append]; omega) | exact hszl | exact hszw | exact Or.inl ⟨by decide, by decide⟩ | exact Or.inr ⟨by decide, by decide⟩ | exact pow_ok (by decide) (by decide) (by omega) (by omega) | exact ⟨by omega, by omega⟩ | exact Or.inl ⟨by omega, by omega⟩) ?_
        exact retD (by rw [List.length_map]; exact congrArg PyData.bool (webB_yes h1 h2 h3).symm) hP rfl
end
end K71
set_option maxRecDepth 100000
set_option maxHeartbeats 4000000
namespace K71
open PySem PySem.Spec PyProof.Rows L2 Dv
section
variable {w : World} {K : PySem.W.Frag} {mg : Str → Option Value} {base : Heap}
/-! ### plain_number -/
open PySem.NumText in
def figB (s : Str) : Bool := (decide ((1 : Int) ≤ (s.length : Nat)) && decide (((s.length : Nat) : Int) ≤ 5)) && s.cps.toList.all fun c => decide (c ∈ ("0123456789" : Str).cps.toList)
def leadB (s : Str) : Bool := (!decide (s = "0")) && Txt.startswith s "0"
def numV (s : Str) : Int := if figB s = true ∧ leadB s = false then ((PySem.NumText.digitsVal s.cps.toList : Nat) : Int) else -1
def sp_plain_number : Dv.Spec := fun sls μ P => ∃ s : Str, sls = [.dat (.str s)] ∧ s.length ≤ sizeLine ∧ μ = [] ∧ P (.dat (.int (numV s))) []
theorem len_plain_number {sls μ P} (h : sp_plain_number sls μ P) : sls.length = 1 := by obtain ⟨_, rfl, _⟩ := h; rfl
theorem fig_num {s : Str} (h : figB s = true) : PySem.intText? s = some ((PySem.NumText.digitsVal s.cps.toList : Nat) : Int) ∧ s.length ≤ 640 := by
  unfold figB at h
  rw [Bool.and_eq_true, Bool.and_eq_true, decide_eq_true_eq, decide_eq_true_eq, List.all_eq_true] at h
  obtain ⟨⟨h1, h2⟩, h3⟩ := h
  refine ⟨PySem.intText_digits (fun c hc => ?_) (fun e => ?_) (by omega), by omega⟩
  · have := of_decide_eq_true (h3 c hc)
    have e : ("0123456789" : Str).cps.toList = [48, 49, 50, 51, 52, 53, 54, 55, 56, 57] := by decide +kernel
    rw [e] at this
    simp only [List.mem_cons, List.not_mem_nil, or_false] at this
    omega
  · have : s.length = s.cps.toList.length := rfl
    rw [e] at this
    simp at this
    omega
theorem num_no1 {s : Str} {p q : Bool} (hp : p = (decide ((1 : Int) ≤ (s.length : Nat)) && decide (((s.length : Nat) : Int) ≤ 5))) (hq : q = s.cps.toList.all fun c => decide (c ∈ ("0123456789" : Str).cps.toList)) (h : (!p || !q) = true) : numV s = -1 := by
  unfold numV
  rw [if_neg]
  rintro ⟨h1, _⟩
  unfold figB at h1
  rw [← hp, ← hq] at h1
  cases p <;> cases q <;> simp_all
theorem num_fig {s : Str} {p q : Bool} (hp : p = (decide ((1 : Int) ≤ (s.length : Nat)) && decide (((s.length : Nat) : Int) ≤ 5))) (hq : q = s.cps.toList.all fun c => decide (c ∈ ("0123456789" : Str).cps.toList)) (h : (!p || !q) = false) : figB s = true := by
  unfold figB
  rw [← hp, ← hq]
  cases p <;> cases q <;> simp_all

abbrev N_plain_number : List Str := ["word", "sign"]
theorem nd_plain_number : N_plain_number.Nodup := by decide +kernel
abbrev s_plain_number : Stmt := tp 21
theorem sc_plain_number : FnScope N_plain_number ["word"] (C8.fnScope s_plain_number) := C8.fnScope_by (by decide +kernel)
theorem cal_plain_number (T : Txt w K mg)  {f : Addr} {fd : FuncData} (D : DefD K mg "plain_number" s_plain_number ["word"] [] f fd) : Cal PW w K mg base (0 + 1) "plain_number" sp_plain_number [] := by
  refine cal_data (N := N_plain_number) D sc_plain_number (fun sls μ P h => ?_) ?_
  · exact len_plain_number h
  rintro X ⟨cdv, A, outer, s, H, E, rfl⟩ hr S sls μ Pr hS ⟨st, rfl, hz, rfl, hP⟩
  have nd := nd_plain_number
  have hu := hr.units
  have hu2 := units65 hr
  refine s_cons ?_
  refine' s_ifP ?h361 (fun hC => ?h362) (fun hC => ?h363)
  case h361 =>
    refine et_of_ew ?_
    refine' ew_orP ?h371 (fun hA => ?h372) ?h373
    case h371 =>
      refine' et_notP ?h381 ?h382
      case h381 =>
        refine' et_lele ?h391 ?h392 ?h393 ?h394
        case h391 =>
          refine ev_int ?_
          exact ⟨rfl, rfl⟩
        case h392 =>
          refine e_len T.z_len ?_
          refine ev_name 0 rfl ?_
          refine ⟨_, rfl, by first | exact True.intro | first | assumption | rfl | decide | exact Nat.le_of_ble_eq_true rfl | omega | (simp only [List.length_cons, List.length_nil, List.length_map, List.length_append]; omega) | exact hszl | exact hszw | exact Or.inl ⟨by decide, by decide⟩ | exact Or.inr ⟨by decide, by decide⟩ | exact pow_ok (by decide) (by decide) (by omega) (by omega) | exact ⟨by omega, by omega⟩ | exact Or.inl ⟨by omega, by omega⟩, ?_⟩
          exact ⟨rfl, rfl⟩
        case h393 =>
          refine ev_gI T.g_MOST_FIGURES ?_
          exact ⟨rfl, rfl⟩
        case h394 =>
          exact ⟨rfl, rfl⟩
      case h382 =>
        exact ⟨rfl, rfl⟩
    case h372 =>
      refine ew_or1 ?_
      refine' et_notP ?h401 ?h402
      case h401 =>
        refine et_val ?_
        refine Ev.trim ?_
        refine e_all rfl T.z_all ?_
        refine ev_lc [("sign", 1)] [1] rfl nd (blkOk_by (N := N_plain_number) (sc := C8.fnScope s_plain_number) (by decide +kernel)) .nil (by decide) ?_
        refine iv_str ?_
        refine ev_name 0 rfl ?_
        refine ⟨_, rfl, ?_⟩
        refine lcd_mapT st.cps.toList (fun c => PyData.str ⟨#[c]⟩) (fun c => PyData.bool (decide (c ∈ ("0123456789" : Str).cps.toList))) (rfl) (by show st.cps.size ≤ _; exact hz) (fun x hx acc => ?_) ?_
        · intro s0 H0 C0 cl0 fp0
          refine ag_name 1 nd ?_ (by decide)
          intro s1 H1 C1 cl1 fp1
          refine ev_cmp (c_inU hu2) rfl ?_
          refine ev_name 1 rfl ?_
          refine ev_gS T.g_FIGURES ?_
          first | refine in_s ?_ | refine in_q rfl (by first | assumption | rfl | decide | exact Nat.le_of_ble_eq_true rfl | omega | (simp only [List.length_cons, List.length_nil, List.length_map, List.length_append]; omega) | exact hszl | exact hszw | exact Or.inl ⟨by decide, by decide⟩ | exact Or.inr ⟨by decide, by decide⟩ | exact pow_ok (by decide) (by decide) (by omega) (by omega) | exact ⟨by omega, by omega⟩ | exact Or.inl ⟨by omega, by omega⟩) (by first | assumption | rfl | decide | exact Nat.le_of_ble_eq_true rfl | omega | (simp only [List.length_cons, List.length_nil, List.length_map, List.length_append]; omega) | exact hszl | exact hszw | exact Or.inl ⟨by decide, by decide⟩ | exact Or.inr ⟨by decide, by decide⟩ | exact pow_ok (by decide) (by decide) (by omega) (by omega) | exact ⟨by omega, by omega⟩ | exact Or.inl ⟨by omega, by omega⟩) ?_ | refine in_d rfl rfl (by first | assumption | rfl | decide | exact Nat.le_of_ble_eq_true rfl | omega | (simp only [List.length_cons, List.length_nil, List.length_map, List.length_append]; omega) | exact hszl | exact hszw | exact Or.inl ⟨by decide, by decide⟩ | exact Or.inr ⟨by decide, by decide⟩ | exact pow_ok (by decide) (by decide) (by omega) (by omega) | exact ⟨by omega, by omega⟩ | exact Or.inl ⟨by omega, by omega⟩) (by first | assumption | rfl | decide | exact Nat.le_of_ble_eq_true rfl | omega | (simp only [List.length_cons, List.length_nil, List.length_map, List.length_append]; omega) | exact hszl | exact hszw | exact Or.inl ⟨by decide, by decide⟩ | exact Or.inr ⟨by decide, by decide⟩ | exact pow_ok (by decide) (by decide) (by omega) (by omega) | exact ⟨by omega, by omega⟩ | exact Or.inl ⟨by omega, by omega⟩) ?_
          exact ⟨rfl, rfl⟩
        refine ⟨st.cps.toList.map fun c => decide (c ∈ ("0123456789" : Str).cps.toList), by show some _ = some _; rw [List.map_map]; rfl, ?_⟩
        refine ⟨_, rfl, ?_⟩
        exact ⟨rfl, rfl⟩
      case h402 =>
        exact ⟨rfl, rfl⟩
    case h373 =>
      exact ⟨rfl, rfl⟩
  case h362 =>
    refine s_cons ?_
    refine s_ret ?_
    refine ev_neg ?_
    refine ev_int ?_
    refine ⟨_, rfl, ?_⟩
    exact retD (congrArg PyData.int (num_no1 rfl (all_map _ _) hC).symm) hP rfl
  case h363 =>
    have hf : figB st = true := num_fig rfl (all_map _ _) hC
    refine s_nil ?_
    refine s_cons ?_
    refine' s_ifP ?h411 (fun hC => ?h412) (fun hC => ?h413)
    case h411 =>
      refine et_of_ew ?_
      refine' ew_andP ?h421 (fun hA => ?h422) ?h423
      case h421 =>
        refine et_cmp (c_neqv hu) rfl ?_
        refine ev_name 0 rfl ?_
        refine ev_str ?_
        first | refine ne_i ?_ | refine ne_s ?_ | refine ne_v rfl rfl (by first | assumption | rfl | decide | exact Nat.le_of_ble_eq_true rfl | omega | (simp only [List.length_cons, List.length_nil, List.length_map, List.length_append]; omega) | exact hszl | exact hszw | exact Or.inl ⟨by decide, by decide⟩ | exact Or.inr ⟨by decide, by decide⟩ | exact pow_ok (by decide) (by decide) (by omega) (by omega) | exact ⟨by omega, by omega⟩ | exact Or.inl ⟨by omega, by omega⟩) ?_
        refine ⟨_, rfl, ?_⟩
        exact ⟨rfl, rfl⟩
      case h422 =>
        refine ew_and1 ?_
        refine et_val ?_
        refine e_starts ?_
        refine ev_name 0 rfl ?_
        refine ⟨_, rfl, ?_⟩
        refine ev_str ?_
        refine ⟨_, rfl, ?_⟩
        refine ⟨_, rfl, ?_⟩
        exact ⟨rfl, rfl⟩
      case h423 =>
        exact ⟨rfl, rfl⟩
    case h412 =>
      refine s_cons ?_
      refine s_ret ?_
      refine ev_neg ?_
      refine ev_int ?_
      refine ⟨_, rfl, ?_⟩
      exact retD (congrArg PyData.int (show (-1 : Int) = numV st from (if_neg (fun z => by have z2 := z.2; unfold leadB at z2; rw [hC] at z2; cases z2)).symm)) hP rfl
    case h413 =>
      refine s_nil ?_
      refine s_cons ?_
      refine s_ret ?_
      refine e_int10 T.z_int ?_
      refine ea_cons ?_
      refine ev_name 0 rfl ?_
      refine ea_cons ?_
      refine ev_int ?_
      refine ea_nil ?_
      refine ⟨_, _, rfl, (fig_num hf).1, (fig_num hf).2, ?_⟩
      exact retD (congrArg PyData.int (if_pos ⟨hf, hC⟩ : numV st = _).symm) hP rfl
/-! ### show_node .. -/
theorem sp_len : (" " : Str).length = 1 := by decide +kernel
theorem sep_len : ("; " : Str).length = 2 := by decide +kernel
theorem nl_len : ("\n" : Str).length = 1 := by decide +kernel
def numS (i : Int) : Str := (toString i : String)
def markW : PyData → List Str
  | .int i => [numS i]
  | .str s => [s]
  | _ => []
def MarkShow (m : PyData) : Prop := m = .none ∨ (∃ i : Int, m = .int i ∧ i.natAbs.log2 < 1920) ∨ ∃ s, m = .str s
def wordsN (n : Nd) : List Str := n.op :: (markW n.mark ++ n.kids.map numS)
def showN (n : Nd) : Str := Txt.join " " (wordsN n)
def ShowIn (n : Nd) : Prop := MarkShow n.mark ∧ (∀ k ∈ n.kids, k.natAbs.log2 < 1920) ∧ n.kids.length + 2 ≤ sizeLine ∧ ((wordsN n).map (·.length)).sum + (wordsN n).length * 1 ≤ 16777216
def sp_show_node : Dv.Spec := fun sls μ P => ∃ n : Nd, sls = [.dat n.d] ∧ ShowIn n ∧ μ = [] ∧ P (.dat (.str (showN n))) []
theorem len_show_node {sls μ P} (h : sp_show_node sls μ P) : sls.length = 1 := by obtain ⟨_, rfl, _⟩ := h; rfl

abbrev N_show_node : List Str := ["node", "op", "mark", "kids", "words", "kid"]
theorem nd_show_node : N_show_node.Nodup := by decide +kernel
abbrev s_show_node : Stmt := tp 25
theorem sc_show_node : FnScope N_show_node ["node"] (C8.fnScope s_show_node) := C8.fnScope_by (by decide +kernel)
theorem cal_show_node (T : Txt w K mg)  {f : Addr} {fd : FuncData} (D : DefD K mg "show_node" s_show_node ["node"] [] f fd) : Cal PW w K mg base (0 + 1) "show_node" sp_show_node [] := by
  refine cal_data (N := N_show_node) D sc_show_node (fun sls μ P h => ?_) ?_
  · exact len_show_node h
  rintro X ⟨cdv, A, outer, s, H, E, rfl⟩ hr S sls μ Pr hS ⟨n, rfl, hS2, rfl, hP⟩
  have nd := nd_show_node
  have hu := hr.units
  have hu2 := units65 hr
  obtain ⟨op, mk, kids⟩ := n
  obtain ⟨h1, h2, h3, h4⟩ := hS2
  dsimp only at h1 h2 h3
  rcases h1 with rfl | ⟨i, rfl, hi⟩ | ⟨sx, rfl⟩
  · refine s_cons ?_
    refine s_asg [1, 2, 3] ?_
    refine ev_name 0 rfl ?_
    refine ag_tup rfl rfl ?_
    refine ags_cons ?_
    refine ag_name 1 nd ?_ (by decide)
    refine ags_cons ?_
    refine ag_name 2 nd ?_ (by decide)
    refine ags_cons ?_
    refine ag_name 3 nd ?_ (by decide)
    refine ags_nil ?_
    refine s_cons ?_
    refine s_set 4 nd ?_
    refine' ev_ifP ?h431 (fun hC => ?h432) (fun hC => ?h433)
    case h431 =>
      refine et_cmp c_isN rfl ?_
      refine ev_name 2 rfl ?_
      refine ev_none ?_
      refine is_n ?_
      refine ⟨_, rfl, ?_⟩
      exact ⟨rfl, rfl⟩
    case h432 =>
      refine ev_list ?_
      refine ea_cons ?_
      refine ev_name 1 rfl ?_
      refine ea_nil ?_
      refine lst_of rfl (by first | assumption | rfl | decide | exact Nat.le_of_ble_eq_true rfl | omega | (simp only [List.length_cons, List.length_nil, List.length_map, List.length_append]; omega) | exact hszl | exact hszw | exact Or.inl ⟨by decide, by decide⟩ | exact Or.inr ⟨by decide, by decide⟩ | exact pow_ok (by decide) (by decide) (by omega) (by omega) | exact ⟨by omega, by omega⟩ | exact Or.inl ⟨by omega, by omega⟩) ?_
      refine s_cons ?_
      refine s_ret ?_
      refine e_join ?_
      refine ev_str ?_
      refine ⟨_, rfl, ?_⟩
      refine ev_bin b_plus ?_
      refine ev_name 4 rfl ?_
      refine ev_lc [("kid", 5)] [5] rfl nd (blkOk_by (N := N_show_node) (sc := C8.fnScope s_show_node) (by decide +kernel)) .nil (by decide) ?_
      refine iv_tup ?_
      refine ev_name 3 rfl ?_
      refine ⟨_, rfl, ?_⟩
      refine lcd_mapT kids PyData.int (fun k => PyData.str (numS k)) (rfl) (by omega) (fun x hx acc => ?_) ?_
      · have hxs := h2 x hx
        intro s0 H0 C0 cl0 fp0
        refine ag_name 5 nd ?_ (by decide)
        intro s1 H1 C1 cl1 fp1
        refine e_str T.z_str ?_
        refine ev_name 5 rfl ?_
        first | refine str_i (by first | assumption | rfl | decide | exact Nat.le_of_ble_eq_true rfl | omega | (simp only [List.length_cons, List.length_nil, List.length_map, List.length_append]; omega) | exact hszl | exact hszw | exact Or.inl ⟨by decide, by decide⟩ | exact Or.inr ⟨by decide, by decide⟩ | exact pow_ok (by decide) (by decide) (by omega) (by omega) | exact ⟨by omega, by omega⟩ | exact Or.inl ⟨by omega, by omega⟩) ?_ | refine str_s ?_
        exact ⟨rfl, rfl⟩
      first | refine plus_i ?_ | refine plus_s (by first | assumption | rfl | decide | exact Nat.le_of_ble_eq_true rfl | omega | (simp only [List.length_cons, List.length_nil, List.length_map, List.length_append]; omega) | exact hszl | exact hszw | exact Or.inl ⟨by decide, by decide⟩ | exact Or.inr ⟨by decide, by decide⟩ | exact pow_ok (by decide) (by decide) (by omega) (by omega) | exact ⟨by omega, by omega⟩ | exact Or.inl ⟨by omega, by omega⟩) ?_ | refine plus_l rfl rfl (by first | assumption | rfl | decide | exact Nat.le_of_ble_eq_true rfl | omega | (simp only [List.length_cons, List.length_nil, List.length_map, List.length_append]; omega) | exact hszl | exact hszw | exact Or.inl ⟨by decide, by decide⟩ | exact Or.inr ⟨by decide, by decide⟩ | exact pow_ok (by decide) (by decide) (by omega) (by omega) | exact ⟨by omega, by omega⟩ | exact Or.inl ⟨by omega, by omega⟩) ?_
      refine ⟨[op] ++ kids.map numS, by show some _ = some _; rw [List.map_append, List.map_map]; rfl, by rw [sp_len]; simpa [wordsN, markW] using h4, ?_⟩
      exact retD rfl hP rfl
    case h433 =>
      exact Bool.noConfusion (show true = false from hC)
  · refine s_cons ?_
    refine s_asg [1, 2, 3] ?_
    refine ev_name 0 rfl ?_
    refine ag_tup rfl rfl ?_
    refine ags_cons ?_
    refine ag_name 1 nd ?_ (by decide)
    refine ags_cons ?_
    refine ag_name 2 nd ?_ (by decide)
    refine ags_cons ?_
    refine ag_name 3 nd ?_ (by decide)
    refine ags_nil ?_
    refine s_cons ?_
    refine s_set 4 nd ?_
    refine' ev_ifP ?h441 (fun hC => ?h442) (fun hC => ?h443)
    case h441 =>
      refine et_cmp c_isN rfl ?_
      refine ev_name 2 rfl ?_
      refine ev_none ?_
      refine is_n ?_
      refine ⟨_, rfl, ?_⟩
      exact ⟨rfl, rfl⟩
    case h442 =>
      exact Bool.noConfusion (show false = true from hC)
    case h443 =>
      refine ev_list ?_
      refine ea_cons ?_
      refine ev_name 1 rfl ?_
      refine ea_cons ?_
      refine e_str T.z_str ?_
      refine ev_name 2 rfl ?_
      first | refine str_i (by first | assumption | rfl | decide | exact Nat.le_of_ble_eq_true rfl | omega | (simp only [List.length_cons, List.length_nil, List.length_map, List.length_append]; omega) | exact hszl | exact hszw | exact Or.inl ⟨by decide, by decide⟩ | exact Or.inr ⟨by decide, by decide⟩ | exact pow_ok (by decide) (by decide) (by omega) (by omega) | exact ⟨by omega, by omega⟩ | exact Or.inl ⟨by omega, by omega⟩) ?_ | refine str_s ?_
      refine ea_nil ?_
      refine lst_of rfl (by first | assumption | rfl | decide | exact Nat.le_of_ble_eq_true rfl | omega | (simp only [List.length_cons, List.length_nil, List.length_map, List.length_append]; omega) | exact hszl | exact hszw | exact Or.inl ⟨by decide, by decide⟩ | exact Or.inr ⟨by decide, by decide⟩ | exact pow_ok (by decide) (by decide) (by omega) (by omega) | exact ⟨by omega, by omega⟩ | exact Or.inl ⟨by omega, by omega⟩) ?_
      refine s_cons ?_
      refine s_ret ?_
      refine e_join ?_
      refine ev_str ?_
      refine ⟨_, rfl, ?_⟩
      refine ev_bin b_plus ?_
      refine ev_name 4 rfl ?_
      refine ev_lc [("kid", 5)] [5] rfl nd (blkOk_by (N := N_show_node) (sc := C8.fnScope s_show_node) (by decide +kernel)) .nil (by decide) ?_
      refine iv_tup ?_
      refine ev_name 3 rfl ?_
      refine ⟨_, rfl, ?_⟩
      refine lcd_mapT kids PyData.int (fun k => PyData.str (numS k)) (rfl) (by omega) (fun x hx acc => ?_) ?_
      · have hxs := h2 x hx
        intro s0 H0 C0 cl0 fp0
        refine ag_name 5 nd ?_ (by decide)
        intro s1 H1 C1 cl1 fp1
        refine e_str T.z_str ?_
        refine ev_name 5 rfl ?_
        first | refine str_i (by first | assumption | rfl | decide | exact Nat.le_of_ble_eq_true rfl | omega | (simp only [List.length_cons, List.length_nil, List.length_map, List.length_append]; omega) | exact hszl | exact hszw | exact Or.inl ⟨by decide, by decide⟩ | exact Or.inr ⟨by decide, by decide⟩ | exact pow_ok (by decide) (by decide) (by omega) (by omega) | exact ⟨by omega, by omega⟩ | exact Or.inl ⟨by omega, by omega⟩) ?_ | refine str_s ?_
        exact ⟨rfl, rfl⟩
      first | refine plus_i ?_ | refine plus_s (by first | assumption | rfl | decide | exact Nat.le_of_ble_eq_true rfl | omega | (simp only [List.length_cons, List.length_nil, List.length_map, List.length_append]; omega) | exact hszl | exact hszw | exact Or.inl ⟨by decide, by decide⟩ | exact Or.inr ⟨by decide, by decide⟩ | exact pow_ok (by decide) (by decide) (by omega) (by omega) | exact ⟨by omega, by omega⟩ | exact Or.inl ⟨by omega, by omega⟩) ?_ | refine plus_l rfl rfl (by first | assumption | rfl | decide | exact Nat.le_of_ble_eq_true rfl | omega | (simp only [List.length_cons, List.length_nil, List.length_map, List.length_append]; omega) | exact hszl | exact hszw | exact Or.inl ⟨by decide, by decide⟩ | exact Or.inr ⟨by decide, by decide⟩ | exact pow_ok (by decide) (by decide) (by omega) (by omega) | exact ⟨by omega, by omega⟩ | exact Or.inl ⟨by omega, by omega⟩) ?_
      refine ⟨[op, numS i] ++ kids.map numS, by show some _ = some _; rw [List.map_append, List.map_map]; rfl, by rw [sp_len]; simpa [wordsN, markW] using h4, ?_⟩
      exact retD rfl hP rfl
  · refine s_cons ?_
    refine s_asg [1, 2, 3] ?_
    refine ev_name 0 rfl ?_
    refine ag_tup rfl rfl ?_
    refine ags_cons ?_
    refine ag_name 1 nd ?_ (by decide)
    refine ags_cons ?_
    refine ag_name 2 nd ?_ (by decide)
    refine ags_cons ?_
    refine ag_name 3 nd ?_ (by decide)
    refine ags_nil ?_
    refine s_cons ?_
    refine s_set 4 nd ?_
    refine' ev_ifP ?h451 (fun hC => ?h452) (fun hC => ?h453)
    case h451 =>
      refine et_cmp c_isN rfl ?_
      refine ev_name 2 rfl ?_
      refine ev_none ?_
      refine is_n ?_
      refine ⟨_, rfl, ?_⟩
      exact ⟨rfl, rfl⟩
    case h452 =>
      exact Bool.noConfusion (show false = true from hC)
    case h453 =>
      refine ev_list ?_
      refine ea_cons ?_
      refine ev_name 1 rfl ?_
      refine ea_cons ?_
      refine e_str T.z_str ?_
      refine ev_name 2 rfl ?_
      first | refine str_i (by first | assumption | rfl | decide | exact Nat.le_of_ble_eq_true rfl | omega | (simp only [List.length_cons, List.length_nil, List.length_map, List.length_append]; omega) | exact hszl | exact hszw | exact Or.inl ⟨by decide, by decide⟩ | exact Or.inr ⟨by decide, by decide⟩ | exact pow_ok (by decide) (by decide) (by omega) (by omega) | exact ⟨by omega, by omega⟩ | exact Or.inl ⟨by omega, by omega⟩) ?_ | refine str_s ?_
      refine ea_nil ?_
      refine lst_of rfl (by first | assumption | rfl | decide | exact Nat.le_of_ble_eq_true rfl | omega | (simp only [List.length_cons, List.length_nil, List.length_map, List.length_append]; omega) | exact hszl | exact hszw | exact Or.inl ⟨by decide, by decide⟩ | exact Or.inr ⟨by decide, by decide⟩ | exact pow_ok (by decide) (by decide) (by omega) (by omega) | exact ⟨by omega, by omega⟩ | exact Or.inl ⟨by omega, by omega⟩) ?_
      refine s_cons ?_
      refine s_ret ?_
      refine e_join ?_
      refine ev_str ?_
      refine ⟨_, rfl, ?_⟩
      refine ev_bin b_plus ?_
      refine ev_name 4 rfl ?_
      refine ev_lc [("kid", 5)] [5] rfl nd (blkOk_by (N := N_show_node) (sc := C8.fnScope s_show_node) (by decide +kernel)) .nil (by decide) ?_
      refine iv_tup ?_
      refine ev_name 3 rfl ?_
      refine ⟨_, rfl, ?_⟩
      refine lcd_mapT kids PyData.int (fun k => PyData.str (numS k)) (rfl) (by omega) (fun x hx acc => ?_) ?_
      · have hxs := h2 x hx
        intro s0 H0 C0 cl0 fp0
        refine ag_name 5 nd ?_ (by decide)
        intro s1 H1 C1 cl1 fp1
        refine e_str T.z_str ?_
        refine ev_name 5 rfl ?_
        first | refine str_i (by first | assumption | rfl | decide | exact Nat.le_of_ble_eq_true rfl | omega | (simp only [List.length_cons, List.length_nil, List.length_map, List.length_append]; omega) | exact hszl | exact hszw | exact Or.inl ⟨by decide, by decide⟩ | exact Or.inr ⟨by decide, by decide⟩ | exact pow_ok (by decide) (by decide) (by omega) (by omega) | exact ⟨by omega, by omega⟩ | exact Or.inl ⟨by omega, by omega⟩) ?_ | refine str_s ?_
        exact ⟨rfl, rfl⟩
      first | refine plus_i ?_ | refine plus_s (by first | assumption | rfl | decide | exact Nat.le_of_ble_eq_true rfl | omega | (simp only [List.length_cons, List.length_nil, List.length_map, List.length_append]; omega) | exact hszl | exact hszw | exact Or.inl ⟨by decide, by decide⟩ | exact Or.inr ⟨by decide, by decide⟩ | exact pow_ok (by decide) (by decide) (by omega) (by omega) | exact ⟨by omega, by omega⟩ | exact Or.inl ⟨by omega, by omega⟩) ?_ | refine plus_l rfl rfl (by first | assumption | rfl | decide | exact Nat.le_of_ble_eq_true rfl | omega | (simp only [List.length_cons, List.length_nil, List.length_map, List.length_append]; omega) | exact hszl | exact hszw | exact Or.inl ⟨by decide, by decide⟩ | exact Or.inr ⟨by decide, by decide⟩ | exact pow_ok (by decide) (by decide) (by omega) (by omega) | exact ⟨by omega, by omega⟩ | exact Or.inl ⟨by omega, by omega⟩) ?_
      refine ⟨[op, sx] ++ kids.map numS, by show some _ = some _; rw [List.map_append, List.map_map]; rfl, by rw [sp_len]; simpa [wordsN, markW] using h4, ?_⟩
      exact retD rfl hP rfl
def showW (ns : List Nd) : Str := Txt.join "; " (ns.map showN)
def ShowW (ns : List Nd) : Prop := (∀ n ∈ ns, ShowIn n) ∧ ns.length ≤ sizeLine ∧ ((ns.map showN).map (·.length)).sum + (ns.map showN).length * 2 ≤ 16777216
def webD (ns : List Nd) : PyData := .list (ns.map Nd.d)
def sp_show_web : Dv.Spec := fun sls μ P => ∃ ns : List Nd, sls = [.dat (webD ns)] ∧ ShowW ns ∧ μ = [] ∧ P (.dat (.str (showW ns))) []
theorem len_show_web {sls μ P} (h : sp_show_web sls μ P) : sls.length = 1 := by obtain ⟨_, rfl, _⟩ := h; rfl
def showP (p : List (List Nd)) : Str := Txt.join "\n" (p.map showW)
def ShowP (p : List (List Nd)) : Prop := (∀ ns ∈ p, ShowW ns) ∧ p.length ≤ sizeLine ∧ ((p.map showW).map (·.length)).sum + (p.map showW).length * 1 ≤ 16777216
def sp_show_program : Dv.Spec := fun sls μ P => ∃ p : List (List Nd), sls = [.dat (.list (p.map webD))] ∧ ShowP p ∧ μ = [] ∧ P (.dat (.str (showP p))) []
theorem len_show_program {sls μ P} (h : sp_show_program sls μ P) : sls.length = 1 := by obtain ⟨_, rfl, _⟩ := h; rfl

abbrev N_show_web : List Str := ["web", "node"]
theorem nd_show_web : N_show_web.Nodup := by decide +kernel
abbrev s_show_web : Stmt := tp 26
theorem sc_show_web : FnScope N_show_web ["web"] (C8.fnScope s_show_web) := C8.fnScope_by (by decide +kernel)
theorem cal_show_web (T : Txt w K mg) (c_show_node : Cal PW w K mg base 1 "show_node" sp_show_node []) {f : Addr} {fd : FuncData} (D : DefD K mg "show_web" s_show_web ["web"] [] f fd) : Cal PW w K mg base (1 + 1) "show_web" sp_show_web [] := by
  refine cal_data (N := N_show_web) D sc_show_web (fun sls μ P h => ?_) ?_
  · exact len_show_web h
  rintro X ⟨cdv, A, outer, s, H, E, rfl⟩ hr S sls μ Pr hS ⟨ns, rfl, hW, rfl, hP⟩
  have nd := nd_show_web
  have hu := hr.units
  have hu2 := units65 hr
  refine s_cons ?_
  refine s_ret ?_
  refine e_join ?_
  refine ev_gS T.g_BETWEEN ?_
  refine ⟨_, rfl, ?_⟩
  refine ev_lc [("node", 1)] [1] rfl nd (blkOk_by (N := N_show_web) (sc := C8.fnScope s_show_web) (by decide +kernel)) .nil (by decide) ?_
  refine iv_list ?_
  refine ev_name 0 rfl ?_
  refine ⟨_, rfl, ?_⟩
  refine lcd_mapT ns Nd.d (fun n => PyData.str (showN n)) (rfl) (hW.2.1) (fun x hx acc => ?_) ?_
  · intro s0 H0 C0 cl0 fp0
    refine ag_name 1 nd ?_ (by decide)
    intro s1 H1 C1 cl1 fp1
    refine ev_cal c_show_node hr ?_
    refine ea_cons ?_
    refine ev_name 1 rfl ?_
    refine ea_nil ?_
    refine callP_dat rfl ?_
    refine ⟨_, rfl, hW.1 x hx, rfl, ?_⟩
    exact ⟨rfl, rfl⟩
  refine ⟨ns.map showN, by show some _ = some _; rw [List.map_map]; rfl, by rw [sep_len]; exact hW.2.2, ?_⟩
  exact retD rfl hP rfl
abbrev N_show_program : List Str := ["program", "web"]
theorem nd_show_program : N_show_program.Nodup := by decide +kernel
abbrev s_show_program : Stmt := tp 27
theorem sc_show_program : FnScope N_show_program ["program"] (C8.fnScope s_show_program) := C8.fnScope_by (by decide +kernel)
theorem cal_show_program (T : Txt w K mg) (c_show_web : Cal PW w K mg base 2 "show_web" sp_show_web []) {f : Addr} {fd : FuncData} (D : DefD K mg "show_program" s_show_program ["program"] [] f fd) : Cal PW w K mg base (2 + 1) "show_program" sp_show_program [] := by
  refine cal_data (N := N_show_program) D sc_show_program (fun sls μ P h => ?_) ?_
  · exact len_show_program h
  rintro X ⟨cdv, A, outer, s, H, E, rfl⟩ hr S sls μ Pr hS ⟨p, rfl, hW, rfl, hP⟩
  have nd := nd_show_program
  have hu := hr.units
  have hu2 := units65 hr
  refine s_cons ?_
  refine s_ret ?_
  refine e_join ?_
  refine ev_str ?_
  refine ⟨_, rfl, ?_⟩
  refine ev_lc [("web", 1)] [1] rfl nd (blkOk_by (N := N_show_program) (sc := C8.fnScope s_show_program) (by decide +kernel)) .nil (by decide) ?_
  refine iv_list ?_
  refine ev_name 0 rfl ?_
  refine ⟨_, rfl, ?_⟩
  refine lcd_mapT p webD (fun n => PyData.str (showW n)) (rfl) (hW.2.1) (fun x hx acc => ?_) ?_
  · intro s0 H0 C0 cl0 fp0
    refine ag_name 1 nd ?_ (by decide)
    intro s1 H1 C1 cl1 fp1
    refine ev_cal c_show_web hr ?_
    refine ea_cons ?_
    refine ev_name 1 rfl ?_
    refine ea_nil ?_
    refine callP_dat rfl ?_
    refine ⟨_, rfl, hW.1 x hx, rfl, ?_⟩
    exact ⟨rfl, rfl⟩
  refine ⟨p.map showW, by show some _ = some _; rw [List.map_map]; rfl, by rw [nl_len]; exact hW.2.2, ?_⟩
  exact retD rfl hP rfl
end
end K71
set_option maxRecDepth 100000
set_option maxHeartbeats 4000000
namespace K71
open PySem PySem.Spec PyProof.Rows L2 Dv
section
variable {w : World} {K : PySem.W.Frag} {mg : Str → Option Value} {base : Heap}
/-! ### read_mark, read_node -/
def rdMark (k w : Str) : PyData := if k = "word" then .int (numV w) else .str w
def sp_read_mark : Dv.Spec := fun sls μ P => ∃ op k wd : Str, sls = [.dat (.str op), .dat (.str wd)] ∧ kvM.lookup op = some (.str k) ∧ wd.length ≤ sizeLine ∧ μ = [] ∧ P (.dat (rdMark k wd)) []
theorem len_read_mark {sls μ P} (h : sp_read_mark sls μ P) : sls.length = 2 := by obtain ⟨_, _, _, rfl, _⟩ := h; rfl

abbrev N_read_mark : List Str := ["op", "word"]
theorem nd_read_mark : N_read_mark.Nodup := by decide +kernel
abbrev s_read_mark : Stmt := tp 28
theorem sc_read_mark : FnScope N_read_mark ["op", "word"] (C8.fnScope s_read_mark) := C8.fnScope_by (by decide +kernel)
theorem cal_read_mark (T : Txt w K mg) (c_plain_number : Cal PW w K mg base 1 "plain_number" sp_plain_number []) {f : Addr} {fd : FuncData} (D : DefD K mg "read_mark" s_read_mark ["op", "word"] [] f fd) : Cal PW w K mg base (1 + 1) "read_mark" sp_read_mark [] := by
  refine cal_data (N := N_read_mark) D sc_read_mark (fun sls μ P h => ?_) ?_
  · exact len_read_mark h
  rintro X ⟨cdv, A, outer, s, H, E, rfl⟩ hr S sls μ Pr hS ⟨op, k, wd, rfl, hk, hz, rfl, hP⟩
  have nd := nd_read_mark
  have hu := hr.units
  have hu2 := units65 hr
  obtain ⟨a_MARKS, m_MARKS, d_MARKS⟩ := T.g_MARKS
  refine s_cons ?_
  refine s_ret ?_
  refine' ev_ifP ?h461 (fun hC => ?h462) (fun hC => ?h463)
  case h461 =>
    refine et_cmp (c_eqv hu) rfl ?_
    refine ev_sub (fun _ _ => rfl) ?_
    refine ev_glo m_MARKS ?_
    refine ev_name 0 rfl ?_
    refine ix_g d_MARKS (by first | assumption | rfl | decide | exact Nat.le_of_ble_eq_true rfl | omega | (simp only [List.length_cons, List.length_nil, List.length_map, List.length_append]; omega) | exact hszl | exact hszw | exact Or.inl ⟨by decide, by decide⟩ | exact Or.inr ⟨by decide, by decide⟩ | exact pow_ok (by decide) (by decide) (by omega) (by omega) | exact ⟨by omega, by omega⟩ | exact Or.inl ⟨by omega, by omega⟩) ?_
    refine ev_str ?_
    first | refine eq_i ?_ | refine eq_s ?_ | refine eq_v rfl rfl (by first | assumption | rfl | decide | exact Nat.le_of_ble_eq_true rfl | omega | (simp only [List.length_cons, List.length_nil, List.length_map, List.length_append]; omega) | exact hszl | exact hszw | exact Or.inl ⟨by decide, by decide⟩ | exact Or.inr ⟨by decide, by decide⟩ | exact pow_ok (by decide) (by decide) (by omega) (by omega) | exact ⟨by omega, by omega⟩ | exact Or.inl ⟨by omega, by omega⟩) ?_
    refine ⟨_, rfl, ?_⟩
    exact ⟨rfl, rfl⟩
  case h462 =>
    refine ev_cal c_plain_number hr ?_
    refine ea_cons ?_
    refine ev_name 1 rfl ?_
    refine ea_nil ?_
    refine callP_dat rfl ?_
    refine ⟨_, rfl, by first | assumption | rfl | decide | exact Nat.le_of_ble_eq_true rfl | omega | (simp only [List.length_cons, List.length_nil, List.length_map, List.length_append]; omega) | exact hszl | exact hszw | exact Or.inl ⟨by decide, by decide⟩ | exact Or.inr ⟨by decide, by decide⟩ | exact pow_ok (by decide) (by decide) (by omega) (by omega) | exact ⟨by omega, by omega⟩ | exact Or.inl ⟨by omega, by omega⟩, rfl, ?_⟩
    exact retD (by unfold rdMark; first | rw [if_pos (of_decide_eq_true hC)] | rw [if_neg (of_decide_eq_false hC)]) hP rfl
  case h463 =>
    refine ev_name 1 rfl ?_
    exact retD (by unfold rdMark; first | rw [if_pos (of_decide_eq_true hC)] | rw [if_neg (of_decide_eq_false hC)]) hP rfl
def rdTail (op : Str) (ws : List Str) : Option Nd := match kvM.lookup op with
  | none => some ⟨op, .none, ws.map numV⟩
  | some (.str k) => (match ws with
    | [] => none
    | f :: r => some ⟨op, rdMark k f, r.map numV⟩)
  | some _ => none
def rdWords (op : Str) (ws : List Str) : Option Nd := match kvK.lookup op with
  | some (.int k) => if (ws.length : Int) = k + (if (kvM.lookup op).isSome then 1 else 0) then rdTail op ws else none
  | _ => none
def rdN (t : Str) : Option Nd := match Txt.split t " " with
  | [] => none
  | op :: ws => rdWords op ws
def ReadN (t : Str) : Prop := t.length + 2 ≤ sizeLine ∧ (Txt.split t " ").length ≤ 16384 ∧ Txt.split t " " ≠ [] ∧ ∀ w ∈ Txt.split t " ", w.length ≤ sizeLine
theorem kvM_str {op : Str} (h : (kvM.lookup op).isSome = true) : ∃ k : Str, kvM.lookup op = some (.str k) := by
  have key : ∀ l : List (Str × PyData), (∀ p ∈ l, ∃ k, p.2 = .str k) → (l.lookup op).isSome = true → ∃ k : Str, l.lookup op = some (.str k) := fun l => by
    induction l with
    | nil => exact fun _ h => nomatch h
    | cons p r ih =>
      intro hp h
      obtain ⟨x, v⟩ := p
      rw [List.lookup_cons] at h ⊢
      split
      · obtain ⟨k, e⟩ := hp _ (List.mem_cons_self)
        exact ⟨k, congrArg some e⟩
      · rename_i q
        rw [q] at h
        exact ih (fun p q => hp p (List.mem_cons_of_mem _ q)) h
  exact key kvM (by unfold kvM; simp) h
def sp_read_node : Dv.Spec := fun sls μ P => ∃ t : Str, sls = [.dat (.str t)] ∧ ReadN t ∧ μ = [] ∧ P (.dat (dO (rdN t))) []
theorem len_read_node {sls μ P} (h : sp_read_node sls μ P) : sls.length = 1 := by obtain ⟨_, rfl, _⟩ := h; rfl
theorem rdN_of {t op : Str} {ws : List Str} (e : Txt.split t " " = op :: ws) : rdN t = rdWords op ws := by unfold rdN; rw [e]
theorem rdWords_no {op : Str} {ws : List Str} (h : (kvK.lookup op).isSome = false) : rdWords op ws = none := by
  unfold rdWords
  split
  · rename_i e; rw [e] at h; cases h
  · rfl
theorem rdWords_no2 {op : Str} {ws : List Str} {k : Int} (hk : kvK.lookup op = some (.int k)) (h : ¬ (ws.length : Int) = k + (if (kvM.lookup op).isSome then 1 else 0)) : rdWords op ws = none := by
  unfold rdWords
  rw [hk]
  exact if_neg h
theorem rdWords_yes {op : Str} {ws : List Str} {k : Int} (hk : kvK.lookup op = some (.int k)) (h : (ws.length : Int) = k + (if (kvM.lookup op).isSome then 1 else 0)) : rdWords op ws = rdTail op ws := by
  unfold rdWords
  rw [hk]
  exact if_pos h
theorem kvK_pos {op : Str} {k : Int} (h : kvK.lookup op = some (.int k)) : 0 ≤ k := by
  have key : ∀ p ∈ kvK, ∀ k, p.2 = PyData.int k → 0 ≤ k := by
    unfold kvK
    intro p hp k e
    simp only [List.mem_cons, List.not_mem_nil, or_false] at hp
    rcases hp with rfl | rfl | rfl | rfl | rfl | rfl | rfl | rfl | rfl | rfl | rfl | rfl | rfl <;> (cases e; decide)
  obtain ⟨y, hy⟩ := lookup_in h
  exact key _ hy k rfl

abbrev N_read_node : List Str := ["text", "op", "words", "mark", "first", "word"]
theorem nd_read_node : N_read_node.Nodup := by decide +kernel
abbrev s_read_node : Stmt := tp 29
theorem sc_read_node : FnScope N_read_node ["text"] (C8.fnScope s_read_node) := C8.fnScope_by (by decide +kernel)
theorem cal_read_node (T : Txt w K mg) (c_plain_number : Cal PW w K mg base 1 "plain_number" sp_plain_number []) (c_read_mark : Cal PW w K mg base 2 "read_mark" sp_read_mark []) {f : Addr} {fd : FuncData} (D : DefD K mg "read_node" s_read_node ["text"] [] f fd) : Cal PW w K mg base (2 + 1) "read_node" sp_read_node [] := by
  refine cal_data (N := N_read_node) D sc_read_node (fun sls μ P h => ?_) ?_
  · exact len_read_node h
  rintro X ⟨cdv, A, outer, s, H, E, rfl⟩ hr S sls μ Pr hS ⟨t, rfl, hR, rfl, hP⟩
  have nd := nd_read_node
  have hu := hr.units
  have hu2 := units65 hr
  obtain ⟨a_KIDS, m_KIDS, d_KIDS⟩ := T.g_KIDS
  obtain ⟨a_MARKS, m_MARKS, d_MARKS⟩ := T.g_MARKS
  obtain ⟨hR1, hR2, hR3, hR4⟩ := hR
  obtain ⟨op, ws, hsp⟩ : ∃ op ws, Txt.split t " " = op :: ws := by cases z : Txt.split t " " with | nil => exact absurd z hR3 | cons a b => exact ⟨a, b, rfl⟩
  rw [rdN_of hsp] at hP
  rw [hsp] at hR4
  have hws : ∀ w ∈ ws, w.length ≤ sizeLine := fun w h => hR4 w (List.mem_cons_of_mem _ h)
  have hwl : ws.length ≤ sizeLine := by rw [hsp, List.length_cons] at hR2; rw [sizeLine_eq]; omega
  refine s_cons ?_
  refine s_asg [1, 2] ?_
  refine e_split ?_
  refine ev_name 0 rfl ?_
  refine ⟨_, rfl, ?_⟩
  refine ev_str ?_
  refine ⟨_, rfl, by decide, by first | assumption | rfl | decide | exact Nat.le_of_ble_eq_true rfl | omega | (simp only [List.length_cons, List.length_nil, List.length_map, List.length_append]; omega) | exact hszl | exact hszw | exact Or.inl ⟨by decide, by decide⟩ | exact Or.inr ⟨by decide, by decide⟩ | exact pow_ok (by decide) (by decide) (by omega) (by omega) | exact ⟨by omega, by omega⟩ | exact Or.inl ⟨by omega, by omega⟩, ?_⟩
  rw [hsp]
  refine ag_star (ds := .str op :: ws.map PyData.str) 1 rfl rfl (by rw [List.length_cons, List.length_map]; rw [hsp] at hR2; exact hR2) (by simp) ?_
  refine ags_eq (star_first _ _) ?_
  refine ags_cons ?_
  refine ag_name 1 nd ?_ (by decide)
  refine ags_star (ags_cons ?_)
  refine ag_name 2 nd ?_ (by decide)
  refine ags_nil ?_
  cases hk0 : (kvK.lookup op).isSome with
  | false =>
    refine s_cons ?_
    refine' s_ifP (p := true) ?q1 (fun hC => ?q2) (fun hC => nomatch hC)
    case q1 =>
      refine et_of_ew (ew_orT ?_ ⟨rfl, rfl⟩)
      refine et_cmp (c_notInU hu2) rfl ?_
      refine ev_name 1 rfl ?_
      refine ev_glo m_KIDS ?_
      refine notin_g d_KIDS ?_
      refine ⟨_, rfl, ?_⟩
      exact ⟨by rw [hk0]; rfl, rfl⟩
    case q2 =>
      refine s_cons ?_
      refine s_ret (ev_none ?_)
      exact retD (by rw [rdWords_no hk0]; rfl) hP rfl
  | true =>
    obtain ⟨kk, hk⟩ := kvK_int hk0
    have hkp := kvK_pos hk
    refine s_cons ?_
    refine' s_ifP ?h471 (fun hC => ?h472) (fun hC => ?h473)
    case h471 =>
      refine et_of_ew ?_
      refine' ew_orP ?h481 (fun hA => ?h482) ?h483
      case h481 =>
        refine et_cmp (c_notInU hu2) rfl ?_
        refine ev_name 1 rfl ?_
        refine ev_glo m_KIDS ?_
        refine notin_g d_KIDS ?_
        refine ⟨_, rfl, ?_⟩
        exact ⟨rfl, rfl⟩
      case h482 =>
        refine ew_or1 ?_
        refine et_cmp (c_neqv hu) rfl ?_
        refine e_len T.z_len ?_
        refine ev_name 2 rfl ?_
        refine ⟨_, rfl, by first | exact True.intro | first | assumption | rfl | decide | exact Nat.le_of_ble_eq_true rfl | omega | (simp only [List.length_cons, List.length_nil, List.length_map, List.length_append]; omega) | exact hszl | exact hszw | exact Or.inl ⟨by decide, by decide⟩ | exact Or.inr ⟨by decide, by decide⟩ | exact pow_ok (by decide) (by decide) (by omega) (by omega) | exact ⟨by omega, by omega⟩ | exact Or.inl ⟨by omega, by omega⟩, ?_⟩
        refine ev_bin b_plus ?_
        refine ev_sub (fun _ _ => rfl) ?_
        refine ev_glo m_KIDS ?_
        refine ev_name 1 rfl ?_
        refine ix_g d_KIDS (by first | assumption | rfl | decide | exact Nat.le_of_ble_eq_true rfl | omega | (simp only [List.length_cons, List.length_nil, List.length_map, List.length_append]; omega) | exact hszl | exact hszw | exact Or.inl ⟨by decide, by decide⟩ | exact Or.inr ⟨by decide, by decide⟩ | exact pow_ok (by decide) (by decide) (by omega) (by omega) | exact ⟨by omega, by omega⟩ | exact Or.inl ⟨by omega, by omega⟩) ?_
        refine e_int T.z_int ?_
        refine ev_cmp (c_inU hu2) rfl ?_
        refine ev_name 1 rfl ?_
        refine ev_glo m_MARKS ?_
        refine in_g d_MARKS ?_
        first | refine int_i ?_ | refine int_b ?_
        first | refine plus_i ?_ | refine plus_s (by first | assumption | rfl | decide | exact Nat.le_of_ble_eq_true rfl | omega | (simp only [List.length_cons, List.length_nil, List.length_map, List.length_append]; omega) | exact hszl | exact hszw | exact Or.inl ⟨by decide, by decide⟩ | exact Or.inr ⟨by decide, by decide⟩ | exact pow_ok (by decide) (by decide) (by omega) (by omega) | exact ⟨by omega, by omega⟩ | exact Or.inl ⟨by omega, by omega⟩) ?_ | refine plus_l rfl rfl (by first | assumption | rfl | decide | exact Nat.le_of_ble_eq_true rfl | omega | (simp only [List.length_cons, List.length_nil, List.length_map, List.length_append]; omega) | exact hszl | exact hszw | exact Or.inl ⟨by decide, by decide⟩ | exact Or.inr ⟨by decide, by decide⟩ | exact pow_ok (by decide) (by decide) (by omega) (by omega) | exact ⟨by omega, by omega⟩ | exact Or.inl ⟨by omega, by omega⟩) ?_
        first | refine ne_i ?_ | refine ne_s ?_ | refine ne_v rfl rfl (by first | assumption | rfl | decide | exact Nat.le_of_ble_eq_true rfl | omega | (simp only [List.length_cons, List.length_nil, List.length_map, List.length_append]; omega) | exact hszl | exact hszw | exact Or.inl ⟨by decide, by decide⟩ | exact Or.inr ⟨by decide, by decide⟩ | exact pow_ok (by decide) (by decide) (by omega) (by omega) | exact ⟨by omega, by omega⟩ | exact Or.inl ⟨by omega, by omega⟩) ?_
        refine ⟨_, rfl, ?_⟩
        exact ⟨rfl, rfl⟩
      case h483 =>
        exact ⟨rfl, rfl⟩
    case h472 =>
      refine s_cons ?_
      refine s_ret ?_
      refine ev_none ?_
      exact retD (by rw [rdWords_no2 hk (fun z => by rw [hk0, List.length_map] at hC; rw [decide_eq_true z] at hC; cases hC)]; rfl) hP rfl
    case h473 =>
      have hlen : (ws.length : Int) = kk + (if (kvM.lookup op).isSome then 1 else 0) := by rw [hk0, List.length_map] at hC; cases z : decide ((ws.length : Int) = kk + (if (kvM.lookup op).isSome then 1 else 0)) with | true => exact of_decide_eq_true z | false => rw [z] at hC; cases hC
      rw [rdWords_yes hk hlen] at hP
      refine s_nil ?_
      refine s_cons ?_
      refine s_set 3 nd ?_
      refine ev_none ?_
      refine s_cons ?_
      refine' s_ifP ?h491 (fun hC => ?h492) (fun hC => ?h493)
      case h491 =>
        refine et_cmp (c_inU hu2) rfl ?_
        refine ev_name 1 rfl ?_
        refine ev_glo m_MARKS ?_
        refine in_g d_MARKS ?_
        refine ⟨_, rfl, ?_⟩
        exact ⟨rfl, rfl⟩
      case h492 =>
        obtain ⟨km, hm⟩ := kvM_str hC
        obtain ⟨wf, wr, rfl⟩ : ∃ wf wr, ws = wf :: wr := by cases ws with | nil => rw [hm] at hlen; simp at hlen; omega | cons a b => exact ⟨a, b, rfl⟩
        have hwf := hws wf List.mem_cons_self
        refine s_cons ?_
        refine s_asg [4, 2] ?_
        refine ev_name 2 rfl ?_
        refine ag_star (ds := .str wf :: wr.map PyData.str) 1 rfl rfl (by rw [List.length_cons, List.length_map]; rw [hsp] at hR2; simp at hR2; omega) (by simp) ?_
        refine ags_eq (star_first _ _) ?_
        refine ags_cons ?_
        refine ag_name 4 nd ?_ (by decide)
        refine ags_star (ags_cons ?_)
        refine ag_name 2 nd ?_ (by decide)
        refine ags_nil ?_
        refine s_cons ?_
        refine s_set 3 nd ?_
        refine ev_cal c_read_mark hr ?_
        refine ea_cons ?_
        refine ev_name 1 rfl ?_
        refine ea_cons ?_
        refine ev_name 4 rfl ?_
        refine ea_nil ?_
        refine callP_dat rfl ?_
        refine ⟨_, _, _, rfl, by first | assumption | rfl | decide | exact Nat.le_of_ble_eq_true rfl | omega | (simp only [List.length_cons, List.length_nil, List.length_map, List.length_append]; omega) | exact hszl | exact hszw | exact Or.inl ⟨by decide, by decide⟩ | exact Or.inr ⟨by decide, by decide⟩ | exact pow_ok (by decide) (by decide) (by omega) (by omega) | exact ⟨by omega, by omega⟩ | exact Or.inl ⟨by omega, by omega⟩, by first | assumption | rfl | decide | exact Nat.le_of_ble_eq_true rfl | omega | (simp only [List.length_cons, List.length_nil, List.length_map, List.length_append]; omega) | exact hszl | exact hszw | exact Or.inl ⟨by decide, by decide⟩ | exact Or.inr ⟨by decide, by decide⟩ | exact pow_ok (by decide) (by decide) (by omega) (by omega) | exact ⟨by omega, by omega⟩ | exact Or.inl ⟨by omega, by omega⟩, rfl, ?_⟩
        refine s_nil ?_
        refine s_cons ?_
        refine s_ret ?_
        refine ev_tuple ?_
        refine ea_cons ?_
        refine ev_name 1 rfl ?_
        refine ea_cons ?_
        refine ev_name 3 rfl ?_
        refine ea_cons ?_
        refine e_tuple T.z_tuple ?_
        refine ev_lc [("word", 5)] [5] rfl nd (blkOk_by (N := N_read_node) (sc := C8.fnScope s_read_node) (by decide +kernel)) .nil (by decide) ?_
        refine iv_list ?_
        refine ev_name 2 rfl ?_
        refine ⟨_, rfl, ?_⟩
        refine lcd_mapT wr PyData.str (fun w => PyData.int (numV w)) (rfl) (by first | exact hwl | (simp at hwl; omega)) (fun x hx acc => ?_) ?_
        · have hxs := hws x (List.mem_cons_of_mem _ hx)
          intro s0 H0 C0 cl0 fp0
          refine ag_name 5 nd ?_ (by decide)
          intro s1 H1 C1 cl1 fp1
          refine ev_cal c_plain_number hr ?_
          refine ea_cons ?_
          refine ev_name 5 rfl ?_
          refine ea_nil ?_
          refine callP_dat rfl ?_
          refine ⟨_, rfl, by first | assumption | rfl | decide | exact Nat.le_of_ble_eq_true rfl | omega | (simp only [List.length_cons, List.length_nil, List.length_map, List.length_append]; omega) | exact hszl | exact hszw | exact Or.inl ⟨by decide, by decide⟩ | exact Or.inr ⟨by decide, by decide⟩ | exact pow_ok (by decide) (by decide) (by omega) (by omega) | exact ⟨by omega, by omega⟩ | exact Or.inl ⟨by omega, by omega⟩, rfl, ?_⟩
          exact ⟨rfl, rfl⟩
        refine ⟨_, rfl, ?_⟩
        refine ea_nil ?_
        refine tup_of rfl (by first | assumption | rfl | decide | exact Nat.le_of_ble_eq_true rfl | omega | (simp only [List.length_cons, List.length_nil, List.length_map, List.length_append]; omega) | exact hszl | exact hszw | exact Or.inl ⟨by decide, by decide⟩ | exact Or.inr ⟨by decide, by decide⟩ | exact pow_ok (by decide) (by decide) (by omega) (by omega) | exact ⟨by omega, by omega⟩ | exact Or.inl ⟨by omega, by omega⟩) ?_
        exact retD (by unfold rdTail; rw [hm]; dsimp only [dO, Nd.d]; rw [List.map_map]; rfl) hP rfl
      case h493 =>
        refine s_nil ?_
        refine s_cons ?_
        refine s_ret ?_
        refine ev_tuple ?_
        refine ea_cons ?_
        refine ev_name 1 rfl ?_
        refine ea_cons ?_
        refine ev_name 3 rfl ?_
        refine ea_cons ?_
        refine e_tuple T.z_tuple ?_
        refine ev_lc [("word", 5)] [5] rfl nd (blkOk_by (N := N_read_node) (sc := C8.fnScope s_read_node) (by decide +kernel)) .nil (by decide) ?_
        refine iv_list ?_
        refine ev_name 2 rfl ?_
        refine ⟨_, rfl, ?_⟩
        refine lcd_mapT ws PyData.str (fun w => PyData.int (numV w)) (rfl) (by first | exact hwl | (simp at hwl; omega)) (fun x hx acc => ?_) ?_
        · have hxs := hws x hx
          intro s0 H0 C0 cl0 fp0
          refine ag_name 5 nd ?_ (by decide)
          intro s1 H1 C1 cl1 fp1
          refine ev_cal c_plain_number hr ?_
          refine ea_cons ?_
          refine ev_name 5 rfl ?_
          refine ea_nil ?_
          refine callP_dat rfl ?_
          refine ⟨_, rfl, by first | assumption | rfl | decide | exact Nat.le_of_ble_eq_true rfl | omega | (simp only [List.length_cons, List.length_nil, List.length_map, List.length_append]; omega) | exact hszl | exact hszw | exact Or.inl ⟨by decide, by decide⟩ | exact Or.inr ⟨by decide, by decide⟩ | exact pow_ok (by decide) (by decide) (by omega) (by omega) | exact ⟨by omega, by omega⟩ | exact Or.inl ⟨by omega, by omega⟩, rfl, ?_⟩
          exact ⟨rfl, rfl⟩
        refine ⟨_, rfl, ?_⟩
        refine ea_nil ?_
        refine tup_of rfl (by first | assumption | rfl | decide | exact Nat.le_of_ble_eq_true rfl | omega | (simp only [List.length_cons, List.length_nil, List.length_map, List.length_append]; omega) | exact hszl | exact hszw | exact Or.inl ⟨by decide, by decide⟩ | exact Or.inr ⟨by decide, by decide⟩ | exact pow_ok (by decide) (by decide) (by omega) (by omega) | exact ⟨by omega, by omega⟩ | exact Or.inl ⟨by omega, by omega⟩) ?_
        exact retD (by unfold rdTail; rw [(show kvM.lookup op = none by cases z : kvM.lookup op with | none => rfl | some v => rw [z] at hC; cases hC)]; dsimp only [dO, Nd.d]; rw [List.map_map]; rfl) hP rfl
end
end K71
set_option maxRecDepth 100000
set_option maxHeartbeats 4000000
namespace K71
open PySem PySem.Spec PyProof.Rows L2 Dv
section
variable {w : World} {K : PySem.W.Frag} {mg : Str → Option Value} {base : Heap}
/-! ### web_in, read_web, read_program -/
def rdW (ln : Str) : List (Option Nd) := (Txt.split ln "; ").map rdN
def LineIn (ln : Str) : Prop := ln.length + 2 ≤ sizeLine ∧ (Txt.split ln "; ").length ≤ sizeLine ∧ ∀ t ∈ Txt.split ln "; ", ReadN t
def sp_web_in : Dv.Spec := fun sls μ P => ∃ ln : Str, sls = [.dat (.str ln)] ∧ LineIn ln ∧ μ = [] ∧ (webB (rdW ln) = true → P (.new (.lst ((rdW ln).map dO))) []) ∧ (webB (rdW ln) = false → P (.dat .none) [])
theorem len_web_in {sls μ P} (h : sp_web_in sls μ P) : sls.length = 1 := by obtain ⟨_, rfl, _⟩ := h; rfl
theorem mark_rd {op k w : Str} (h : kvM.lookup op = some (.str k)) (hw : w.length ≤ sizeLine) : MarkIn op (rdMark k w) := by
  have key : k = "word" ∨ k = "name" := by
    obtain ⟨y, hy⟩ := lookup_in h
    unfold kvM at hy
    simp only [List.mem_cons, List.not_mem_nil, or_false, Prod.mk.injEq, PyData.str.injEq] at hy
    rcases hy with ⟨_, e⟩ | ⟨_, e⟩ | ⟨_, e⟩
    · exact .inl e
    · exact .inr e
    · exact .inr e
  rcases key with rfl | rfl
  · exact .inr (.inl ⟨h, numV w, by unfold rdMark; rw [if_pos rfl]⟩)
  · exact .inr (.inr ⟨h, w, by unfold rdMark; rw [if_neg (by decide)], hw⟩)
theorem rdTail_in {op : Str} {ws : List Str} (hl : ws.length ≤ sizeLine) (h4 : ∀ w ∈ ws, w.length ≤ sizeLine) : NdIn (rdTail op ws) := by
  cases hm : kvM.lookup op with
  | none =>
    have e : rdTail op ws = some ⟨op, .none, ws.map numV⟩ := by unfold rdTail; rw [hm]
    rw [e]
    exact ⟨.inl hm, by rw [List.length_map]; exact hl⟩
  | some v =>
    obtain ⟨k, hk⟩ := kvM_str (op := op) (by rw [hm]; rfl)
    cases ws with
    | nil =>
      have e : rdTail op [] = none := by unfold rdTail; rw [hk]
      rw [e]; trivial
    | cons f r =>
      have e : rdTail op (f :: r) = some ⟨op, rdMark k f, r.map numV⟩ := by unfold rdTail; rw [hk]
      rw [e]
      exact ⟨mark_rd hk (h4 f (by simp)), by rw [List.length_map]; rw [List.length_cons] at hl; omega⟩
theorem rdN_in {t : Str} (h : ReadN t) : NdIn (rdN t) := by
  obtain ⟨h1, h2, h3, h4⟩ := h
  cases e : Txt.split t " " with
  | nil => exact absurd e h3
  | cons op ws =>
    rw [rdN_of e]
    rw [e] at h2 h4
    have hl : ws.length ≤ sizeLine := by rw [sizeLine_eq]; rw [List.length_cons] at h2; omega
    cases hk : (kvK.lookup op).isSome with
    | false => rw [rdWords_no hk]; trivial
    | true =>
      obtain ⟨k, hk⟩ := kvK_int hk
      by_cases hc : (ws.length : Int) = k + (if (kvM.lookup op).isSome then 1 else 0)
      · rw [rdWords_yes hk hc]
        exact rdTail_in hl fun w hw => h4 w (List.mem_cons_of_mem _ hw)
      · rw [rdWords_no2 hk hc]; trivial

abbrev N_web_in : List Str := ["line", "web", "text"]
theorem nd_web_in : N_web_in.Nodup := by decide +kernel
abbrev s_web_in : Stmt := tp 30
theorem sc_web_in : FnScope N_web_in ["line"] (C8.fnScope s_web_in) := C8.fnScope_by (by decide +kernel)
theorem cal_web_in (T : Txt w K mg) (c_read_node : Cal PW w K mg base 3 "read_node" sp_read_node []) (c_is_web : Cal PW w K mg base 5 "is_web" sp_is_web []) {f : Addr} {fd : FuncData} (D : DefD K mg "web_in" s_web_in ["line"] [] f fd) : Cal PW w K mg base (5 + 1) "web_in" sp_web_in [] := by
  refine cal_data (N := N_web_in) D sc_web_in (fun sls μ P h => ?_) ?_
  · exact len_web_in h
  rintro X ⟨cdv, A, outer, s, H, E, rfl⟩ hr S sls μ Pr hS ⟨ln, rfl, hL, rfl, hP1, hP2⟩
  have nd := nd_web_in
  have hu := hr.units
  have hu2 := units65 hr
  have hL1 := hL.1
  refine s_cons ?_
  refine s_setLc 1 [("text", 2)] [2] rfl nd rfl (blkOk_by (N := N_web_in) (sc := C8.fnScope s_web_in) (by decide +kernel)) .nil (by decide) ?_
  refine iv_list (Ev.data ?_)
  refine e_split ?_
  refine ev_name 0 rfl ?_
  refine ⟨_, rfl, ?_⟩
  refine ev_gS T.g_BETWEEN ?_
  refine ⟨_, rfl, by decide, by first | assumption | rfl | decide | exact Nat.le_of_ble_eq_true rfl | omega | (simp only [List.length_cons, List.length_nil, List.length_map, List.length_append]; omega) | exact hszl | exact hszw | exact Or.inl ⟨by decide, by decide⟩ | exact Or.inr ⟨by decide, by decide⟩ | exact pow_ok (by decide) (by decide) (by omega) (by omega) | exact ⟨by omega, by omega⟩ | exact Or.inl ⟨by omega, by omega⟩, ?_⟩
  refine ⟨by first | exact Nat.le_refl _ | simp, _, rfl, ?_⟩
  refine ⟨_, rfl, ?_⟩
  refine lcd_mapT (Txt.split ln "; ") PyData.str (fun t => dO (rdN t)) (rfl) (hL.2.1) (fun x hx acc => ?_) ?_
  · intro s0 H0 C0 cl0 fp0
    refine ag_name 2 nd ?_ (by decide)
    intro s1 H1 C1 cl1 fp1
    refine ev_cal c_read_node hr ?_
    refine ea_cons ?_
    refine ev_name 2 rfl ?_
    refine ea_nil ?_
    refine callP_dat rfl ?_
    refine ⟨_, rfl, hL.2.2 x hx, rfl, ?_⟩
    exact ⟨rfl, rfl⟩
  refine s_cons ?_
  refine s_ret ?_
  refine' ev_ifP ?h501 (fun hC => ?h502) (fun hC => ?h503)
  case h501 =>
    refine' Et.frz ?h511 ?h512
    case h511 =>
      refine et_val ?_
      refine ev_cal c_is_web hr ?_
      refine ea_cons ?_
      refine ev_name 1 rfl ?_
      refine ea_nil ?_
      refine callP_dat rfl ?_
      refine ⟨rdW ln, by unfold rdW; rw [List.map_map]; rfl, fun o ho => (by obtain ⟨t, ht, rfl⟩ := List.mem_map.mp ho; exact rdN_in (hL.2.2 t ht)), rfl, ?_⟩
      refine ⟨_, rfl, ?_⟩
      exact ⟨rfl, rfl⟩
    case h512 =>
      exact ⟨rfl, rfl⟩
  case h502 =>
    refine ev_name 1 rfl ?_
    dsimp only
    refine retO ?_ rfl ?_ (hP1 hC) rfl
    · simp
    · show _ = MO.lst ((rdW ln).map dO); unfold rdW; rw [List.map_map]; rfl
  case h503 =>
    refine ev_none ?_
    exact retD rfl (hP2 hC) rfl
def sp_read_web : Dv.Spec := fun sls μ P => ∃ ln : Str, sls = [.dat (.str ln)] ∧ LineIn ln ∧ webB (rdW ln) = true ∧ μ = [] ∧ P (.new (.lst ((rdW ln).map dO))) []
theorem len_read_web {sls μ P} (h : sp_read_web sls μ P) : sls.length = 1 := by obtain ⟨_, rfl, _⟩ := h; rfl

abbrev N_read_web : List Str := ["text", "web"]
theorem nd_read_web : N_read_web.Nodup := by decide +kernel
abbrev s_read_web : Stmt := tp 31
theorem sc_read_web : FnScope N_read_web ["text"] (C8.fnScope s_read_web) := C8.fnScope_by (by decide +kernel)
theorem cal_read_web (T : Txt w K mg) (c_web_in : Cal PW w K mg base 6 "web_in" sp_web_in []) {f : Addr} {fd : FuncData} (D : DefD K mg "read_web" s_read_web ["text"] [] f fd) : Cal PW w K mg base (6 + 1) "read_web" sp_read_web [] := by
  refine cal_data (N := N_read_web) D sc_read_web (fun sls μ P h => ?_) ?_
  · exact len_read_web h
  rintro X ⟨cdv, A, outer, s, H, E, rfl⟩ hr S sls μ Pr hS ⟨ln, rfl, hL, hw, rfl, hP⟩
  have nd := nd_read_web
  have hu := hr.units
  have hu2 := units65 hr
  refine s_cons ?_
  refine' s_ifP ?h521 (fun hC => ?h522) (fun hC => ?h523)
  case h521 =>
    refine' et_notP ?h531 ?h532
    case h531 =>
      refine et_val ?_
      refine e_isi T.z_isinstance T.z_str boot_str ?_
      refine ev_name 0 rfl ?_
      first | refine ⟨_, true, rfl, kit_yes rfl, ?_⟩ | refine ⟨_, false, rfl, kit_no rfl, ?_⟩
      refine ⟨_, rfl, ?_⟩
      exact ⟨rfl, rfl⟩
    case h532 =>
      exact ⟨rfl, rfl⟩
  case h522 =>
    exact absurd hC (by decide)
  case h523 =>
    refine s_nil ?_
    refine s_cons ?_
    refine s_set 1 nd ?_
    refine ev_cal c_web_in hr ?_
    refine ea_cons ?_
    refine ev_name 0 rfl ?_
    refine ea_nil ?_
    refine callP_dat rfl ?_
    refine ⟨_, rfl, hL, rfl, fun _ => ?_, fun z => absurd (hw.symm.trans z) (by decide)⟩
    refine s_cons ?_
    refine' s_ifP ?h541 (fun hC => ?h542) (fun hC => ?h543)
    case h541 =>
      refine et_cmp c_isN rfl ?_
      refine ev_name 1 rfl ?_
      refine ev_none ?_
      refine is_n ?_
      refine ⟨_, rfl, ?_⟩
      exact ⟨rfl, rfl⟩
    case h542 =>
      exact absurd hC (by decide)
    case h543 =>
      refine s_nil ?_
      refine s_cons ?_
      refine s_ret ?_
      refine ev_name 1 rfl ?_
      dsimp only
      refine retO ?_ rfl ?_ hP rfl
      · simp
      · rfl
def linesOf (t : Str) : List Str := if t = "" then [] else Txt.split t "\n"
def rdP (t : Str) : List (List (Option Nd)) := (linesOf t).map rdW
def webDO (w : List (Option Nd)) : PyData := .list (w.map dO)
def sp_read_program : Dv.Spec := fun sls μ P => ∃ t : Str, sls = [.dat (.str t)] ∧ t.length + 2 ≤ sizeLine ∧ (linesOf t).length ≤ 20 ∧ (∀ l ∈ linesOf t, LineIn l ∧ webB (rdW l) = true) ∧ SeqAt.shaped (.list ((linesOf t).map fun l => webDO (rdW l))) = true ∧ μ = [] ∧ P (.new (.lst ((linesOf t).map fun l => webDO (rdW l)))) []
theorem len_read_program {sls μ P} (h : sp_read_program sls μ P) : sls.length = 1 := by obtain ⟨_, rfl, _⟩ := h; rfl
theorem no_none (xs : List Str) : ((xs.map fun l => webDO (rdW l)).any fun z => PyData.eqv z .none) = false := by
  rw [List.any_eq_false]
  intro d hd
  obtain ⟨l, _, rfl⟩ := List.mem_map.mp hd
  exact Bool.false_ne_true

abbrev N_read_program : List Str := ["text", "lines", "program", "line"]
theorem nd_read_program : N_read_program.Nodup := by decide +kernel
abbrev s_read_program : Stmt := tp 32
theorem sc_read_program : FnScope N_read_program ["text"] (C8.fnScope s_read_program) := C8.fnScope_by (by decide +kernel)
theorem cal_read_program (T : Txt w K mg) (c_web_in : Cal PW w K mg base 6 "web_in" sp_web_in []) {f : Addr} {fd : FuncData} (D : DefD K mg "read_program" s_read_program ["text"] [] f fd) : Cal PW w K mg base (6 + 1) "read_program" sp_read_program [] := by
  refine cal_data (N := N_read_program) D sc_read_program (fun sls μ P h => ?_) ?_
  · exact len_read_program h
  rintro X ⟨cdv, A, outer, s, H, E, rfl⟩ hr S sls μ Pr hS ⟨t, rfl, hz, hn, hL, hsh, rfl, hP⟩
  have nd := nd_read_program
  have hu := hr.units
  have hu2 := units65 hr
  refine s_cons ?_
  refine' s_ifP ?h551 (fun hC => ?h552) (fun hC => ?h553)
  case h551 =>
    refine' et_notP ?h561 ?h562
    case h561 =>
      refine et_val ?_
      refine e_isi T.z_isinstance T.z_str boot_str ?_
      refine ev_name 0 rfl ?_
      first | refine ⟨_, true, rfl, kit_yes rfl, ?_⟩ | refine ⟨_, false, rfl, kit_no rfl, ?_⟩
      refine ⟨_, rfl, ?_⟩
      exact ⟨rfl, rfl⟩
    case h562 =>
      exact ⟨rfl, rfl⟩
  case h552 =>
    exact absurd hC (by decide)
  case h553 =>
    refine s_nil ?_
    refine s_cons ?_
    refine s_set 1 nd ?_
    refine' ev_ifP ?h571 (fun hC => ?h572) (fun hC => ?h573)
    case h571 =>
      refine et_cmp (c_neqv hu) rfl ?_
      refine ev_name 0 rfl ?_
      refine ev_str ?_
      first | refine ne_i ?_ | refine ne_s ?_ | refine ne_v rfl rfl (by first | assumption | rfl | decide | exact Nat.le_of_ble_eq_true rfl | omega | (simp only [List.length_cons, List.length_nil, List.length_map, List.length_append]; omega) | exact hszl | exact hszw | exact Or.inl ⟨by decide, by decide⟩ | exact Or.inr ⟨by decide, by decide⟩ | exact pow_ok (by decide) (by decide) (by omega) (by omega) | exact ⟨by omega, by omega⟩ | exact Or.inl ⟨by omega, by omega⟩) ?_
      refine ⟨_, rfl, ?_⟩
      exact ⟨rfl, rfl⟩
    case h572 =>
      have hl : linesOf t = Txt.split t "\n" := if_neg (fun z => by rw [decide_eq_true z] at hC; cases hC)
      rw [hl] at hn hL hsh hP
      refine e_split ?_
      refine ev_name 0 rfl ?_
      refine ⟨_, rfl, ?_⟩
      refine ev_str ?_
      refine ⟨_, rfl, by decide, by first | assumption | rfl | decide | exact Nat.le_of_ble_eq_true rfl | omega | (simp only [List.length_cons, List.length_nil, List.length_map, List.length_append]; omega) | exact hszl | exact hszw | exact Or.inl ⟨by decide, by decide⟩ | exact Or.inr ⟨by decide, by decide⟩ | exact pow_ok (by decide) (by decide) (by omega) (by omega) | exact ⟨by omega, by omega⟩ | exact Or.inl ⟨by omega, by omega⟩, ?_⟩
      refine s_cons ?_
      refine' s_ifP ?h581 (fun hC => ?h582) (fun hC => ?h583)
      case h581 =>
        refine et_cmp c_gt rfl ?_
        refine e_len T.z_len ?_
        refine ev_name 1 rfl ?_
        refine ⟨_, rfl, by first | exact True.intro | first | assumption | rfl | decide | exact Nat.le_of_ble_eq_true rfl | omega | (simp only [List.length_cons, List.length_nil, List.length_map, List.length_append]; omega) | exact hszl | exact hszw | exact Or.inl ⟨by decide, by decide⟩ | exact Or.inr ⟨by decide, by decide⟩ | exact pow_ok (by decide) (by decide) (by omega) (by omega) | exact ⟨by omega, by omega⟩ | exact Or.inl ⟨by omega, by omega⟩, ?_⟩
        refine ev_gI T.g_MOST_LINES ?_
        refine gt_i ?_
        refine ⟨_, rfl, ?_⟩
        exact ⟨rfl, rfl⟩
      case h582 =>
        exact absurd (of_decide_eq_true hC) (by simp only [List.length_map, List.length_nil]; omega)
      case h583 =>
        refine s_nil ?_
        refine s_freeze 0 (by rw [hS]; exact Nat.le_refl _) ?_
        refine s_cons ?_
        refine s_setLc 2 [("line", 3)] [3] rfl nd rfl (blkOk_by (N := N_read_program) (sc := C8.fnScope s_read_program) (by decide +kernel)) .nil (by decide) ?_
        refine iv_list ?_
        refine ev_name 1 rfl ?_
        refine ⟨_, rfl, ?_⟩
        refine lcd_mapT (Txt.split t "\n") PyData.str (fun l => webDO (rdW l)) (rfl) (by rw [sizeLine_eq]; omega) (fun x hx acc => ?_) ?_
        · intro s0 H0 C0 cl0 fp0
          refine ag_name 3 nd ?_ (by decide)
          intro s1 H1 C1 cl1 fp1
          refine Ev.data ?_
          refine ev_cal c_web_in hr ?_
          refine ea_cons ?_
          refine ev_name 3 rfl ?_
          refine ea_nil ?_
          refine callP_dat rfl ?_
          refine ⟨_, rfl, (hL x hx).1, rfl, fun _ => ?_, fun z => absurd ((hL x hx).2.symm.trans z) (by decide)⟩
          refine ⟨by first | exact Nat.le_refl _ | simp, _, rfl, ?_⟩
          exact ⟨rfl, rfl⟩
        refine s_cons ?_
        refine' s_ifP ?h591 (fun hC => ?h592) (fun hC => ?h593)
        case h591 =>
          refine et_cmp (c_inU hu2) rfl ?_
          refine ev_none ?_
          refine ev_name 2 rfl ?_
          refine in_d rfl rfl rfl hsh ?_
          refine ⟨_, rfl, ?_⟩
          exact ⟨rfl, rfl⟩
        case h592 =>
          exact absurd hC (by rw [no_none]; decide)
        case h593 =>
          refine s_nil ?_
          refine s_cons ?_
          refine s_ret ?_
          refine ev_name 2 rfl ?_
          dsimp only
          refine retO ?_ rfl ?_ hP rfl
          · simp
          · rfl
    case h573 =>
      have hl : linesOf t = [] := if_pos (by cases z : decide (t = "") with | true => exact of_decide_eq_true z | false => rw [z] at hC; cases hC)
      rw [hl] at hn hL hsh hP
      refine ev_list ?_
      refine ea_nil ?_
      refine lst_of rfl (by first | assumption | rfl | decide | exact Nat.le_of_ble_eq_true rfl | omega | (simp only [List.length_cons, List.length_nil, List.length_map, List.length_append]; omega) | exact hszl | exact hszw | exact Or.inl ⟨by decide, by decide⟩ | exact Or.inr ⟨by decide, by decide⟩ | exact pow_ok (by decide) (by decide) (by omega) (by omega) | exact ⟨by omega, by omega⟩ | exact Or.inl ⟨by omega, by omega⟩) ?_
      refine s_cons ?_
      refine' s_ifP ?h601 (fun hC => ?h602) (fun hC => ?h603)
      case h601 =>
        refine et_cmp c_gt rfl ?_
        refine e_len T.z_len ?_
        refine ev_name 1 rfl ?_
        refine ⟨_, rfl, by first | exact True.intro | first | assumption | rfl | decide | exact Nat.le_of_ble_eq_true rfl | omega | (simp only [List.length_cons, List.length_nil, List.length_map, List.length_append]; omega) | exact hszl | exact hszw | exact Or.inl ⟨by decide, by decide⟩ | exact Or.inr ⟨by decide, by decide⟩ | exact pow_ok (by decide) (by decide) (by omega) (by omega) | exact ⟨by omega, by omega⟩ | exact Or.inl ⟨by omega, by omega⟩, ?_⟩
        refine ev_gI T.g_MOST_LINES ?_
        refine gt_i ?_
        refine ⟨_, rfl, ?_⟩
        exact ⟨rfl, rfl⟩
      case h602 =>
        exact absurd (of_decide_eq_true hC) (by simp only [List.length_map, List.length_nil]; omega)
      case h603 =>
        refine s_nil ?_
        refine s_freeze 0 (by rw [hS]; exact Nat.le_refl _) ?_
        refine s_cons ?_
        refine s_setLc 2 [("line", 3)] [3] rfl nd rfl (blkOk_by (N := N_read_program) (sc := C8.fnScope s_read_program) (by decide +kernel)) .nil (by decide) ?_
        refine iv_list ?_
        refine ev_name 1 rfl ?_
        refine ⟨_, rfl, ?_⟩
        refine lcd_mapT ([] : List Str) PyData.str (fun l => webDO (rdW l)) (rfl) (by rw [sizeLine_eq]; omega) (fun x hx acc => ?_) ?_
        · intro s0 H0 C0 cl0 fp0
          refine ag_name 3 nd ?_ (by decide)
          intro s1 H1 C1 cl1 fp1
          refine Ev.data ?_
          refine ev_cal c_web_in hr ?_
          refine ea_cons ?_
          refine ev_name 3 rfl ?_
          refine ea_nil ?_
          refine callP_dat rfl ?_
          refine ⟨_, rfl, (hL x hx).1, rfl, fun _ => ?_, fun z => absurd ((hL x hx).2.symm.trans z) (by decide)⟩
          refine ⟨by first | exact Nat.le_refl _ | simp, _, rfl, ?_⟩
          exact ⟨rfl, rfl⟩
        refine s_cons ?_
        refine' s_ifP ?h611 (fun hC => ?h612) (fun hC => ?h613)
        case h611 =>
          refine et_cmp (c_inU hu2) rfl ?_
          refine ev_none ?_
          refine ev_name 2 rfl ?_
          refine in_d rfl rfl rfl hsh ?_
          refine ⟨_, rfl, ?_⟩
          exact ⟨rfl, rfl⟩
        case h612 =>
          exact absurd hC (by rw [no_none]; decide)
        case h613 =>
          refine s_nil ?_
          refine s_cons ?_
          refine s_ret ?_
          refine ev_name 2 rfl ?_
          dsimp only
          refine retO ?_ rfl ?_ hP rfl
          · simp
          · rfl
end
end K71
set_option maxRecDepth 100000
set_option maxHeartbeats 4000000
namespace K71
open PySem PySem.Spec PyProof.Rows L2 Dv
section
variable {w : World} {K : PySem.W.Frag} {mg : Str → Option Value} {base : Heap}
/-! ### the law's own defs -/
def MB : Int := 2147483647
def BagIn (g c : Int) : Prop := 0 ≤ g ∧ 0 ≤ c ∧ c < 2147483647
def bagM (g c : Int) : Option MO := some (.lst [.int g, .int c])
theorem at_some {α : Type} {xs : List α} {i : Int} (h0 : 0 ≤ i) (h1 : i < (xs.length : Nat)) : ∃ d, atI xs i = some d ∧ d ∈ xs := by
  obtain ⟨j, rfl⟩ := Int.eq_ofNat_of_zero_le h0
  have h3 : j < xs.length := by omega
  exact ⟨xs[j], atI_nat (List.getElem?_eq_getElem h3), List.getElem_mem h3⟩
theorem scr_at {ns : List Int} {k : Int} (h : 0 < ((ns.length : Nat) : Int)) : ∃ n, atI ns (k % (ns.length : Nat)) = some n := by
  obtain ⟨n, h2, _⟩ := at_some (xs := ns) (Int.emod_nonneg k (show ((ns.length : Nat) : Int) ≠ 0 by omega)) (Int.emod_lt_of_pos k h)
  exact ⟨n, h2⟩
/-- an item of a list of few -/
theorem few_at {ds : List PyData} {i : Int} (h0 : 0 ≤ i) (h1 : i < (ds.length : Nat)) : ∃ d, atI ds i = some d ∧ d ∈ ds := at_some h0 h1
theorem pr_at {ds : List PyData} {i p : Int} (h0 : 0 ≤ i) (h1 : i < (ds.length : Nat)) (hp : ∀ d ∈ ds, ∃ q : Int, d = .int q ∧ 0 < q ∧ q ≤ p) : ∃ q : Int, atI ds i = some (.int q) ∧ 0 < q ∧ q ≤ p := by
  obtain ⟨d, h2, h3⟩ := few_at h0 h1
  obtain ⟨q, rfl, h4, h5⟩ := hp d h3
  exact ⟨q, h2, h4, h5⟩
def sp__law_bag : Dv.Spec := fun sls μ P => ∃ (ns : List Int) (k : Int), sls = [.scr ns, .dat (.int k)] ∧ 0 ≤ k ∧ k ≤ 1000 ∧ μ = [] ∧ ∀ g c, BagIn g c → P (.new (.lst [.int g, .int c])) []
theorem len__law_bag {sls μ P} (h : sp__law_bag sls μ P) : sls.length = 2 := by obtain ⟨_, _, rfl, _⟩ := h; rfl
theorem pow_ok {i j : Int} (h0 : 0 ≤ j) (h1 : j ≤ 1000000) (h2 : -(2 ^ 63) < i) (h3 : i < 2 ^ 63) : CPow i j := ⟨h0, h1, by omega⟩

abbrev N__law_bag : List Str := ["_law_script", "_law_at", "_law_cell", "_law_great", "_law_primes"]
theorem nd__law_bag : N__law_bag.Nodup := by decide +kernel
abbrev s__law_bag : Stmt := tp 34
theorem sc__law_bag : FnScope N__law_bag ["_law_script", "_law_at"] (C8.fnScope s__law_bag) := C8.fnScope_by (by decide +kernel)
theorem cal__law_bag (T : Txt w K mg)  {f : Addr} {fd : FuncData} (D : DefD K mg "_law_bag" s__law_bag ["_law_script", "_law_at"] [] f fd) : Cal PW w K mg base (0 + 1) "_law_bag" sp__law_bag [] := by
  refine cal_data (N := N__law_bag) D sc__law_bag (fun sls μ P h => ?_) ?_
  · exact len__law_bag h
  rintro X ⟨cdv, A, outer, s, H, E, rfl⟩ hr S sls μ Pr hS ⟨ns, k, rfl, hk0, hk1, rfl, hP⟩
  have nd := nd__law_bag
  have hu := hr.units
  have hu2 := units65 hr
  refine s_cons ?_
  refine s_set 2 nd ?_
  refine ev_int ?_
  refine s_cons ?_
  refine' s_ifP ?h621 (fun hC => ?h622) (fun hC => ?h623)
  case h621 =>
    refine et_cmp c_gt rfl ?_
    refine e_len T.z_len ?_
    refine ev_name 0 rfl ?_
    refine ⟨_, rfl, by first | exact True.intro | first | assumption | rfl | decide | exact Nat.le_of_ble_eq_true rfl | omega | (simp only [List.length_cons, List.length_nil, List.length_map, List.length_append]; omega) | exact hszl | exact hszw | exact Or.inl ⟨by decide, by decide⟩ | exact Or.inr ⟨by decide, by decide⟩ | exact pow_ok (by decide) (by decide) (by omega) (by omega) | exact ⟨by omega, by omega⟩ | exact Or.inl ⟨by omega, by omega⟩, ?_⟩
    refine ev_int ?_
    refine gt_i ?_
    refine ⟨_, rfl, ?_⟩
    exact ⟨rfl, rfl⟩
  case h622 =>
    have hp := of_decide_eq_true hC
    obtain ⟨cv, hcv⟩ := scr_at (k := k) hp
    refine s_cons ?_
    refine s_set 2 nd ?_
    refine ev_sub (fun _ _ => rfl) ?_
    refine ev_name 0 rfl ?_
    refine ev_bin b_mod ?_
    refine ev_name 1 rfl ?_
    refine e_len T.z_len ?_
    refine ev_name 0 rfl ?_
    refine ⟨_, rfl, by first | exact True.intro | first | assumption | rfl | decide | exact Nat.le_of_ble_eq_true rfl | omega | (simp only [List.length_cons, List.length_nil, List.length_map, List.length_append]; omega) | exact hszl | exact hszw | exact Or.inl ⟨by decide, by decide⟩ | exact Or.inr ⟨by decide, by decide⟩ | exact pow_ok (by decide) (by decide) (by omega) (by omega) | exact ⟨by omega, by omega⟩ | exact Or.inl ⟨by omega, by omega⟩, ?_⟩
    refine mod_i ?_ (by first | assumption | rfl | decide | exact Nat.le_of_ble_eq_true rfl | omega | (simp only [List.length_cons, List.length_nil, List.length_map, List.length_append]; omega) | exact hszl | exact hszw | exact Or.inl ⟨by decide, by decide⟩ | exact Or.inr ⟨by decide, by decide⟩ | exact pow_ok (by decide) (by decide) (by omega) (by omega) | exact ⟨by omega, by omega⟩ | exact Or.inl ⟨by omega, by omega⟩)
    refine ix_scr hcv ?_
    refine s_nil ?_
    refine s_cons ?_
    refine s_set 3 nd ?_
    refine ev_int ?_
    refine s_cons ?_
    refine' s_ifP ?h631 (fun hC => ?h632) (fun hC => ?h633)
    case h631 =>
      refine et_of_ew ?_
      refine' ew_andP ?h641 (fun hA => ?h642) ?h643
      case h641 =>
        refine et_cmp c_ge rfl ?_
        refine e_abs T.z_abs ?_
        refine ev_name 2 rfl ?_
        refine ⟨_, rfl, ?_⟩
        refine ev_bin b_pow ?_
        refine ev_int ?_
        refine ev_int ?_
        refine pow_i ?_ (by first | assumption | rfl | decide | exact Nat.le_of_ble_eq_true rfl | omega | (simp only [List.length_cons, List.length_nil, List.length_map, List.length_append]; omega) | exact hszl | exact hszw | exact Or.inl ⟨by decide, by decide⟩ | exact Or.inr ⟨by decide, by decide⟩ | exact pow_ok (by decide) (by decide) (by omega) (by omega) | exact ⟨by omega, by omega⟩ | exact Or.inl ⟨by omega, by omega⟩)
        refine ge_i ?_
        refine ⟨_, rfl, ?_⟩
        exact ⟨rfl, rfl⟩
      case h642 =>
        refine ew_and1 ?_
        refine et_cmp c_lt rfl ?_
        refine ev_name 1 rfl ?_
        refine e_len T.z_len ?_
        refine ev_name 0 rfl ?_
        refine ⟨_, rfl, by first | exact True.intro | first | assumption | rfl | decide | exact Nat.le_of_ble_eq_true rfl | omega | (simp only [List.length_cons, List.length_nil, List.length_map, List.length_append]; omega) | exact hszl | exact hszw | exact Or.inl ⟨by decide, by decide⟩ | exact Or.inr ⟨by decide, by decide⟩ | exact pow_ok (by decide) (by decide) (by omega) (by omega) | exact ⟨by omega, by omega⟩ | exact Or.inl ⟨by omega, by omega⟩, ?_⟩
        refine lt_i ?_
        refine ⟨_, rfl, ?_⟩
        exact ⟨rfl, rfl⟩
      case h643 =>
        exact ⟨rfl, rfl⟩
    case h632 =>
      refine s_cons ?_
      refine s_set 3 nd ?_
      refine e_abs T.z_abs ?_
      refine ev_name 2 rfl ?_
      refine ⟨_, rfl, ?_⟩
      refine s_nil ?_
      refine s_cons ?_
      refine s_set 4 nd ?_
      refine ev_tuple ?_
      refine ea_cons ?_
      refine ev_int ?_
      refine ea_cons ?_
      refine ev_int ?_
      refine ea_cons ?_
      refine ev_int ?_
      refine ea_cons ?_
      refine ev_int ?_
      refine ea_cons ?_
      refine ev_int ?_
      refine ea_cons ?_
      refine ev_int ?_
      refine ea_cons ?_
      refine ev_int ?_
      refine ea_cons ?_
      refine ev_int ?_
      refine ea_nil ?_
      refine tup_of rfl (by first | assumption | rfl | decide | exact Nat.le_of_ble_eq_true rfl | omega | (simp only [List.length_cons, List.length_nil, List.length_map, List.length_append]; omega) | exact hszl | exact hszw | exact Or.inl ⟨by decide, by decide⟩ | exact Or.inr ⟨by decide, by decide⟩ | exact pow_ok (by decide) (by decide) (by omega) (by omega) | exact ⟨by omega, by omega⟩ | exact Or.inl ⟨by omega, by omega⟩) ?_
      obtain ⟨pv, hpv, hpp, hpl⟩ : ∃ q : Int, atI ([.int 2147483629, .int 2147483587, .int 2147483579, .int 2147483563, .int 2147483549, .int 2147483543, .int 2147483497, .int 2147483489] : List PyData) (k % 8) = some (.int q) ∧ 0 < q ∧ q ≤ 2147483629 := pr_at (by omega) (by simp; omega) (by simp)
      refine s_cons ?_
      refine s_ret ?_
      refine ev_list ?_
      refine ea_cons ?_
      refine ev_name 3 rfl ?_
      refine ea_cons ?_
      refine ev_bin b_mod ?_
      refine ev_bin b_pow ?_
      refine ev_bin b_plus ?_
      refine ev_bin b_plus ?_
      refine ev_bin b_mod ?_
      refine ev_name 2 rfl ?_
      refine ev_int ?_
      refine mod_i ?_ (by first | assumption | rfl | decide | exact Nat.le_of_ble_eq_true rfl | omega | (simp only [List.length_cons, List.length_nil, List.length_map, List.length_append]; omega) | exact hszl | exact hszw | exact Or.inl ⟨by decide, by decide⟩ | exact Or.inr ⟨by decide, by decide⟩ | exact pow_ok (by decide) (by decide) (by omega) (by omega) | exact ⟨by omega, by omega⟩ | exact Or.inl ⟨by omega, by omega⟩)
      refine ev_bin b_mul ?_
      refine ev_int ?_
      refine ev_name 1 rfl ?_
      refine mul_i ?_ (by first | assumption | rfl | decide | exact Nat.le_of_ble_eq_true rfl | omega | (simp only [List.length_cons, List.length_nil, List.length_map, List.length_append]; omega) | exact hszl | exact hszw | exact Or.inl ⟨by decide, by decide⟩ | exact Or.inr ⟨by decide, by decide⟩ | exact pow_ok (by decide) (by decide) (by omega) (by omega) | exact ⟨by omega, by omega⟩ | exact Or.inl ⟨by omega, by omega⟩)
      first | refine plus_i ?_ | refine plus_s (by first | assumption | rfl | decide | exact Nat.le_of_ble_eq_true rfl | omega | (simp only [List.length_cons, List.length_nil, List.length_map, List.length_append]; omega) | exact hszl | exact hszw | exact Or.inl ⟨by decide, by decide⟩ | exact Or.inr ⟨by decide, by decide⟩ | exact pow_ok (by decide) (by decide) (by omega) (by omega) | exact ⟨by omega, by omega⟩ | exact Or.inl ⟨by omega, by omega⟩) ?_ | refine plus_l rfl rfl (by first | assumption | rfl | decide | exact Nat.le_of_ble_eq_true rfl | omega | (simp only [List.length_cons, List.length_nil, List.length_map, List.length_append]; omega) | exact hszl | exact hszw | exact Or.inl ⟨by decide, by decide⟩ | exact Or.inr ⟨by decide, by decide⟩ | exact pow_ok (by decide) (by decide) (by omega) (by omega) | exact ⟨by omega, by omega⟩ | exact Or.inl ⟨by omega, by omega⟩) ?_
      refine ev_int ?_
      first | refine plus_i ?_ | refine plus_s (by first | assumption | rfl | decide | exact Nat.le_of_ble_eq_true rfl | omega | (simp only [List.length_cons, List.length_nil, List.length_map, List.length_append]; omega) | exact hszl | exact hszw | exact Or.inl ⟨by decide, by decide⟩ | exact Or.inr ⟨by decide, by decide⟩ | exact pow_ok (by decide) (by decide) (by omega) (by omega) | exact ⟨by omega, by omega⟩ | exact Or.inl ⟨by omega, by omega⟩) ?_ | refine plus_l rfl rfl (by first | assumption | rfl | decide | exact Nat.le_of_ble_eq_true rfl | omega | (simp only [List.length_cons, List.length_nil, List.length_map, List.length_append]; omega) | exact hszl | exact hszw | exact Or.inl ⟨by decide, by decide⟩ | exact Or.inr ⟨by decide, by decide⟩ | exact pow_ok (by decide) (by decide) (by omega) (by omega) | exact ⟨by omega, by omega⟩ | exact Or.inl ⟨by omega, by omega⟩) ?_
      refine ev_int ?_
      refine pow_i ?_ (by first | assumption | rfl | decide | exact Nat.le_of_ble_eq_true rfl | omega | (simp only [List.length_cons, List.length_nil, List.length_map, List.length_append]; omega) | exact hszl | exact hszw | exact Or.inl ⟨by decide, by decide⟩ | exact Or.inr ⟨by decide, by decide⟩ | exact pow_ok (by decide) (by decide) (by omega) (by omega) | exact ⟨by omega, by omega⟩ | exact Or.inl ⟨by omega, by omega⟩)
      refine ev_sub (fun _ _ => rfl) ?_
      refine ev_name 4 rfl ?_
      refine ev_bin b_mod ?_
      refine ev_name 1 rfl ?_
      refine ev_int ?_
      refine mod_i ?_ (by first | assumption | rfl | decide | exact Nat.le_of_ble_eq_true rfl | omega | (simp only [List.length_cons, List.length_nil, List.length_map, List.length_append]; omega) | exact hszl | exact hszw | exact Or.inl ⟨by decide, by decide⟩ | exact Or.inr ⟨by decide, by decide⟩ | exact pow_ok (by decide) (by decide) (by omega) (by omega) | exact ⟨by omega, by omega⟩ | exact Or.inl ⟨by omega, by omega⟩)
      refine ix_q rfl hpv ?_
      refine mod_i ?_ (by first | assumption | rfl | decide | exact Nat.le_of_ble_eq_true rfl | omega | (simp only [List.length_cons, List.length_nil, List.length_map, List.length_append]; omega) | exact hszl | exact hszw | exact Or.inl ⟨by decide, by decide⟩ | exact Or.inr ⟨by decide, by decide⟩ | exact pow_ok (by decide) (by decide) (by omega) (by omega) | exact ⟨by omega, by omega⟩ | exact Or.inl ⟨by omega, by omega⟩)
      refine ea_nil ?_
      refine lst_of rfl (by first | assumption | rfl | decide | exact Nat.le_of_ble_eq_true rfl | omega | (simp only [List.length_cons, List.length_nil, List.length_map, List.length_append]; omega) | exact hszl | exact hszw | exact Or.inl ⟨by decide, by decide⟩ | exact Or.inr ⟨by decide, by decide⟩ | exact pow_ok (by decide) (by decide) (by omega) (by omega) | exact ⟨by omega, by omega⟩ | exact Or.inl ⟨by omega, by omega⟩) ?_
      dsimp only
      refine retO ?_ rfl rfl (hP _ _ ⟨?_, ?_, ?_⟩) rfl
      · simp
      · first | omega | (split <;> omega)
      · exact Int.emod_nonneg _ (by omega)
      · exact Int.lt_of_lt_of_le (Int.emod_lt_of_pos _ hpp) (by omega)
    case h633 =>
      refine s_nil ?_
      refine s_cons ?_
      refine s_set 4 nd ?_
      refine ev_tuple ?_
      refine ea_cons ?_
      refine ev_int ?_
      refine ea_cons ?_
      refine ev_int ?_
      refine ea_cons ?_
      refine ev_int ?_
      refine ea_cons ?_
      refine ev_int ?_
      refine ea_cons ?_
      refine ev_int ?_
      refine ea_cons ?_
      refine ev_int ?_
      refine ea_cons ?_
      refine ev_int ?_
      refine ea_cons ?_
      refine ev_int ?_
      refine ea_nil ?_
      refine tup_of rfl (by first | assumption | rfl | decide | exact Nat.le_of_ble_eq_true rfl | omega | (simp only [List.length_cons, List.length_nil, List.length_map, List.length_append]; omega) | exact hszl | exact hszw | exact Or.inl ⟨by decide, by decide⟩ | exact Or.inr ⟨by decide, by decide⟩ | exact pow_ok (by decide) (by decide) (by omega) (by omega) | exact ⟨by omega, by omega⟩ | exact Or.inl ⟨by omega, by omega⟩) ?_
      obtain ⟨pv, hpv, hpp, hpl⟩ : ∃ q : Int, atI ([.int 2147483629, .int 2147483587, .int 2147483579, .int 2147483563, .int 2147483549, .int 2147483543, .int 2147483497, .int 2147483489] : List PyData) (k % 8) = some (.int q) ∧ 0 < q ∧ q ≤ 2147483629 := pr_at (by omega) (by simp; omega) (by simp)
      refine s_cons ?_
      refine s_ret ?_
      refine ev_list ?_
      refine ea_cons ?_
      refine ev_name 3 rfl ?_
      refine ea_cons ?_
      refine ev_bin b_mod ?_
      refine ev_bin b_pow ?_
      refine ev_bin b_plus ?_
      refine ev_bin b_plus ?_
      refine ev_bin b_mod ?_
      refine ev_name 2 rfl ?_
      refine ev_int ?_
      refine mod_i ?_ (by first | assumption | rfl | decide | exact Nat.le_of_ble_eq_true rfl | omega | (simp only [List.length_cons, List.length_nil, List.length_map, List.length_append]; omega) | exact hszl | exact hszw | exact Or.inl ⟨by decide, by decide⟩ | exact Or.inr ⟨by decide, by decide⟩ | exact pow_ok (by decide) (by decide) (by omega) (by omega) | exact ⟨by omega, by omega⟩ | exact Or.inl ⟨by omega, by omega⟩)
      refine ev_bin b_mul ?_
      refine ev_int ?_
      refine ev_name 1 rfl ?_
      refine mul_i ?_ (by first | assumption | rfl | decide | exact Nat.le_of_ble_eq_true rfl | omega | (simp only [List.length_cons, List.length_nil, List.length_map, List.length_append]; omega) | exact hszl | exact hszw | exact Or.inl ⟨by decide, by decide⟩ | exact Or.inr ⟨by decide, by decide⟩ | exact pow_ok (by decide) (by decide) (by omega) (by omega) | exact ⟨by omega, by omega⟩ | exact Or.inl ⟨by omega, by omega⟩)
      first | refine plus_i ?_ | refine plus_s (by first | assumption | rfl | decide | exact Nat.le_of_ble_eq_true rfl | omega | (simp only [List.length_cons, List.length_nil, List.length_map, List.length_append]; omega) | exact hszl | exact hszw | exact Or.inl ⟨by decide, by decide⟩ | exact Or.inr ⟨by decide, by decide⟩ | exact pow_ok (by decide) (by decide) (by omega) (by omega) | exact ⟨by omega, by omega⟩ | exact Or.inl ⟨by omega, by omega⟩) ?_ | refine plus_l rfl rfl (by first | assumption | rfl | decide | exact Nat.le_of_ble_eq_true rfl | omega | (simp only [List.length_cons, List.length_nil, List.length_map, List.length_append]; omega) | exact hszl | exact hszw | exact Or.inl ⟨by decide, by decide⟩ | exact Or.inr ⟨by decide, by decide⟩ | exact pow_ok (by decide) (by decide) (by omega) (by omega) | exact ⟨by omega, by omega⟩ | exact Or.inl ⟨by omega, by omega⟩) ?_
      refine ev_int ?_
      first | refine plus_i ?_ | refine plus_s (by first | assumption | rfl | decide | exact Nat.le_of_ble_eq_true rfl | omega | (simp only [List.length_cons, List.length_nil, List.length_map, List.length_append]; omega) | exact hszl | exact hszw | exact Or.inl ⟨by decide, by decide⟩ | exact Or.inr ⟨by decide, by decide⟩ | exact pow_ok (by decide) (by decide) (by omega) (by omega) | exact ⟨by omega, by omega⟩ | exact Or.inl ⟨by omega, by omega⟩) ?_ | refine plus_l rfl rfl (by first | assumption | rfl | decide | exact Nat.le_of_ble_eq_true rfl | omega | (simp only [List.length_cons, List.length_nil, List.length_map, List.length_append]; omega) | exact hszl | exact hszw | exact Or.inl ⟨by decide, by decide⟩ | exact Or.inr ⟨by decide, by decide⟩ | exact pow_ok (by decide) (by decide) (by omega) (by omega) | exact ⟨by omega, by omega⟩ | exact Or.inl ⟨by omega, by omega⟩) ?_
      refine ev_int ?_
      refine pow_i ?_ (by first | assumption | rfl | decide | exact Nat.le_of_ble_eq_true rfl | omega | (simp only [List.length_cons, List.length_nil, List.length_map, List.length_append]; omega) | exact hszl | exact hszw | exact Or.inl ⟨by decide, by decide⟩ | exact Or.inr ⟨by decide, by decide⟩ | exact pow_ok (by decide) (by decide) (by omega) (by omega) | exact ⟨by omega, by omega⟩ | exact Or.inl ⟨by omega, by omega⟩)
      refine ev_sub (fun _ _ => rfl) ?_
      refine ev_name 4 rfl ?_
      refine ev_bin b_mod ?_
      refine ev_name 1 rfl ?_
      refine ev_int ?_
      refine mod_i ?_ (by first | assumption | rfl | decide | exact Nat.le_of_ble_eq_true rfl | omega | (simp only [List.length_cons, List.length_nil, List.length_map, List.length_append]; omega) | exact hszl | exact hszw | exact Or.inl ⟨by decide, by decide⟩ | exact Or.inr ⟨by decide, by decide⟩ | exact pow_ok (by decide) (by decide) (by omega) (by omega) | exact ⟨by omega, by omega⟩ | exact Or.inl ⟨by omega, by omega⟩)
      refine ix_q rfl hpv ?_
      refine mod_i ?_ (by first | assumption | rfl | decide | exact Nat.le_of_ble_eq_true rfl | omega | (simp only [List.length_cons, List.length_nil, List.length_map, List.length_append]; omega) | exact hszl | exact hszw | exact Or.inl ⟨by decide, by decide⟩ | exact Or.inr ⟨by decide, by decide⟩ | exact pow_ok (by decide) (by decide) (by omega) (by omega) | exact ⟨by omega, by omega⟩ | exact Or.inl ⟨by omega, by omega⟩)
      refine ea_nil ?_
      refine lst_of rfl (by first | assumption | rfl | decide | exact Nat.le_of_ble_eq_true rfl | omega | (simp only [List.length_cons, List.length_nil, List.length_map, List.length_append]; omega) | exact hszl | exact hszw | exact Or.inl ⟨by decide, by decide⟩ | exact Or.inr ⟨by decide, by decide⟩ | exact pow_ok (by decide) (by decide) (by omega) (by omega) | exact ⟨by omega, by omega⟩ | exact Or.inl ⟨by omega, by omega⟩) ?_
      dsimp only
      refine retO ?_ rfl rfl (hP _ _ ⟨?_, ?_, ?_⟩) rfl
      · simp
      · first | omega | (split <;> omega)
      · exact Int.emod_nonneg _ (by omega)
      · exact Int.lt_of_lt_of_le (Int.emod_lt_of_pos _ hpp) (by omega)
  case h623 =>
    refine s_nil ?_
    refine s_cons ?_
    refine s_set 3 nd ?_
    refine ev_int ?_
    refine s_cons ?_
    refine' s_ifP ?h651 (fun hC => ?h652) (fun hC => ?h653)
    case h651 =>
      refine et_of_ew ?_
      refine' ew_andP ?h661 (fun hA => ?h662) ?h663
      case h661 =>
        refine et_cmp c_ge rfl ?_
        refine e_abs T.z_abs ?_
        refine ev_name 2 rfl ?_
        refine ⟨_, rfl, ?_⟩
        refine ev_bin b_pow ?_
        refine ev_int ?_
        refine ev_int ?_
        refine pow_i ?_ (by first | assumption | rfl | decide | exact Nat.le_of_ble_eq_true rfl | omega | (simp only [List.length_cons, List.length_nil, List.length_map, List.length_append]; omega) | exact hszl | exact hszw | exact Or.inl ⟨by decide, by decide⟩ | exact Or.inr ⟨by decide, by decide⟩ | exact pow_ok (by decide) (by decide) (by omega) (by omega) | exact ⟨by omega, by omega⟩ | exact Or.inl ⟨by omega, by omega⟩)
        refine ge_i ?_
        refine ⟨_, rfl, ?_⟩
        exact ⟨rfl, rfl⟩
      case h662 =>
        refine ew_and1 ?_
        refine et_cmp c_lt rfl ?_
        refine ev_name 1 rfl ?_
        refine e_len T.z_len ?_
        refine ev_name 0 rfl ?_
        refine ⟨_, rfl, by first | exact True.intro | first | assumption | rfl | decide | exact Nat.le_of_ble_eq_true rfl | omega | (simp only [List.length_cons, List.length_nil, List.length_map, List.length_append]; omega) | exact hszl | exact hszw | exact Or.inl ⟨by decide, by decide⟩ | exact Or.inr ⟨by decide, by decide⟩ | exact pow_ok (by decide) (by decide) (by omega) (by omega) | exact ⟨by omega, by omega⟩ | exact Or.inl ⟨by omega, by omega⟩, ?_⟩
        refine lt_i ?_
        refine ⟨_, rfl, ?_⟩
        exact ⟨rfl, rfl⟩
      case h663 =>
        exact ⟨rfl, rfl⟩
    case h652 =>
      refine s_cons ?_
      refine s_set 3 nd ?_
      refine e_abs T.z_abs ?_
      refine ev_name 2 rfl ?_
      refine ⟨_, rfl, ?_⟩
      refine s_nil ?_
      refine s_cons ?_
      refine s_set 4 nd ?_
      refine ev_tuple ?_
      refine ea_cons ?_
      refine ev_int ?_
      refine ea_cons ?_
      refine ev_int ?_
      refine ea_cons ?_
      refine ev_int ?_
      refine ea_cons ?_
      refine ev_int ?_
      refine ea_cons ?_
      refine ev_int ?_
      refine ea_cons ?_
      refine ev_int ?_
      refine ea_cons ?_
      refine ev_int ?_
      refine ea_cons ?_
      refine ev_int ?_
      refine ea_nil ?_
      refine tup_of rfl (by first | assumption | rfl | decide | exact Nat.le_of_ble_eq_true rfl | omega | (simp only [List.length_cons, List.length_nil, List.length_map, List.length_append]; omega) | exact hszl | exact hszw | exact Or.inl ⟨by decide, by decide⟩ | exact Or.inr ⟨by decide, by decide⟩ | exact pow_ok (by decide) (by decide) (by omega) (by omega) | exact ⟨by omega, by omega⟩ | exact Or.inl ⟨by omega, by omega⟩) ?_
      obtain ⟨pv, hpv, hpp, hpl⟩ : ∃ q : Int, atI ([.int 2147483629, .int 2147483587, .int 2147483579, .int 2147483563, .int 2147483549, .int 2147483543, .int 2147483497, .int 2147483489] : List PyData) (k % 8) = some (.int q) ∧ 0 < q ∧ q ≤ 2147483629 := pr_at (by omega) (by simp; omega) (by simp)
      refine s_cons ?_
      refine s_ret ?_
      refine ev_list ?_
      refine ea_cons ?_
      refine ev_name 3 rfl ?_
      refine ea_cons ?_
      refine ev_bin b_mod ?_
      refine ev_bin b_pow ?_
      refine ev_bin b_plus ?_
      refine ev_bin b_plus ?_
      refine ev_bin b_mod ?_
      refine ev_name 2 rfl ?_
      refine ev_int ?_
      refine mod_i ?_ (by first | assumption | rfl | decide | exact Nat.le_of_ble_eq_true rfl | omega | (simp only [List.length_cons, List.length_nil, List.length_map, List.length_append]; omega) | exact hszl | exact hszw | exact Or.inl ⟨by decide, by decide⟩ | exact Or.inr ⟨by decide, by decide⟩ | exact pow_ok (by decide) (by decide) (by omega) (by omega) | exact ⟨by omega, by omega⟩ | exact Or.inl ⟨by omega, by omega⟩)
      refine ev_bin b_mul ?_
      refine ev_int ?_
      refine ev_name 1 rfl ?_
      refine mul_i ?_ (by first | assumption | rfl | decide | exact Nat.le_of_ble_eq_true rfl | omega | (simp only [List.length_cons, List.length_nil, List.length_map, List.length_append]; omega) | exact hszl | exact hszw | exact Or.inl ⟨by decide, by decide⟩ | exact Or.inr ⟨by decide, by decide⟩ | exact pow_ok (by decide) (by decide) (by omega) (by omega) | exact ⟨by omega, by omega⟩ | exact Or.inl ⟨by omega, by omega⟩)
      first | refine plus_i ?_ | refine plus_s (by first | assumption | rfl | decide | exact Nat.le_of_ble_eq_true rfl | omega | (simp only [List.length_cons, List.length_nil, List.length_map, List.length_append]; omega) | exact hszl | exact hszw | exact Or.inl ⟨by decide, by decide⟩ | exact Or.inr ⟨by decide, by decide⟩ | exact pow_ok (by decide) (by decide) (by omega) (by omega) | exact ⟨by omega, by omega⟩ | exact Or.inl ⟨by omega, by omega⟩) ?_ | refine plus_l rfl rfl (by first | assumption | rfl | decide | exact Nat.le_of_ble_eq_true rfl | omega | (simp only [List.length_cons, List.length_nil, List.length_map, List.length_append]; omega) | exact hszl | exact hszw | exact Or.inl ⟨by decide, by decide⟩ | exact Or.inr ⟨by decide, by decide⟩ | exact pow_ok (by decide) (by decide) (by omega) (by omega) | exact ⟨by omega, by omega⟩ | exact Or.inl ⟨by omega, by omega⟩) ?_
      refine ev_int ?_
      first | refine plus_i ?_ | refine plus_s (by first | assumption | rfl | decide | exact Nat.le_of_ble_eq_true rfl | omega | (simp only [List.length_cons, List.length_nil, List.length_map, List.length_append]; omega) | exact hszl | exact hszw | exact Or.inl ⟨by decide, by decide⟩ | exact Or.inr ⟨by decide, by decide⟩ | exact pow_ok (by decide) (by decide) (by omega) (by omega) | exact ⟨by omega, by omega⟩ | exact Or.inl ⟨by omega, by omega⟩) ?_ | refine plus_l rfl rfl (by first | assumption | rfl | decide | exact Nat.le_of_ble_eq_true rfl | omega | (simp only [List.length_cons, List.length_nil, List.length_map, List.length_append]; omega) | exact hszl | exact hszw | exact Or.inl ⟨by decide, by decide⟩ | exact Or.inr ⟨by decide, by decide⟩ | exact pow_ok (by decide) (by decide) (by omega) (by omega) | exact ⟨by omega, by omega⟩ | exact Or.inl ⟨by omega, by omega⟩) ?_
      refine ev_int ?_
      refine pow_i ?_ (by first | assumption | rfl | decide | exact Nat.le_of_ble_eq_true rfl | omega | (simp only [List.length_cons, List.length_nil, List.length_map, List.length_append]; omega) | exact hszl | exact hszw | exact Or.inl ⟨by decide, by decide⟩ | exact Or.inr ⟨by decide, by decide⟩ | exact pow_ok (by decide) (by decide) (by omega) (by omega) | exact ⟨by omega, by omega⟩ | exact Or.inl ⟨by omega, by omega⟩)
      refine ev_sub (fun _ _ => rfl) ?_
      refine ev_name 4 rfl ?_
      refine ev_bin b_mod ?_
      refine ev_name 1 rfl ?_
      refine ev_int ?_
      refine mod_i ?_ (by first | assumption | rfl | decide | exact Nat.le_of_ble_eq_true rfl | omega | (simp only [List.length_cons, List.length_nil, List.length_map, List.length_append]; omega) | exact hszl | exact hszw | exact Or.inl ⟨by decide, by decide⟩ | exact Or.inr ⟨by decide, by decide⟩ | exact pow_ok (by decide) (by decide) (by omega) (by omega) | exact ⟨by omega, by omega⟩ | exact Or.inl ⟨by omega, by omega⟩)
      refine ix_q rfl hpv ?_
      refine mod_i ?_ (by first | assumption | rfl | decide | exact Nat.le_of_ble_eq_true rfl | omega | (simp only [List.length_cons, List.length_nil, List.length_map, List.length_append]; omega) | exact hszl | exact hszw | exact Or.inl ⟨by decide, by decide⟩ | exact Or.inr ⟨by decide, by decide⟩ | exact pow_ok (by decide) (by decide) (by omega) (by omega) | exact ⟨by omega, by omega⟩ | exact Or.inl ⟨by omega, by omega⟩)
      refine ea_nil ?_
      refine lst_of rfl (by first | assumption | rfl | decide | exact Nat.le_of_ble_eq_true rfl | omega | (simp only [List.length_cons, List.length_nil, List.length_map, List.length_append]; omega) | exact hszl | exact hszw | exact Or.inl ⟨by decide, by decide⟩ | exact Or.inr ⟨by decide, by decide⟩ | exact pow_ok (by decide) (by decide) (by omega) (by omega) | exact ⟨by omega, by omega⟩ | exact Or.inl ⟨by omega, by omega⟩) ?_
      dsimp only
      refine retO ?_ rfl rfl (hP _ _ ⟨?_, ?_, ?_⟩) rfl
      · simp
      · first | omega | (split <;> omega)
      · exact Int.emod_nonneg _ (by omega)
      · exact Int.lt_of_lt_of_le (Int.emod_lt_of_pos _ hpp) (by omega)
    case h653 =>
      refine s_nil ?_
      refine s_cons ?_
      refine s_set 4 nd ?_
      refine ev_tuple ?_
      refine ea_cons ?_
      refine ev_int ?_
      refine ea_cons ?_
      refine ev_int ?_
      refine ea_cons ?_
      refine ev_int ?_
      refine ea_cons ?_
      refine ev_int ?_
      refine ea_cons ?_
      refine ev_int ?_
      refine ea_cons ?_
      refine ev_int ?_
      refine ea_cons ?_
      refine ev_int ?_
      refine ea_cons ?_
      refine ev_int ?_
      refine ea_nil ?_
      refine tup_of rfl (by first | assumption | rfl | decide | exact Nat.le_of_ble_eq_true rfl | omega | (simp only [List.length_cons, List.length_nil, List.length_map, List.length_append]; omega) | exact hszl | exact hszw | exact Or.inl ⟨by decide, by decide⟩ | exact Or.inr ⟨by decide, by decide⟩ | exact pow_ok (by decide) (by decide) (by omega) (by omega) | exact ⟨by omega, by omega⟩ | exact Or.inl ⟨by omega, by omega⟩) ?_
      obtain ⟨pv, hpv, hpp, hpl⟩ : ∃ q : Int, atI ([.int 2147483629, .int 2147483587, .int 2147483579, .int 2147483563, .int 2147483549, .int 2147483543, .int 2147483497, .int 2147483489] : List PyData) (k % 8) = some (.int q) ∧ 0 < q ∧ q ≤ 2147483629 := pr_at (by omega) (by simp; omega) (by simp)
      refine s_cons ?_
      refine s_ret ?_
      refine ev_list ?_
      refine ea_cons ?_
      refine ev_name 3 rfl ?_
      refine ea_cons ?_
      refine ev_bin b_mod ?_
      refine ev_bin b_pow ?_
      refine ev_bin b_plus ?_
      refine ev_bin b_plus ?_
      refine ev_bin b_mod ?_
      refine ev_name 2 rfl ?_
      refine ev_int ?_
      refine mod_i ?_ (by first | assumption | rfl | decide | exact Nat.le_of_ble_eq_true rfl | omega | (simp only [List.length_cons, List.length_nil, List.length_map, List.length_append]; omega) | exact hszl | exact hszw | exact Or.inl ⟨by decide, by decide⟩ | exact Or.inr ⟨by decide, by decide⟩ | exact pow_ok (by decide) (by decide) (by omega) (by omega) | exact ⟨by omega, by omega⟩ | exact Or.inl ⟨by omega, by omega⟩)
      refine ev_bin b_mul ?_
      refine ev_int ?_
      refine ev_name 1 rfl ?_
      refine mul_i ?_ (by first | assumption | rfl | decide | exact Nat.le_of_ble_eq_true rfl | omega | (simp only [List.length_cons, List.length_nil, List.length_map, List.length_append]; omega) | exact hszl | exact hszw | exact Or.inl ⟨by decide, by decide⟩ | exact Or.inr ⟨by decide, by decide⟩ | exact pow_ok (by decide) (by decide) (by omega) (by omega) | exact ⟨by omega, by omega⟩ | exact Or.inl ⟨by omega, by omega⟩)
      first | refine plus_i ?_ | refine plus_s (by first | assumption | rfl | decide | exact Nat.le_of_ble_eq_true rfl | omega | (simp only [List.length_cons, List.length_nil, List.length_map, List.length_append]; omega) | exact hszl | exact hszw | exact Or.inl ⟨by decide, by decide⟩ | exact Or.inr ⟨by decide, by decide⟩ | exact pow_ok (by decide) (by decide) (by omega) (by omega) | exact ⟨by omega, by omega⟩ | exact Or.inl ⟨by omega, by omega⟩) ?_ | refine plus_l rfl rfl (by first | assumption | rfl | decide | exact Nat.le_of_ble_eq_true rfl | omega | (simp only [List.length_cons, List.length_nil, List.length_map, List.length_append]; omega) | exact hszl | exact hszw | exact Or.inl ⟨by decide, by decide⟩ | exact Or.inr ⟨by decide, by decide⟩ | exact pow_ok (by decide) (by decide) (by omega) (by omega) | exact ⟨by omega, by omega⟩ | exact Or.inl ⟨by omega, by omega⟩) ?_
      refine ev_int ?_
      first | refine plus_i ?_ | refine plus_s (by first | assumption | rfl | decide | exact Nat.le_of_ble_eq_true rfl | omega | (simp only [List.length_cons, List.length_nil, List.length_map, List.length_append]; omega) | exact hszl | exact hszw | exact Or.inl ⟨by decide, by decide⟩ | exact Or.inr ⟨by decide, by decide⟩ | exact pow_ok (by decide) (by decide) (by omega) (by omega) | exact ⟨by omega, by omega⟩ | exact Or.inl ⟨by omega, by omega⟩) ?_ | refine plus_l rfl rfl (by first | assumption | rfl | decide | exact Nat.le_of_ble_eq_true rfl | omega | (simp only [List.length_cons, List.length_nil, List.length_map, List.length_append]; omega) | exact hszl | exact hszw | exact Or.inl ⟨by decide, by decide⟩ | exact Or.inr ⟨by decide, by decide⟩ | exact pow_ok (by decide) (by decide) (by omega) (by omega) | exact ⟨by omega, by omega⟩ | exact Or.inl ⟨by omega, by omega⟩) ?_
      refine ev_int ?_
      refine pow_i ?_ (by first | assumption | rfl | decide | exact Nat.le_of_ble_eq_true rfl | omega | (simp only [List.length_cons, List.length_nil, List.length_map, List.length_append]; omega) | exact hszl | exact hszw | exact Or.inl ⟨by decide, by decide⟩ | exact Or.inr ⟨by decide, by decide⟩ | exact pow_ok (by decide) (by decide) (by omega) (by omega) | exact ⟨by omega, by omega⟩ | exact Or.inl ⟨by omega, by omega⟩)
      refine ev_sub (fun _ _ => rfl) ?_
      refine ev_name 4 rfl ?_
      refine ev_bin b_mod ?_
      refine ev_name 1 rfl ?_
      refine ev_int ?_
      refine mod_i ?_ (by first | assumption | rfl | decide | exact Nat.le_of_ble_eq_true rfl | omega | (simp only [List.length_cons, List.length_nil, List.length_map, List.length_append]; omega) | exact hszl | exact hszw | exact Or.inl ⟨by decide, by decide⟩ | exact Or.inr ⟨by decide, by decide⟩ | exact pow_ok (by decide) (by decide) (by omega) (by omega) | exact ⟨by omega, by omega⟩ | exact Or.inl ⟨by omega, by omega⟩)
      refine ix_q rfl hpv ?_
      refine mod_i ?_ (by first | assumption | rfl | decide | exact Nat.le_of_ble_eq_true rfl | omega | (simp only [List.length_cons, List.length_nil, List.length_map, List.length_append]; omega) | exact hszl | exact hszw | exact Or.inl ⟨by decide, by decide⟩ | exact Or.inr ⟨by decide, by decide⟩ | exact pow_ok (by decide) (by decide) (by omega) (by omega) | exact ⟨by omega, by omega⟩ | exact Or.inl ⟨by omega, by omega⟩)
      refine ea_nil ?_
      refine lst_of rfl (by first | assumption | rfl | decide | exact Nat.le_of_ble_eq_true rfl | omega | (simp only [List.length_cons, List.length_nil, List.length_map, List.length_append]; omega) | exact hszl | exact hszw | exact Or.inl ⟨by decide, by decide⟩ | exact Or.inr ⟨by decide, by decide⟩ | exact pow_ok (by decide) (by decide) (by omega) (by omega) | exact ⟨by omega, by omega⟩ | exact Or.inl ⟨by omega, by omega⟩) ?_
      dsimp only
      refine retO ?_ rfl rfl (hP _ _ ⟨?_, ?_, ?_⟩) rfl
      · simp
      · first | omega | (split <;> omega)
      · exact Int.emod_nonneg _ (by omega)
      · exact Int.lt_of_lt_of_le (Int.emod_lt_of_pos _ hpp) (by omega)
def sp__law_take : Dv.Spec := fun sls μ P => ∃ g c n : Int, sls = [.obj 0, .dat (.int n)] ∧ μ = [bagM g c] ∧ BagIn g c ∧ 0 < n ∧ n < 1073741824 ∧ ∀ g' c' r, BagIn g' c' → 0 ≤ r → r < n → P (.dat (.int r)) [bagM g' c']
theorem len__law_take {sls μ P} (h : sp__law_take sls μ P) : sls.length = 2 := by obtain ⟨_, _, _, rfl, _⟩ := h; rfl

abbrev N__law_take : List Str := ["_law_bag_here", "_law_many", "_law_digit"]
theorem nd__law_take : N__law_take.Nodup := by decide +kernel
abbrev s__law_take : Stmt := tp 35
theorem sc__law_take : FnScope N__law_take ["_law_bag_here", "_law_many"] (C8.fnScope s__law_take) := C8.fnScope_by (by decide +kernel)
theorem cal__law_take (T : Txt w K mg)  {f : Addr} {fd : FuncData} (D : DefD K mg "_law_take" s__law_take ["_law_bag_here", "_law_many"] [] f fd) : Cal PW w K mg base (0 + 1) "_law_take" sp__law_take [] := by
  refine cal_data (N := N__law_take) D sc__law_take (fun sls μ P h => ?_) ?_
  · exact len__law_take h
  rintro X ⟨cdv, A, outer, s, H, E, rfl⟩ hr S sls μ Pr hS ⟨g, c, n, rfl, rfl, hB, hn, hn2, hP⟩
  have nd := nd__law_take
  have hu := hr.units
  have hu2 := units65 hr
  obtain ⟨hB1, hB2, hB3⟩ := id hB
  refine s_cons ?_
  refine' s_ifP ?h671 (fun hC => ?h672) (fun hC => ?h673)
  case h671 =>
    refine et_cmp c_gt rfl ?_
    refine ev_sub (fun _ _ => rfl) ?_
    refine ev_name 0 rfl ?_
    refine ev_int ?_
    first | refine ix_scr (by first | assumption | rfl | decide | exact Nat.le_of_ble_eq_true rfl | omega | (simp only [List.length_cons, List.length_nil, List.length_map, List.length_append]; omega) | exact hszl | exact hszw | exact Or.inl ⟨by decide, by decide⟩ | exact Or.inr ⟨by decide, by decide⟩ | exact pow_ok (by decide) (by decide) (by omega) (by omega) | exact ⟨by omega, by omega⟩ | exact Or.inl ⟨by omega, by omega⟩) ?_ | refine ix_q rfl (by first | assumption | rfl | decide | exact Nat.le_of_ble_eq_true rfl | omega | (simp only [List.length_cons, List.length_nil, List.length_map, List.length_append]; omega) | exact hszl | exact hszw | exact Or.inl ⟨by decide, by decide⟩ | exact Or.inr ⟨by decide, by decide⟩ | exact pow_ok (by decide) (by decide) (by omega) (by omega) | exact ⟨by omega, by omega⟩ | exact Or.inl ⟨by omega, by omega⟩) ?_ | refine ix_str (by first | assumption | rfl | decide | exact Nat.le_of_ble_eq_true rfl | omega | (simp only [List.length_cons, List.length_nil, List.length_map, List.length_append]; omega) | exact hszl | exact hszw | exact Or.inl ⟨by decide, by decide⟩ | exact Or.inr ⟨by decide, by decide⟩ | exact pow_ok (by decide) (by decide) (by omega) (by omega) | exact ⟨by omega, by omega⟩ | exact Or.inl ⟨by omega, by omega⟩) (by first | assumption | rfl | decide | exact Nat.le_of_ble_eq_true rfl | omega | (simp only [List.length_cons, List.length_nil, List.length_map, List.length_append]; omega) | exact hszl | exact hszw | exact Or.inl ⟨by decide, by decide⟩ | exact Or.inr ⟨by decide, by decide⟩ | exact pow_ok (by decide) (by decide) (by omega) (by omega) | exact ⟨by omega, by omega⟩ | exact Or.inl ⟨by omega, by omega⟩) ?_
    refine ev_int ?_
    refine gt_i ?_
    refine ⟨_, rfl, ?_⟩
    exact ⟨rfl, rfl⟩
  case h672 =>
    refine s_cons ?_
    refine s_set 2 nd ?_
    refine ev_bin b_mod ?_
    refine ev_sub (fun _ _ => rfl) ?_
    refine ev_name 0 rfl ?_
    refine ev_int ?_
    first | refine ix_scr (by first | assumption | rfl | decide | exact Nat.le_of_ble_eq_true rfl | omega | (simp only [List.length_cons, List.length_nil, List.length_map, List.length_append]; omega) | exact hszl | exact hszw | exact Or.inl ⟨by decide, by decide⟩ | exact Or.inr ⟨by decide, by decide⟩ | exact pow_ok (by decide) (by decide) (by omega) (by omega) | exact ⟨by omega, by omega⟩ | exact Or.inl ⟨by omega, by omega⟩) ?_ | refine ix_q rfl (by first | assumption | rfl | decide | exact Nat.le_of_ble_eq_true rfl | omega | (simp only [List.length_cons, List.length_nil, List.length_map, List.length_append]; omega) | exact hszl | exact hszw | exact Or.inl ⟨by decide, by decide⟩ | exact Or.inr ⟨by decide, by decide⟩ | exact pow_ok (by decide) (by decide) (by omega) (by omega) | exact ⟨by omega, by omega⟩ | exact Or.inl ⟨by omega, by omega⟩) ?_ | refine ix_str (by first | assumption | rfl | decide | exact Nat.le_of_ble_eq_true rfl | omega | (simp only [List.length_cons, List.length_nil, List.length_map, List.length_append]; omega) | exact hszl | exact hszw | exact Or.inl ⟨by decide, by decide⟩ | exact Or.inr ⟨by decide, by decide⟩ | exact pow_ok (by decide) (by decide) (by omega) (by omega) | exact ⟨by omega, by omega⟩ | exact Or.inl ⟨by omega, by omega⟩) (by first | assumption | rfl | decide | exact Nat.le_of_ble_eq_true rfl | omega | (simp only [List.length_cons, List.length_nil, List.length_map, List.length_append]; omega) | exact hszl | exact hszw | exact Or.inl ⟨by decide, by decide⟩ | exact Or.inr ⟨by decide, by decide⟩ | exact pow_ok (by decide) (by decide) (by omega) (by omega) | exact ⟨by omega, by omega⟩ | exact Or.inl ⟨by omega, by omega⟩) ?_
    refine ev_name 1 rfl ?_
    refine mod_i ?_ (by first | assumption | rfl | decide | exact Nat.le_of_ble_eq_true rfl | omega | (simp only [List.length_cons, List.length_nil, List.length_map, List.length_append]; omega) | exact hszl | exact hszw | exact Or.inl ⟨by decide, by decide⟩ | exact Or.inr ⟨by decide, by decide⟩ | exact pow_ok (by decide) (by decide) (by omega) (by omega) | exact ⟨by omega, by omega⟩ | exact Or.inl ⟨by omega, by omega⟩)
    refine s_cons ?_
    refine s_asg [] ?_
    refine ev_bin b_fdiv ?_
    refine ev_sub (fun _ _ => rfl) ?_
    refine ev_name 0 rfl ?_
    refine ev_int ?_
    first | refine ix_scr (by first | assumption | rfl | decide | exact Nat.le_of_ble_eq_true rfl | omega | (simp only [List.length_cons, List.length_nil, List.length_map, List.length_append]; omega) | exact hszl | exact hszw | exact Or.inl ⟨by decide, by decide⟩ | exact Or.inr ⟨by decide, by decide⟩ | exact pow_ok (by decide) (by decide) (by omega) (by omega) | exact ⟨by omega, by omega⟩ | exact Or.inl ⟨by omega, by omega⟩) ?_ | refine ix_q rfl (by first | assumption | rfl | decide | exact Nat.le_of_ble_eq_true rfl | omega | (simp only [List.length_cons, List.length_nil, List.length_map, List.length_append]; omega) | exact hszl | exact hszw | exact Or.inl ⟨by decide, by decide⟩ | exact Or.inr ⟨by decide, by decide⟩ | exact pow_ok (by decide) (by decide) (by omega) (by omega) | exact ⟨by omega, by omega⟩ | exact Or.inl ⟨by omega, by omega⟩) ?_ | refine ix_str (by first | assumption | rfl | decide | exact Nat.le_of_ble_eq_true rfl | omega | (simp only [List.length_cons, List.length_nil, List.length_map, List.length_append]; omega) | exact hszl | exact hszw | exact Or.inl ⟨by decide, by decide⟩ | exact Or.inr ⟨by decide, by decide⟩ | exact pow_ok (by decide) (by decide) (by omega) (by omega) | exact ⟨by omega, by omega⟩ | exact Or.inl ⟨by omega, by omega⟩) (by first | assumption | rfl | decide | exact Nat.le_of_ble_eq_true rfl | omega | (simp only [List.length_cons, List.length_nil, List.length_map, List.length_append]; omega) | exact hszl | exact hszw | exact Or.inl ⟨by decide, by decide⟩ | exact Or.inr ⟨by decide, by decide⟩ | exact pow_ok (by decide) (by decide) (by omega) (by omega) | exact ⟨by omega, by omega⟩ | exact Or.inl ⟨by omega, by omega⟩) ?_
    refine ev_name 1 rfl ?_
    refine fdiv_i ?_ (by first | assumption | rfl | decide | exact Nat.le_of_ble_eq_true rfl | omega | (simp only [List.length_cons, List.length_nil, List.length_map, List.length_append]; omega) | exact hszl | exact hszw | exact Or.inl ⟨by decide, by decide⟩ | exact Or.inr ⟨by decide, by decide⟩ | exact pow_ok (by decide) (by decide) (by omega) (by omega) | exact ⟨by omega, by omega⟩ | exact Or.inl ⟨by omega, by omega⟩)
    refine ag_sub rfl ?_
    refine ev_name 0 rfl ?_
    refine ev_int ?_
    refine ⟨_, rfl, _, by first | assumption | rfl | decide | exact Nat.le_of_ble_eq_true rfl | omega | (simp only [List.length_cons, List.length_nil, List.length_map, List.length_append]; omega) | exact hszl | exact hszw | exact Or.inl ⟨by decide, by decide⟩ | exact Or.inr ⟨by decide, by decide⟩ | exact pow_ok (by decide) (by decide) (by omega) (by omega) | exact ⟨by omega, by omega⟩ | exact Or.inl ⟨by omega, by omega⟩, ?_⟩
    refine s_cons ?_
    refine s_ret ?_
    refine ev_name 2 rfl ?_
    refine retD rfl (hP _ _ _ ⟨?_, ?_, ?_⟩ ?_ ?_) rfl
    · exact Int.ediv_nonneg hB.1 (by omega)
    · exact hB.2.1
    · exact hB.2.2
    · exact Int.emod_nonneg _ (by omega)
    · exact Int.emod_lt_of_pos _ hn
  case h673 =>
    refine s_nil ?_
    refine s_cons ?_
    refine s_asg [] ?_
    refine ev_bin b_mod ?_
    refine ev_bin b_plus ?_
    refine ev_bin b_mul ?_
    refine ev_sub (fun _ _ => rfl) ?_
    refine ev_name 0 rfl ?_
    refine ev_int ?_
    first | refine ix_scr (by first | assumption | rfl | decide | exact Nat.le_of_ble_eq_true rfl | omega | (simp only [List.length_cons, List.length_nil, List.length_map, List.length_append]; omega) | exact hszl | exact hszw | exact Or.inl ⟨by decide, by decide⟩ | exact Or.inr ⟨by decide, by decide⟩ | exact pow_ok (by decide) (by decide) (by omega) (by omega) | exact ⟨by omega, by omega⟩ | exact Or.inl ⟨by omega, by omega⟩) ?_ | refine ix_q rfl (by first | assumption | rfl | decide | exact Nat.le_of_ble_eq_true rfl | omega | (simp only [List.length_cons, List.length_nil, List.length_map, List.length_append]; omega) | exact hszl | exact hszw | exact Or.inl ⟨by decide, by decide⟩ | exact Or.inr ⟨by decide, by decide⟩ | exact pow_ok (by decide) (by decide) (by omega) (by omega) | exact ⟨by omega, by omega⟩ | exact Or.inl ⟨by omega, by omega⟩) ?_ | refine ix_str (by first | assumption | rfl | decide | exact Nat.le_of_ble_eq_true rfl | omega | (simp only [List.length_cons, List.length_nil, List.length_map, List.length_append]; omega) | exact hszl | exact hszw | exact Or.inl ⟨by decide, by decide⟩ | exact Or.inr ⟨by decide, by decide⟩ | exact pow_ok (by decide) (by decide) (by omega) (by omega) | exact ⟨by omega, by omega⟩ | exact Or.inl ⟨by omega, by omega⟩) (by first | assumption | rfl | decide | exact Nat.le_of_ble_eq_true rfl | omega | (simp only [List.length_cons, List.length_nil, List.length_map, List.length_append]; omega) | exact hszl | exact hszw | exact Or.inl ⟨by decide, by decide⟩ | exact Or.inr ⟨by decide, by decide⟩ | exact pow_ok (by decide) (by decide) (by omega) (by omega) | exact ⟨by omega, by omega⟩ | exact Or.inl ⟨by omega, by omega⟩) ?_
    refine ev_int ?_
    refine mul_i ?_ (by first | assumption | rfl | decide | exact Nat.le_of_ble_eq_true rfl | omega | (simp only [List.length_cons, List.length_nil, List.length_map, List.length_append]; omega) | exact hszl | exact hszw | exact Or.inl ⟨by decide, by decide⟩ | exact Or.inr ⟨by decide, by decide⟩ | exact pow_ok (by decide) (by decide) (by omega) (by omega) | exact ⟨by omega, by omega⟩ | exact Or.inl ⟨by omega, by omega⟩)
    refine ev_int ?_
    first | refine plus_i ?_ | refine plus_s (by first | assumption | rfl | decide | exact Nat.le_of_ble_eq_true rfl | omega | (simp only [List.length_cons, List.length_nil, List.length_map, List.length_append]; omega) | exact hszl | exact hszw | exact Or.inl ⟨by decide, by decide⟩ | exact Or.inr ⟨by decide, by decide⟩ | exact pow_ok (by decide) (by decide) (by omega) (by omega) | exact ⟨by omega, by omega⟩ | exact Or.inl ⟨by omega, by omega⟩) ?_ | refine plus_l rfl rfl (by first | assumption | rfl | decide | exact Nat.le_of_ble_eq_true rfl | omega | (simp only [List.length_cons, List.length_nil, List.length_map, List.length_append]; omega) | exact hszl | exact hszw | exact Or.inl ⟨by decide, by decide⟩ | exact Or.inr ⟨by decide, by decide⟩ | exact pow_ok (by decide) (by decide) (by omega) (by omega) | exact ⟨by omega, by omega⟩ | exact Or.inl ⟨by omega, by omega⟩) ?_
    refine ev_int ?_
    refine mod_i ?_ (by first | assumption | rfl | decide | exact Nat.le_of_ble_eq_true rfl | omega | (simp only [List.length_cons, List.length_nil, List.length_map, List.length_append]; omega) | exact hszl | exact hszw | exact Or.inl ⟨by decide, by decide⟩ | exact Or.inr ⟨by decide, by decide⟩ | exact pow_ok (by decide) (by decide) (by omega) (by omega) | exact ⟨by omega, by omega⟩ | exact Or.inl ⟨by omega, by omega⟩)
    refine ag_sub rfl ?_
    refine ev_name 0 rfl ?_
    refine ev_int ?_
    refine ⟨_, rfl, _, by first | assumption | rfl | decide | exact Nat.le_of_ble_eq_true rfl | omega | (simp only [List.length_cons, List.length_nil, List.length_map, List.length_append]; omega) | exact hszl | exact hszw | exact Or.inl ⟨by decide, by decide⟩ | exact Or.inr ⟨by decide, by decide⟩ | exact pow_ok (by decide) (by decide) (by omega) (by omega) | exact ⟨by omega, by omega⟩ | exact Or.inl ⟨by omega, by omega⟩, ?_⟩
    refine s_cons ?_
    refine s_ret ?_
    refine ev_bin b_mod ?_
    refine ev_bin b_mod ?_
    refine ev_bin b_pow ?_
    refine ev_bin b_fdiv ?_
    refine ev_sub (fun _ _ => rfl) ?_
    refine ev_name 0 rfl ?_
    refine ev_int ?_
    first | refine ix_scr (by first | assumption | rfl | decide | exact Nat.le_of_ble_eq_true rfl | omega | (simp only [List.length_cons, List.length_nil, List.length_map, List.length_append]; omega) | exact hszl | exact hszw | exact Or.inl ⟨by decide, by decide⟩ | exact Or.inr ⟨by decide, by decide⟩ | exact pow_ok (by decide) (by decide) (by omega) (by omega) | exact ⟨by omega, by omega⟩ | exact Or.inl ⟨by omega, by omega⟩) ?_ | refine ix_q rfl (by first | assumption | rfl | decide | exact Nat.le_of_ble_eq_true rfl | omega | (simp only [List.length_cons, List.length_nil, List.length_map, List.length_append]; omega) | exact hszl | exact hszw | exact Or.inl ⟨by decide, by decide⟩ | exact Or.inr ⟨by decide, by decide⟩ | exact pow_ok (by decide) (by decide) (by omega) (by omega) | exact ⟨by omega, by omega⟩ | exact Or.inl ⟨by omega, by omega⟩) ?_ | refine ix_str (by first | assumption | rfl | decide | exact Nat.le_of_ble_eq_true rfl | omega | (simp only [List.length_cons, List.length_nil, List.length_map, List.length_append]; omega) | exact hszl | exact hszw | exact Or.inl ⟨by decide, by decide⟩ | exact Or.inr ⟨by decide, by decide⟩ | exact pow_ok (by decide) (by decide) (by omega) (by omega) | exact ⟨by omega, by omega⟩ | exact Or.inl ⟨by omega, by omega⟩) (by first | assumption | rfl | decide | exact Nat.le_of_ble_eq_true rfl | omega | (simp only [List.length_cons, List.length_nil, List.length_map, List.length_append]; omega) | exact hszl | exact hszw | exact Or.inl ⟨by decide, by decide⟩ | exact Or.inr ⟨by decide, by decide⟩ | exact pow_ok (by decide) (by decide) (by omega) (by omega) | exact ⟨by omega, by omega⟩ | exact Or.inl ⟨by omega, by omega⟩) ?_
    refine ev_int ?_
    refine fdiv_i ?_ (by first | assumption | rfl | decide | exact Nat.le_of_ble_eq_true rfl | omega | (simp only [List.length_cons, List.length_nil, List.length_map, List.length_append]; omega) | exact hszl | exact hszw | exact Or.inl ⟨by decide, by decide⟩ | exact Or.inr ⟨by decide, by decide⟩ | exact pow_ok (by decide) (by decide) (by omega) (by omega) | exact ⟨by omega, by omega⟩ | exact Or.inl ⟨by omega, by omega⟩)
    refine ev_int ?_
    refine pow_i ?_ (by first | assumption | rfl | decide | exact Nat.le_of_ble_eq_true rfl | omega | (simp only [List.length_cons, List.length_nil, List.length_map, List.length_append]; omega) | exact hszl | exact hszw | exact Or.inl ⟨by decide, by decide⟩ | exact Or.inr ⟨by decide, by decide⟩ | exact pow_ok (by decide) (by decide) (by omega) (by omega) | exact ⟨by omega, by omega⟩ | exact Or.inl ⟨by omega, by omega⟩)
    refine ev_int ?_
    refine mod_i ?_ (by first | assumption | rfl | decide | exact Nat.le_of_ble_eq_true rfl | omega | (simp only [List.length_cons, List.length_nil, List.length_map, List.length_append]; omega) | exact hszl | exact hszw | exact Or.inl ⟨by decide, by decide⟩ | exact Or.inr ⟨by decide, by decide⟩ | exact pow_ok (by decide) (by decide) (by omega) (by omega) | exact ⟨by omega, by omega⟩ | exact Or.inl ⟨by omega, by omega⟩)
    refine ev_name 1 rfl ?_
    refine mod_i ?_ (by first | assumption | rfl | decide | exact Nat.le_of_ble_eq_true rfl | omega | (simp only [List.length_cons, List.length_nil, List.length_map, List.length_append]; omega) | exact hszl | exact hszw | exact Or.inl ⟨by decide, by decide⟩ | exact Or.inr ⟨by decide, by decide⟩ | exact pow_ok (by decide) (by decide) (by omega) (by omega) | exact ⟨by omega, by omega⟩ | exact Or.inl ⟨by omega, by omega⟩)
    refine retD rfl (hP _ _ _ ⟨?_, ?_, ?_⟩ ?_ ?_) rfl
    · exact hB.1
    · omega
    · omega
    · exact Int.emod_nonneg _ (by omega)
    · exact Int.emod_lt_of_pos _ hn
end
end K71
set_option maxRecDepth 100000
set_option maxHeartbeats 4000000
namespace K71
open PySem PySem.Spec PyProof.Rows L2 Dv
section
variable {w : World} {K : PySem.W.Frag} {mg : Str → Option Value} {base : Heap}
/-! ### _law_leaf, _law_web -/
def names4 : List Str := ["a", "b", "xyz", "zzzzzzzz"]
def names3 : List Str := ["a", "b", "q"]
def ops1 : List Str := ["load", "neg", "not"]
def ops2 : List Str := ["add", "sub", "mul", "and", "or", "xor"]
theorem strs_at {xs : List Str} {i : Int} (h0 : 0 ≤ i) (h1 : i < (xs.length : Nat)) : ∃ s : Str, atI (xs.map PyData.str) i = some (.str s) ∧ s ∈ xs := by
  obtain ⟨d, h2, h3⟩ := at_some (xs := xs.map PyData.str) h0 (by rw [List.length_map]; exact h1)
  obtain ⟨s, h4, rfl⟩ := List.mem_map.mp h3
  exact ⟨s, h2, h4⟩
theorem ints_at {xs : List Int} {i : Int} (h0 : 0 ≤ i) (h1 : i < (xs.length : Nat)) : ∃ s : Int, atI (xs.map PyData.int) i = some (.int s) ∧ s ∈ xs := by
  obtain ⟨d, h2, h3⟩ := at_some (xs := xs.map PyData.int) h0 (by rw [List.length_map]; exact h1)
  obtain ⟨s, h4, rfl⟩ := List.mem_map.mp h3
  exact ⟨s, h2, h4⟩
theorem ops_at {r : Int} (h0 : 0 ≤ r) (h1 : r < 7) : ∃ s : Str, atI ([.str "add", .str "sub", .str "mul", .str "and", .str "or", .str "xor", .str "add", .str "load"] : List PyData) r = some (.str s) ∧ s ∈ ops2 := by
  have : r = 0 ∨ r = 1 ∨ r = 2 ∨ r = 3 ∨ r = 4 ∨ r = 5 ∨ r = 6 := by omega
  rcases this with rfl | rfl | rfl | rfl | rfl | rfl | rfl <;> exact ⟨_, rfl, by unfold ops2; simp⟩
inductive GN (i : Nat) : Nd → Prop
  | var (s : Str) : s ∈ names4 → GN i ⟨"var", .str s, []⟩
  | num (v : Int) : 0 ≤ v → v ≤ 65535 → GN i ⟨"num", .int v, []⟩
  | one (op : Str) (a : Int) : op ∈ ops1 → 0 ≤ a → a < i → GN i ⟨op, .none, [a]⟩
  | two (op : Str) (a b : Int) : op ∈ ops2 → 0 ≤ a → a < i → 0 ≤ b → b < i → GN i ⟨op, .none, [a, b]⟩
inductive GL (i : Nat) : Nd → Prop
  | put (a b : Int) : 0 ≤ a → a < i → 0 ≤ b → b < i → GL i ⟨"put", .none, [a, b]⟩
  | set (s : Str) (a : Int) : s ∈ names3 → 0 ≤ a → a < i → GL i ⟨"set", .str s, [a]⟩
structure WP (ns : List Nd) (ls ks : List Int) : Prop where
  gn : ∀ (j : Nat) (n : Nd), ns[j]? = some n → GN j n
  rl : ∀ x ∈ ls, 0 ≤ x ∧ x < (ns.length : Nat)
  rk : ∀ x ∈ ks, 0 ≤ x ∧ x < (ns.length : Nat)
  cov : ∀ j : Nat, j < ns.length → (j : Int) ∈ ls ∨ (j : Int) ∈ ks ∨ (j : Int) ∈ allKids ns
theorem WP.nil : WP [] [] [] := ⟨fun j n h => by simp at h, fun x h => by simp at h, fun x h => by simp at h, fun j h => by simp at h⟩
theorem WP.pop {ns : List Nd} {ls ks : List Int} {x : Int} {k : Nat} (h : WP ns ls ks) (hx : ls[k]? = some x) : WP ns (ls.eraseIdx k) (ks ++ [x]) := by
  refine ⟨h.gn, fun y hy => h.rl y (List.mem_of_mem_eraseIdx hy), fun y hy => ?_, fun j hj => ?_⟩
  · rcases List.mem_append.mp hy with hy | hy
    · exact h.rk y hy
    · rw [List.mem_singleton.mp hy]; exact h.rl x (List.mem_of_getElem? hx)
  · rcases h.cov j hj with c | c | c
    · by_cases e : (j : Int) = x
      · exact .inr (.inl (by rw [e]; simp))
      · refine .inl ?_
        obtain ⟨q, hq⟩ := List.getElem?_of_mem c
        refine List.mem_eraseIdx_iff_getElem?.mpr ⟨q, ?_, hq⟩
        rintro rfl
        rw [hx] at hq
        exact e (Option.some.inj hq).symm
    · exact .inr (.inl (List.mem_append_left _ c))
    · exact .inr (.inr c)
theorem WP.more {ns : List Nd} {ls ks : List Int} {y : Int} (h : WP ns ls ks) (h0 : 0 ≤ y) (h1 : y < (ns.length : Nat)) : WP ns ls (ks ++ [y]) := by
  refine ⟨h.gn, h.rl, fun z hz => ?_, fun j hj => ?_⟩
  · rcases List.mem_append.mp hz with hz | hz
    · exact h.rk z hz
    · rw [List.mem_singleton.mp hz]; exact ⟨h0, h1⟩
  · rcases h.cov j hj with c | c | c
    · exact .inl c
    · exact .inr (.inl (List.mem_append_left _ c))
    · exact .inr (.inr c)
theorem WP.rem {ns : List Nd} {ls ks : List Int} {y : Int} (h : WP ns ls ks) (hy : y ∈ ks) : WP ns (ls.erase y) ks := by
  refine ⟨h.gn, fun z hz => h.rl z (List.mem_of_mem_erase hz), h.rk, fun j hj => ?_⟩
  rcases h.cov j hj with c | c | c
  · by_cases e : (j : Int) = y
    · exact .inr (.inl (e ▸ hy))
    · exact .inl ((List.mem_erase_of_ne e).mpr c)
  · exact .inr (.inl c)
  · exact .inr (.inr c)
theorem allKids_app (ns ms : List Nd) : allKids (ns ++ ms) = allKids ns ++ allKids ms := List.flatMap_append
theorem WP.push {ns : List Nd} {ls ks : List Int} {n : Nd} (h : WP ns ls ks) (hn : GN ns.length n) (hk : n.kids = ks) : WP (ns ++ [n]) (ls ++ [((ns.length : Nat) : Int)]) [] := by
  refine ⟨fun j m hm => ?_, fun z hz => ?_, fun z hz => by simp at hz, fun j hj => ?_⟩
  · by_cases hj : j < ns.length
    · rw [List.getElem?_append_left hj] at hm; exact h.gn j m hm
    · have hjl := (List.getElem?_eq_some_iff.mp hm).1
      simp at hjl
      have e : j = ns.length := by omega
      subst e
      rw [List.getElem?_append_right (Nat.le_refl _), Nat.sub_self] at hm
      cases hm
      exact hn
  · rw [List.length_append]
    rcases List.mem_append.mp hz with hz | hz
    · have := h.rl z hz; simp; omega
    · rw [List.mem_singleton.mp hz]; simp; omega
  · rw [allKids_app]
    by_cases hj2 : j < ns.length
    · rcases h.cov j hj2 with c | c | c
      · exact .inl (List.mem_append_left _ c)
      · refine .inr (.inr (List.mem_append_right _ ?_))
        show _ ∈ n.kids ++ []
        rw [List.append_nil, hk]; exact c
      · exact .inr (.inr (List.mem_append_left _ c))
    · simp at hj
      have e : j = ns.length := by omega
      subst e
      exact .inl (by simp)
structure FW (w : List Nd) : Prop where
  ex : ∃ ns l, w = ns ++ [l] ∧ (∀ (j : Nat) (n : Nd), ns[j]? = some n → GN j n) ∧ GL ns.length l ∧ (∀ j : Nat, j < ns.length → (j : Int) ∈ allKids (ns ++ [l])) ∧ 1 ≤ ns.length ∧ ns.length ≤ 32
theorem FW.mk' {ns : List Nd} {l : Nd} {ls : List Int} (h : WP ns ls []) (hl : GL ns.length l) (hk : ∀ x ∈ ls, x ∈ l.kids) (h1 : 1 ≤ ns.length) (h2 : ns.length ≤ 32) : FW (ns ++ [l]) := by
  refine ⟨ns, l, rfl, h.gn, hl, fun j hj => ?_, h1, h2⟩
  rw [allKids_app]
  rcases h.cov j hj with c | c | c
  · refine List.mem_append_right _ ?_
    show _ ∈ l.kids ++ []
    rw [List.append_nil]; exact hk _ c
  · simp at c
  · exact List.mem_append_left _ c
def LeafN (n : Nd) : Prop := (∀ i, GN i n) ∧ n.kids = []
def sp__law_leaf : Dv.Spec := fun sls μ P => ∃ g c : Int, sls = [.obj 0] ∧ μ = [bagM g c] ∧ BagIn g c ∧ ∀ g' c' n, BagIn g' c' → LeafN n → P (.dat n.d) [bagM g' c']
theorem len__law_leaf {sls μ P} (h : sp__law_leaf sls μ P) : sls.length = 1 := by obtain ⟨_, _, rfl, _⟩ := h; rfl

abbrev N__law_leaf : List Str := ["_law_bag_here"]
theorem nd__law_leaf : N__law_leaf.Nodup := by decide +kernel
abbrev s__law_leaf : Stmt := tp 36
theorem sc__law_leaf : FnScope N__law_leaf ["_law_bag_here"] (C8.fnScope s__law_leaf) := C8.fnScope_by (by decide +kernel)
theorem cal__law_leaf (T : Txt w K mg) (c__law_take : Cal PW w K mg base 1 "_law_take" sp__law_take []) {f : Addr} {fd : FuncData} (D : DefD K mg "_law_leaf" s__law_leaf ["_law_bag_here"] [] f fd) : Cal PW w K mg base (1 + 1) "_law_leaf" sp__law_leaf [] := by
  refine cal_data (N := N__law_leaf) D sc__law_leaf (fun sls μ P h => ?_) ?_
  · exact len__law_leaf h
  rintro X ⟨cdv, A, outer, s, H, E, rfl⟩ hr S sls μ Pr hS ⟨g, c, rfl, rfl, hB, hP⟩
  have nd := nd__law_leaf
  have hu := hr.units
  have hu2 := units65 hr
  refine s_cons ?_
  refine s_if ?_
  refine et_cmp (c_eqv hu) rfl ?_
  refine ev_cal c__law_take hr ?_
  refine ea_cons ?_
  refine ev_name 0 rfl ?_
  refine ea_cons ?_
  refine ev_int ?_
  refine ea_nil ?_
  refine callP_o1 rfl rfl ?_
  refine ⟨_, _, _, rfl, rfl, by assumption, by decide, by decide, fun g1 c1 r1 hB1 h01 h11 => ?_⟩
  refine bk_1 ?_
  refine ev_int ?_
  first | refine eq_i ?_ | refine eq_s ?_ | refine eq_v rfl rfl (by first | assumption | rfl | decide | exact Nat.le_of_ble_eq_true rfl | omega | (simp only [List.length_cons, List.length_nil, List.length_map, List.length_append]; omega) | exact hszl | exact hszw | exact Or.inl ⟨by decide, by decide⟩ | exact Or.inr ⟨by decide, by decide⟩ | exact pow_ok (by decide) (by decide) (by omega) (by omega) | exact ⟨by omega, by omega⟩ | exact Or.inl ⟨by omega, by omega⟩) ?_
  refine ⟨_, rfl, ?_⟩
  refine ⟨fun hC => ?_, fun hC => ?_⟩
  · refine s_cons ?_
    refine s_ret ?_
    refine ev_tuple ?_
    refine ea_cons ?_
    refine ev_str ?_
    refine ea_cons ?_
    refine ev_sub (fun _ _ => rfl) ?_
    refine ev_tuple ?_
    refine ea_cons ?_
    refine ev_str ?_
    refine ea_cons ?_
    refine ev_str ?_
    refine ea_cons ?_
    refine ev_str ?_
    refine ea_cons ?_
    refine ev_str ?_
    refine ea_nil ?_
    refine tup_of rfl (by first | assumption | rfl | decide | exact Nat.le_of_ble_eq_true rfl | omega | (simp only [List.length_cons, List.length_nil, List.length_map, List.length_append]; omega) | exact hszl | exact hszw | exact Or.inl ⟨by decide, by decide⟩ | exact Or.inr ⟨by decide, by decide⟩ | exact pow_ok (by decide) (by decide) (by omega) (by omega) | exact ⟨by omega, by omega⟩ | exact Or.inl ⟨by omega, by omega⟩) ?_
    refine ev_cal c__law_take hr ?_
    refine ea_cons ?_
    refine ev_name 0 rfl ?_
    refine ea_cons ?_
    refine ev_int ?_
    refine ea_nil ?_
    refine callP_o1 rfl rfl ?_
    refine ⟨_, _, _, rfl, rfl, by assumption, by decide, by decide, fun g2 c2 r2 hB2 h02 h12 => ?_⟩
    refine bk_1 ?_
    obtain ⟨sx, hsx, hsm⟩ := strs_at (xs := names4) h02 (by unfold names4; exact h12)
    refine ix_q (ds := names4.map PyData.str) ?_ hsx ?_
    · rfl
    refine ea_cons ?_
    refine ev_tuple ?_
    refine ea_nil ?_
    refine tup_of rfl (by first | assumption | rfl | decide | exact Nat.le_of_ble_eq_true rfl | omega | (simp only [List.length_cons, List.length_nil, List.length_map, List.length_append]; omega) | exact hszl | exact hszw | exact Or.inl ⟨by decide, by decide⟩ | exact Or.inr ⟨by decide, by decide⟩ | exact pow_ok (by decide) (by decide) (by omega) (by omega) | exact ⟨by omega, by omega⟩ | exact Or.inl ⟨by omega, by omega⟩) ?_
    refine ea_nil ?_
    refine tup_of rfl (by first | assumption | rfl | decide | exact Nat.le_of_ble_eq_true rfl | omega | (simp only [List.length_cons, List.length_nil, List.length_map, List.length_append]; omega) | exact hszl | exact hszw | exact Or.inl ⟨by decide, by decide⟩ | exact Or.inr ⟨by decide, by decide⟩ | exact pow_ok (by decide) (by decide) (by omega) (by omega) | exact ⟨by omega, by omega⟩ | exact Or.inl ⟨by omega, by omega⟩) ?_
    exact retD rfl (hP _ _ ⟨"var", .str sx, []⟩ (by assumption) ⟨fun i => .var sx hsm, rfl⟩) rfl
  · refine s_nil ?_
    refine s_cons ?_
    refine s_ret ?_
    refine ev_tuple ?_
    refine ea_cons ?_
    refine ev_str ?_
    refine ea_cons ?_
    refine ev_sub (fun _ _ => rfl) ?_
    refine ev_tuple ?_
    refine ea_cons ?_
    refine ev_cal c__law_take hr ?_
    refine ea_cons ?_
    refine ev_name 0 rfl ?_
    refine ea_cons ?_
    refine ev_int ?_
    refine ea_nil ?_
    refine callP_o1 rfl rfl ?_
    refine ⟨_, _, _, rfl, rfl, by assumption, by decide, by decide, fun g3 c3 r3 hB3 h03 h13 => ?_⟩
    refine bk_1 ?_
    refine ea_cons ?_
    refine ev_cal c__law_take hr ?_
    refine ea_cons ?_
    refine ev_name 0 rfl ?_
    refine ea_cons ?_
    refine ev_int ?_
    refine ea_nil ?_
    refine callP_o1 rfl rfl ?_
    refine ⟨_, _, _, rfl, rfl, by assumption, by decide, by decide, fun g4 c4 r4 hB4 h04 h14 => ?_⟩
    refine bk_1 ?_
    refine ea_cons ?_
    refine ev_cal c__law_take hr ?_
    refine ea_cons ?_
    refine ev_name 0 rfl ?_
    refine ea_cons ?_
    refine ev_int ?_
    refine ea_nil ?_
    refine callP_o1 rfl rfl ?_
    refine ⟨_, _, _, rfl, rfl, by assumption, by decide, by decide, fun g5 c5 r5 hB5 h05 h15 => ?_⟩
    refine bk_1 ?_
    refine ea_cons ?_
    refine ev_int ?_
    refine ea_nil ?_
    refine tup_of rfl (by first | assumption | rfl | decide | exact Nat.le_of_ble_eq_true rfl | omega | (simp only [List.length_cons, List.length_nil, List.length_map, List.length_append]; omega) | exact hszl | exact hszw | exact Or.inl ⟨by decide, by decide⟩ | exact Or.inr ⟨by decide, by decide⟩ | exact pow_ok (by decide) (by decide) (by omega) (by omega) | exact ⟨by omega, by omega⟩ | exact Or.inl ⟨by omega, by omega⟩) ?_
    refine ev_cal c__law_take hr ?_
    refine ea_cons ?_
    refine ev_name 0 rfl ?_
    refine ea_cons ?_
    refine ev_int ?_
    refine ea_nil ?_
    refine callP_o1 rfl rfl ?_
    refine ⟨_, _, _, rfl, rfl, by assumption, by decide, by decide, fun g6 c6 r6 hB6 h06 h16 => ?_⟩
    refine bk_1 ?_
    obtain ⟨sv, hsx, hsm⟩ := ints_at (xs := [r3, r4, r5, 65535]) h06 h16
    refine ix_q (ds := [r3, r4, r5, 65535].map PyData.int) ?_ hsx ?_
    · rfl
    have hsr : 0 ≤ sv ∧ sv ≤ 65535 := by simp only [List.mem_cons, List.not_mem_nil, or_false] at hsm; omega
    refine ea_cons ?_
    refine ev_tuple ?_
    refine ea_nil ?_
    refine tup_of rfl (by first | assumption | rfl | decide | exact Nat.le_of_ble_eq_true rfl | omega | (simp only [List.length_cons, List.length_nil, List.length_map, List.length_append]; omega) | exact hszl | exact hszw | exact Or.inl ⟨by decide, by decide⟩ | exact Or.inr ⟨by decide, by decide⟩ | exact pow_ok (by decide) (by decide) (by omega) (by omega) | exact ⟨by omega, by omega⟩ | exact Or.inl ⟨by omega, by omega⟩) ?_
    refine ea_nil ?_
    refine tup_of rfl (by first | assumption | rfl | decide | exact Nat.le_of_ble_eq_true rfl | omega | (simp only [List.length_cons, List.length_nil, List.length_map, List.length_append]; omega) | exact hszl | exact hszw | exact Or.inl ⟨by decide, by decide⟩ | exact Or.inr ⟨by decide, by decide⟩ | exact pow_ok (by decide) (by decide) (by omega) (by omega) | exact ⟨by omega, by omega⟩ | exact Or.inl ⟨by omega, by omega⟩) ?_
    exact retD rfl (hP _ _ ⟨"num", .int sv, []⟩ (by assumption) ⟨fun i => .num sv hsr.1 hsr.2, rfl⟩) rfl
end
end K71
set_option maxRecDepth 100000
set_option maxHeartbeats 4000000
namespace K71
open PySem PySem.Spec PyProof.Rows L2 Dv
section
variable {w : World} {K : PySem.W.Frag} {mg : Str → Option Value} {base : Heap}
def sp__law_web : Dv.Spec := fun sls μ P => ∃ (g c many : Int) (b : Bool), sls = [.obj 0, .dat (.int many), .dat (.bool b)] ∧ μ = [bagM g c] ∧ BagIn g c ∧ 1 ≤ many ∧ many ≤ 16 ∧ ∀ g' c' w, BagIn g' c' → FW w → P (.new (.lst (w.map Nd.d))) [bagM g' c']
theorem len__law_web {sls μ P} (h : sp__law_web sls μ P) : sls.length = 3 := by obtain ⟨_, _, _, _, rfl, _⟩ := h; rfl
def intsM (ls : List Int) : Option MO := some (.lst (ls.map PyData.int))
def nodesM (ns : List Nd) : Option MO := some (.lst (ns.map Nd.d))
theorem two_of {ls : List Int} (h : (((ls.map PyData.int).length : Nat) : Int) = 2) : ∃ a b, ls = [a, b] := by
  rw [List.length_map] at h
  cases ls with
  | nil => simp at h
  | cons a r =>
    cases r with
    | nil => simp at h
    | cons b r =>
      cases r with
      | nil => exact ⟨a, b, rfl⟩
      | cons c r => simp only [List.length_cons] at h; omega
theorem one_of {ls : List Int} (hne : ls ≠ []) (h2 : ls.length ≤ 2) (h : ¬ (((ls.map PyData.int).length : Nat) : Int) = 2) : ∃ a, ls = [a] := by
  rw [List.length_map] at h
  cases ls with
  | nil => exact absurd rfl hne
  | cons a r =>
    cases r with
    | nil => exact ⟨a, rfl⟩
    | cons b r => simp only [List.length_cons] at h h2; omega
theorem len_er {ls : List Int} {k : Nat} {x : Int} (h : ls[k]? = some x) : (ls.eraseIdx k).length + 1 = ls.length := by
  have := (List.getElem?_eq_some_iff.mp h).1
  rw [List.length_eraseIdx]
  split <;> omega
theorem snocD (ns : List Nd) (n : Nd) {d : PyData} (e : d = n.d) : some (MO.lst (ns.map Nd.d ++ [d])) = nodesM (ns ++ [n]) := by unfold nodesM; rw [e, List.map_append]; rfl
theorem snocI (ls : List Int) (i j : Int) (e : i = j) : some (MO.lst (ls.map PyData.int ++ [.int i])) = intsM (ls ++ [j]) := by unfold intsM; rw [e, List.map_append]; rfl
theorem lenI {ls : List Int} (h : ls ≠ []) (h2 : ls.length ≤ 64) : 0 < ((ls.map PyData.int).length : Int) ∧ ((ls.map PyData.int).length : Int) < 1073741824 ∧ 0 < ((ls.length : Nat) : Int) := by
  rw [List.length_map]
  have : 0 < ls.length := List.length_pos_iff.mpr h
  omega
theorem lenN {ns : List Nd} (h : 0 < ns.length) (h2 : ns.length ≤ 64) : 0 < ((ns.map Nd.d).length : Int) ∧ ((ns.map Nd.d).length : Int) < 1073741824 ∧ (ns.map Nd.d).length < sizeLine ∧ (ns.map Nd.d).length + 1 ≤ sizeLine := by
  rw [List.length_map, sizeLine_eq]
  omega
theorem wsz {ns : List Nd} (h2 : ns.length ≤ 64) : (ns.map Nd.d).length < sizeLine := by rw [List.length_map, sizeLine_eq]; omega
theorem lsz {ls : List Int} (h2 : ls.length ≤ 64) : (ls.map PyData.int).length < sizeLine := by rw [List.length_map, sizeLine_eq]; omega
def InvF (many : Int) (b : Bool) (i : Nat) (ρ : Dv.Env) (μ : Mu) : Prop := ∃ g c ns ls, BagIn g c ∧ WP ns ls [] ∧ ns.length = i ∧ ls.length ≤ i ∧ (0 < i → ls ≠ []) ∧ ρ = [some (.obj 0), some (.dat (.int many)), some (.dat (.bool b)), some (.obj 1), some (.obj 2), none, none, none, none, none, none] ∧ μ = [bagM g c, nodesM ns, intsM ls]
def MidW (many : Int) (b : Bool) (i : Nat) (ρ : Dv.Env) (μ : Mu) : Prop := ∃ g c ns ls ks n, BagIn g c ∧ WP ns ls ks ∧ GN ns.length n ∧ n.kids = ks ∧ ns.length = i ∧ ls.length ≤ i ∧ ρ = [some (.obj 0), some (.dat (.int many)), some (.dat (.bool b)), some (.obj 1), some (.obj 2), none, none, none, none, none, none] ∧ μ = [bagM g c, nodesM (ns ++ [n]), intsM ls]
def MidK (many : Int) (b : Bool) (i : Nat) (ρ : Dv.Env) (μ : Mu) : Prop := ∃ g c ns ls ks, BagIn g c ∧ WP ns ls ks ∧ ((∃ x, ks = [x]) ∨ ∃ x y, ks = [x, y]) ∧ ns.length = i ∧ ls.length ≤ i ∧ ρ = [some (.obj 0), some (.dat (.int many)), some (.dat (.bool b)), some (.obj 1), some (.obj 2), none, none, none, none, some (.obj 3), none] ∧ μ = [bagM g c, nodesM ns, intsM ls, intsM ks]
def InvW (many : Int) (b : Bool) (m : Nat) (ρ : Dv.Env) (μ : Mu) : Prop := ∃ g c ns ls, BagIn g c ∧ WP ns ls [] ∧ ls ≠ [] ∧ ls.length = m ∧ ns.length + ls.length ≤ 32 ∧ 1 ≤ ns.length ∧ ρ = [some (.obj 0), some (.dat (.int many)), some (.dat (.bool b)), some (.obj 1), some (.obj 2), none, none, none, none, none, none] ∧ μ = [bagM g c, nodesM ns, intsM ls]

def opsW : List Str := ["add", "xor"]
theorem opsW_2 {s : Str} (h : s ∈ opsW) : s ∈ ops2 := by unfold opsW at h; unfold ops2; simp at h ⊢; rcases h with rfl | rfl <;> simp
abbrev N__law_web : List Str := ["_law_bag_here", "_law_many", "_law_shared", "_law_web_here", "_law_loose", "_law_k", "_law_way", "_law_kid", "_law_first", "_law_kids", "_law_op"]
theorem nd__law_web : N__law_web.Nodup := by decide +kernel
abbrev s__law_web : Stmt := tp 37
theorem sc__law_web : FnScope N__law_web ["_law_bag_here", "_law_many", "_law_shared"] (C8.fnScope s__law_web) := C8.fnScope_by (by decide +kernel)
theorem cal__law_web (T : Txt w K mg) (c__law_take : Cal PW w K mg base 1 "_law_take" sp__law_take []) (c__law_leaf : Cal PW w K mg base 2 "_law_leaf" sp__law_leaf []) {f : Addr} {fd : FuncData} (D : DefD K mg "_law_web" s__law_web ["_law_bag_here", "_law_many", "_law_shared"] [] f fd) : Cal PW w K mg base (2 + 1) "_law_web" sp__law_web [] := by
  refine cal_data (N := N__law_web) D sc__law_web (fun sls μ P h => ?_) ?_
  · exact len__law_web h
  rintro X ⟨cdv, A, outer, s, H, E, rfl⟩ hr S sls μ Pr hS ⟨g, c, many, b, rfl, rfl, hB, hm1, hm16, hP⟩
  have nd := nd__law_web
  have hu := hr.units
  have hu2 := units65 hr
  refine s_cons ?_
  refine s_par 3 4 rfl nd ?_
  refine ea_cons ?_
  refine ev_list ?_
  refine ea_nil ?_
  refine lst_of rfl (by first | assumption | rfl | decide | exact Nat.le_of_ble_eq_true rfl | omega | (simp only [List.length_cons, List.length_nil, List.length_map, List.length_append]; omega) | exact hszl | exact hszw | exact Or.inl ⟨by decide, by decide⟩ | exact Or.inr ⟨by decide, by decide⟩ | exact pow_ok (by decide) (by decide) (by omega) (by omega) | exact ⟨by omega, by omega⟩ | exact Or.inl ⟨by omega, by omega⟩) ?_
  refine ea_cons ?_
  refine ev_list ?_
  refine ea_nil ?_
  refine lst_of rfl (by first | assumption | rfl | decide | exact Nat.le_of_ble_eq_true rfl | omega | (simp only [List.length_cons, List.length_nil, List.length_map, List.length_append]; omega) | exact hszl | exact hszw | exact Or.inl ⟨by decide, by decide⟩ | exact Or.inr ⟨by decide, by decide⟩ | exact pow_ok (by decide) (by decide) (by omega) (by omega) | exact ⟨by omega, by omega⟩ | exact Or.inl ⟨by omega, by omega⟩) ?_
  refine ea_nil ?_
  refine ⟨_, _, rfl, ?_⟩
  refine s_cons ?_
  refine s_for [5] rfl ?_
  refine iv_range1 T.z_range ?_
  refine ea_cons ?_
  refine ev_name 1 rfl ?_
  refine ea_nil ?_
  refine ⟨_, rfl, by first | assumption | rfl | decide | exact Nat.le_of_ble_eq_true rfl | omega | (simp only [List.length_cons, List.length_nil, List.length_map, List.length_append]; omega) | exact hszl | exact hszw | exact Or.inl ⟨by decide, by decide⟩ | exact Or.inr ⟨by decide, by decide⟩ | exact pow_ok (by decide) (by decide) (by omega) (by omega) | exact ⟨by omega, by omega⟩ | exact Or.inl ⟨by omega, by omega⟩, by first | assumption | rfl | decide | exact Nat.le_of_ble_eq_true rfl | omega | (simp only [List.length_cons, List.length_nil, List.length_map, List.length_append]; omega) | exact hszl | exact hszw | exact Or.inl ⟨by decide, by decide⟩ | exact Or.inr ⟨by decide, by decide⟩ | exact pow_ok (by decide) (by decide) (by omega) (by omega) | exact ⟨by omega, by omega⟩ | exact Or.inl ⟨by omega, by omega⟩, ?_⟩
  refine ⟨InvF many b, ⟨g, c, [], [], hB, WP.nil, rfl, Nat.le_refl _, fun z => absurd z (by decide), rfl, rfl⟩, fun S2 hAs i d ρ2 μ2 hd hin => ?_, fun ρ2 μ2 hin => ?_⟩
  · obtain ⟨hi, rfl⟩ := rangeD_get hd
    obtain ⟨g0, c0, ns, ls, hB0, hW, hl1, hl2, hl3, rfl, rfl⟩ := hin
    have hi16 : i < 16 := by omega
    refine ag_name 5 nd ?_ (by decide)
    refine s_cons ?_
    refine s_set 6 nd ?_
    refine ev_cal c__law_take hr ?_
    refine ea_cons ?_
    refine ev_name 0 rfl ?_
    refine ea_cons ?_
    refine ev_int ?_
    refine ea_nil ?_
    refine callP_o1 rfl rfl ?_
    refine ⟨_, _, _, rfl, rfl, by assumption, by decide, by decide, fun g7 c7 r7 hB7 h07 h17 => ?_⟩
    refine bk_1 ?_
    refine s_cut (fun ρm μm => MidW many b i ρm μm) ?_ (fun ρm μm hM => ?_)
    · refine' s_ifP ?h681 (fun hC => ?h682) (fun hC => ?h683)
      case h681 =>
        refine et_of_ew ?_
        refine' ew_orP ?h691 (fun hA => ?h692) ?h693
        case h691 =>
          refine Et.trim ?_
          refine et_cmp (c_eqv hu) rfl ?_
          refine ev_name 4 rfl ?_
          refine ev_list ?_
          refine ea_nil ?_
          refine lst_of rfl (by first | assumption | rfl | decide | exact Nat.le_of_ble_eq_true rfl | omega | (simp only [List.length_cons, List.length_nil, List.length_map, List.length_append]; omega) | exact hszl | exact hszw | exact Or.inl ⟨by decide, by decide⟩ | exact Or.inr ⟨by decide, by decide⟩ | exact pow_ok (by decide) (by decide) (by omega) (by omega) | exact ⟨by omega, by omega⟩ | exact Or.inl ⟨by omega, by omega⟩) ?_
          refine eq_nil (ls := ls) ?_ rfl ?_
          · rfl
          refine ⟨_, rfl, ?_⟩
          exact ⟨rfl, rfl⟩
        case h692 =>
          refine ew_or1 ?_
          refine et_cmp (c_eqv hu) rfl ?_
          refine ev_name 6 rfl ?_
          refine ev_int ?_
          first | refine eq_i ?_ | refine eq_s ?_ | refine eq_v rfl rfl (by first | assumption | rfl | decide | exact Nat.le_of_ble_eq_true rfl | omega | (simp only [List.length_cons, List.length_nil, List.length_map, List.length_append]; omega) | exact hszl | exact hszw | exact Or.inl ⟨by decide, by decide⟩ | exact Or.inr ⟨by decide, by decide⟩ | exact pow_ok (by decide) (by decide) (by omega) (by omega) | exact ⟨by omega, by omega⟩ | exact Or.inl ⟨by omega, by omega⟩) ?_
          refine ⟨_, rfl, ?_⟩
          exact ⟨rfl, rfl⟩
        case h693 =>
          exact ⟨rfl, rfl⟩
      case h682 =>
        have hszw := wsz (ns := ns) (by omega)
        refine s_cons ?_
        refine s_expr ?_
        refine e_append ?_
        refine ev_name 3 rfl ?_
        refine ⟨_, _, rfl, rfl, ?_⟩
        refine ev_cal c__law_leaf hr ?_
        refine ea_cons ?_
        refine ev_name 0 rfl ?_
        refine ea_nil ?_
        refine callP_o1 rfl rfl ?_
        refine ⟨_, _, rfl, rfl, by assumption, fun g8 c8 n8 hB8 hn8 => ?_⟩
        refine bk_1 ?_
        refine ⟨_, _, rfl, rfl, by first | assumption | rfl | decide | exact Nat.le_of_ble_eq_true rfl | omega | (simp only [List.length_cons, List.length_nil, List.length_map, List.length_append]; omega) | exact hszl | exact hszw | exact Or.inl ⟨by decide, by decide⟩ | exact Or.inr ⟨by decide, by decide⟩ | exact pow_ok (by decide) (by decide) (by omega) (by omega) | exact ⟨by omega, by omega⟩ | exact Or.inl ⟨by omega, by omega⟩, ?_⟩
        refine s_keep [true, true, true, true, true, false, false, false, false, false, false] 3 (by rw [hAs, hS]; exact Nat.le_of_ble_eq_true rfl) ?_
        refine s_nil ?_
        refine ⟨_, _, ns, ls, [], n8, by assumption, hW, hn8.1 _, hn8.2, hl1, hl2, rfl, ?_⟩
        exact congrArg (fun z => [_, z, _]) (snocD ns n8 rfl)
      case h683 =>
        have hne : ls ≠ [] := by intro z; rw [decide_eq_true z] at hC; cases hC
        obtain ⟨hl0, hl9, hl8⟩ := lenI hne (by omega)
        have hszw := wsz (ns := ns) (by omega)
        have hnp : 0 < ns.length := by have := List.length_pos_iff.mpr hne; omega
        obtain ⟨hm0, hm9, _, _⟩ := lenN hnp (by omega)
        have hk6 : ∀ k x, ls[k]? = some x → (ls.eraseIdx k).length ≤ ns.length := fun k x hx => by have := (List.getElem?_eq_some_iff.mp hx).1; rw [List.length_eraseIdx]; split <;> omega
        refine s_cons ?_
        refine' s_ifP ?h701 (fun hC => ?h702) (fun hC => ?h703)
        case h701 =>
          refine et_cmp (c_eqv hu) rfl ?_
          refine ev_name 6 rfl ?_
          refine ev_int ?_
          first | refine eq_i ?_ | refine eq_s ?_ | refine eq_v rfl rfl (by first | assumption | rfl | decide | exact Nat.le_of_ble_eq_true rfl | omega | (simp only [List.length_cons, List.length_nil, List.length_map, List.length_append]; omega) | exact hszl | exact hszw | exact Or.inl ⟨by decide, by decide⟩ | exact Or.inr ⟨by decide, by decide⟩ | exact pow_ok (by decide) (by decide) (by omega) (by omega) | exact ⟨by omega, by omega⟩ | exact Or.inl ⟨by omega, by omega⟩) ?_
          refine ⟨_, rfl, ?_⟩
          exact ⟨rfl, rfl⟩
        case h702 =>
          refine s_cons ?_
          refine s_set 7 nd ?_
          refine e_popInt ?_
          refine ev_name 4 rfl ?_
          refine ⟨_, _, rfl, rfl, ?_⟩
          refine ev_cal c__law_take hr ?_
          refine ea_cons ?_
          refine ev_name 0 rfl ?_
          refine ea_cons ?_
          refine e_len T.z_len ?_
          refine ev_name 4 rfl ?_
          refine ⟨_, rfl, by first | exact True.intro | first | assumption | rfl | decide | exact Nat.le_of_ble_eq_true rfl | omega | (simp only [List.length_cons, List.length_nil, List.length_map, List.length_append]; omega) | exact hszl | exact hszw | exact Or.inl ⟨by decide, by decide⟩ | exact Or.inr ⟨by decide, by decide⟩ | exact pow_ok (by decide) (by decide) (by omega) (by omega) | exact ⟨by omega, by omega⟩ | exact Or.inl ⟨by omega, by omega⟩, ?_⟩
          refine ea_nil ?_
          refine callP_o1 rfl rfl ?_
          refine ⟨_, _, _, rfl, rfl, by assumption, hl0, hl9, fun g9 c9 r9 hB9 h09 h19 => ?_⟩
          refine bk_1 ?_
          refine ⟨_, _, rfl, rfl, h09, by simpa using h19, by have := h19; simp at this; omega, fun x1 hx1 => ?_⟩
          refine s_cons ?_
          refine s_expr ?_
          refine e_append ?_
          refine ev_name 3 rfl ?_
          refine ⟨_, _, rfl, rfl, ?_⟩
          refine ev_tuple ?_
          refine ea_cons ?_
          refine ev_sub (fun _ _ => rfl) ?_
          refine ev_tuple ?_
          refine ea_cons ?_
          refine ev_str ?_
          refine ea_cons ?_
          refine ev_str ?_
          refine ea_cons ?_
          refine ev_str ?_
          refine ea_nil ?_
          refine tup_of rfl (by first | assumption | rfl | decide | exact Nat.le_of_ble_eq_true rfl | omega | (simp only [List.length_cons, List.length_nil, List.length_map, List.length_append]; omega) | exact hszl | exact hszw | exact Or.inl ⟨by decide, by decide⟩ | exact Or.inr ⟨by decide, by decide⟩ | exact pow_ok (by decide) (by decide) (by omega) (by omega) | exact ⟨by omega, by omega⟩ | exact Or.inl ⟨by omega, by omega⟩) ?_
          refine ev_cal c__law_take hr ?_
          refine ea_cons ?_
          refine ev_name 0 rfl ?_
          refine ea_cons ?_
          refine ev_int ?_
          refine ea_nil ?_
          refine callP_o1 rfl rfl ?_
          refine ⟨_, _, _, rfl, rfl, by assumption, by decide, by decide, fun g10 c10 r10 hB10 h010 h110 => ?_⟩
          refine bk_1 ?_
          obtain ⟨sx, hsx, hsm⟩ := strs_at (xs := ops1) h010 (by unfold ops1; exact h110)
          refine ix_q (ds := ops1.map PyData.str) ?_ hsx ?_
          · rfl
          refine ea_cons ?_
          refine ev_none ?_
          refine ea_cons ?_
          refine ev_tuple ?_
          refine ea_cons ?_
          refine ev_name 7 rfl ?_
          refine ea_nil ?_
          refine tup_of rfl (by first | assumption | rfl | decide | exact Nat.le_of_ble_eq_true rfl | omega | (simp only [List.length_cons, List.length_nil, List.length_map, List.length_append]; omega) | exact hszl | exact hszw | exact Or.inl ⟨by decide, by decide⟩ | exact Or.inr ⟨by decide, by decide⟩ | exact pow_ok (by decide) (by decide) (by omega) (by omega) | exact ⟨by omega, by omega⟩ | exact Or.inl ⟨by omega, by omega⟩) ?_
          refine ea_nil ?_
          refine tup_of rfl (by first | assumption | rfl | decide | exact Nat.le_of_ble_eq_true rfl | omega | (simp only [List.length_cons, List.length_nil, List.length_map, List.length_append]; omega) | exact hszl | exact hszw | exact Or.inl ⟨by decide, by decide⟩ | exact Or.inr ⟨by decide, by decide⟩ | exact pow_ok (by decide) (by decide) (by omega) (by omega) | exact ⟨by omega, by omega⟩ | exact Or.inl ⟨by omega, by omega⟩) ?_
          refine ⟨_, _, rfl, rfl, by first | assumption | rfl | decide | exact Nat.le_of_ble_eq_true rfl | omega | (simp only [List.length_cons, List.length_nil, List.length_map, List.length_append]; omega) | exact hszl | exact hszw | exact Or.inl ⟨by decide, by decide⟩ | exact Or.inr ⟨by decide, by decide⟩ | exact pow_ok (by decide) (by decide) (by omega) (by omega) | exact ⟨by omega, by omega⟩ | exact Or.inl ⟨by omega, by omega⟩, ?_⟩
          refine s_nil ?_
          refine s_keep [true, true, true, true, true, false, false, false, false, false, false] 3 (by rw [hAs, hS]; exact Nat.le_of_ble_eq_true rfl) ?_
          refine s_nil ?_
          refine ⟨_, _, ns, _, [x1], ⟨sx, .none, [x1]⟩, by assumption, hW.pop hx1, .one sx x1 hsm (hW.rl _ (List.mem_of_getElem? hx1)).1 (hW.rl _ (List.mem_of_getElem? hx1)).2, rfl, hl1, by have := hk6 _ _ hx1; omega, rfl, ?_⟩
          exact congrArg (fun z => [_, z, _]) (snocD ns ⟨sx, .none, [x1]⟩ rfl)
        case h703 =>
          refine s_cons ?_
          refine s_set 8 nd ?_
          refine e_popInt ?_
          refine ev_name 4 rfl ?_
          refine ⟨_, _, rfl, rfl, ?_⟩
          refine ev_cal c__law_take hr ?_
          refine ea_cons ?_
          refine ev_name 0 rfl ?_
          refine ea_cons ?_
          refine e_len T.z_len ?_
          refine ev_name 4 rfl ?_
          refine ⟨_, rfl, by first | exact True.intro | first | assumption | rfl | decide | exact Nat.le_of_ble_eq_true rfl | omega | (simp only [List.length_cons, List.length_nil, List.length_map, List.length_append]; omega) | exact hszl | exact hszw | exact Or.inl ⟨by decide, by decide⟩ | exact Or.inr ⟨by decide, by decide⟩ | exact pow_ok (by decide) (by decide) (by omega) (by omega) | exact ⟨by omega, by omega⟩ | exact Or.inl ⟨by omega, by omega⟩, ?_⟩
          refine ea_nil ?_
          refine callP_o1 rfl rfl ?_
          refine ⟨_, _, _, rfl, rfl, by assumption, hl0, hl9, fun g11 c11 r11 hB11 h011 h111 => ?_⟩
          refine bk_1 ?_
          refine ⟨_, _, rfl, rfl, h011, by simpa using h111, by have := h111; simp at this; omega, fun x2 hx2 => ?_⟩
          refine s_cons ?_
          refine s_set 9 nd ?_
          refine ev_list ?_
          refine ea_cons ?_
          refine ev_name 8 rfl ?_
          refine ea_nil ?_
          refine lst_of rfl (by first | assumption | rfl | decide | exact Nat.le_of_ble_eq_true rfl | omega | (simp only [List.length_cons, List.length_nil, List.length_map, List.length_append]; omega) | exact hszl | exact hszw | exact Or.inl ⟨by decide, by decide⟩ | exact Or.inr ⟨by decide, by decide⟩ | exact pow_ok (by decide) (by decide) (by omega) (by omega) | exact ⟨by omega, by omega⟩ | exact Or.inl ⟨by omega, by omega⟩) ?_
          refine s_cut (fun ρm μm => MidK many b i ρm μm) ?_ (fun ρm μm hM => ?_)
          · refine s_if ?_
            refine et_of_ew (ew_and ?_)
            refine et_val ?_
            refine ev_name 2 rfl ?_
            refine ⟨_, rfl, ?_⟩
            refine ⟨fun hS1 => ?_, fun hS1 => ?_⟩
            · refine ew_and1 ?_
              refine et_cmp (c_eqv hu) rfl ?_
              refine ev_cal c__law_take hr ?_
              refine ea_cons ?_
              refine ev_name 0 rfl ?_
              refine ea_cons ?_
              refine ev_int ?_
              refine ea_nil ?_
              refine callP_o1 rfl rfl ?_
              refine ⟨_, _, _, rfl, rfl, by assumption, by decide, by decide, fun g12 c12 r12 hB12 h012 h112 => ?_⟩
              refine bk_1 ?_
              refine ev_int ?_
              first | refine eq_i ?_ | refine eq_s ?_ | refine eq_v rfl rfl (by first | assumption | rfl | decide | exact Nat.le_of_ble_eq_true rfl | omega | (simp only [List.length_cons, List.length_nil, List.length_map, List.length_append]; omega) | exact hszl | exact hszw | exact Or.inl ⟨by decide, by decide⟩ | exact Or.inr ⟨by decide, by decide⟩ | exact pow_ok (by decide) (by decide) (by omega) (by omega) | exact ⟨by omega, by omega⟩ | exact Or.inl ⟨by omega, by omega⟩) ?_
              refine ⟨_, rfl, ?_⟩
              refine ⟨fun hC => ?_, fun hC => ?_⟩
              · refine s_cons ?_
                refine s_expr ?_
                refine e_append ?_
                refine ev_name 9 rfl ?_
                refine ⟨_, _, rfl, rfl, ?_⟩
                refine ev_cal c__law_take hr ?_
                refine ea_cons ?_
                refine ev_name 0 rfl ?_
                refine ea_cons ?_
                refine e_len T.z_len ?_
                refine ev_name 3 rfl ?_
                refine ⟨_, rfl, by first | exact True.intro | first | assumption | rfl | decide | exact Nat.le_of_ble_eq_true rfl | omega | (simp only [List.length_cons, List.length_nil, List.length_map, List.length_append]; omega) | exact hszl | exact hszw | exact Or.inl ⟨by decide, by decide⟩ | exact Or.inr ⟨by decide, by decide⟩ | exact pow_ok (by decide) (by decide) (by omega) (by omega) | exact ⟨by omega, by omega⟩ | exact Or.inl ⟨by omega, by omega⟩, ?_⟩
                refine ea_nil ?_
                refine callP_o1 rfl rfl ?_
                refine ⟨_, _, _, rfl, rfl, by assumption, hm0, hm9, fun g13 c13 r13 hB13 h013 h113 => ?_⟩
                refine bk_1 ?_
                refine ⟨_, _, rfl, rfl, by first | assumption | rfl | decide | exact Nat.le_of_ble_eq_true rfl | omega | (simp only [List.length_cons, List.length_nil, List.length_map, List.length_append]; omega) | exact hszl | exact hszw | exact Or.inl ⟨by decide, by decide⟩ | exact Or.inr ⟨by decide, by decide⟩ | exact pow_ok (by decide) (by decide) (by omega) (by omega) | exact ⟨by omega, by omega⟩ | exact Or.inl ⟨by omega, by omega⟩, ?_⟩
                refine s_keep [true, true, true, true, true, false, false, false, false, true, false] 4 (by rw [hAs, hS]; exact Nat.le_of_ble_eq_true rfl) ?_
                refine s_nil ?_
                refine ⟨_, _, ns, _, [x2, r13], by assumption, (hW.pop hx2).more h013 (by simpa using h113), .inr ⟨_, _, rfl⟩, hl1, by have := hk6 _ _ hx2; omega, rfl, rfl⟩
              · refine s_cons ?_
                refine' s_ifP ?h711 (fun hC => ?h712) (fun hC => ?h713)
                case h711 =>
                  refine Et.trim ?_
                  refine et_cmp (c_neqv hu) rfl ?_
                  refine ev_name 4 rfl ?_
                  refine ev_list ?_
                  refine ea_nil ?_
                  refine lst_of rfl (by first | assumption | rfl | decide | exact Nat.le_of_ble_eq_true rfl | omega | (simp only [List.length_cons, List.length_nil, List.length_map, List.length_append]; omega) | exact hszl | exact hszw | exact Or.inl ⟨by decide, by decide⟩ | exact Or.inr ⟨by decide, by decide⟩ | exact pow_ok (by decide) (by decide) (by omega) (by omega) | exact ⟨by omega, by omega⟩ | exact Or.inl ⟨by omega, by omega⟩) ?_
                  refine ne_nil (ls := ls.eraseIdx r11.toNat) ?_ rfl ?_
                  · rfl
                  refine ⟨_, rfl, ?_⟩
                  exact ⟨rfl, rfl⟩
                case h712 =>
                  have hne2 : ls.eraseIdx r11.toNat ≠ [] := fun z => by rw [decide_eq_true z] at hC; cases hC
                  obtain ⟨hq0, hq9, hq8⟩ := lenI hne2 (by have := hk6 _ _ hx2; omega)
                  refine s_cons ?_
                  refine s_expr ?_
                  refine e_append ?_
                  refine ev_name 9 rfl ?_
                  refine ⟨_, _, rfl, rfl, ?_⟩
                  refine e_popInt ?_
                  refine ev_name 4 rfl ?_
                  refine ⟨_, _, rfl, rfl, ?_⟩
                  refine ev_cal c__law_take hr ?_
                  refine ea_cons ?_
                  refine ev_name 0 rfl ?_
                  refine ea_cons ?_
                  refine e_len T.z_len ?_
                  refine ev_name 4 rfl ?_
                  refine ⟨_, rfl, by first | exact True.intro | first | assumption | rfl | decide | exact Nat.le_of_ble_eq_true rfl | omega | (simp only [List.length_cons, List.length_nil, List.length_map, List.length_append]; omega) | exact hszl | exact hszw | exact Or.inl ⟨by decide, by decide⟩ | exact Or.inr ⟨by decide, by decide⟩ | exact pow_ok (by decide) (by decide) (by omega) (by omega) | exact ⟨by omega, by omega⟩ | exact Or.inl ⟨by omega, by omega⟩, ?_⟩
                  refine ea_nil ?_
                  refine callP_o1 rfl rfl ?_
                  refine ⟨_, _, _, rfl, rfl, by assumption, hq0, hq9, fun g14 c14 r14 hB14 h014 h114 => ?_⟩
                  refine bk_1 ?_
                  refine ⟨_, _, rfl, rfl, h014, by simpa using h114, by have := h114; simp at this; omega, fun x3 hx3 => ?_⟩
                  refine ⟨_, _, rfl, rfl, by first | assumption | rfl | decide | exact Nat.le_of_ble_eq_true rfl | omega | (simp only [List.length_cons, List.length_nil, List.length_map, List.length_append]; omega) | exact hszl | exact hszw | exact Or.inl ⟨by decide, by decide⟩ | exact Or.inr ⟨by decide, by decide⟩ | exact pow_ok (by decide) (by decide) (by omega) (by omega) | exact ⟨by omega, by omega⟩ | exact Or.inl ⟨by omega, by omega⟩, ?_⟩
                  refine s_nil ?_
                  refine s_keep [true, true, true, true, true, false, false, false, false, true, false] 4 (by rw [hAs, hS]; exact Nat.le_of_ble_eq_true rfl) ?_
                  refine s_nil ?_
                  refine ⟨_, _, ns, _, [x2, x3], by assumption, (hW.pop hx2).pop hx3, .inr ⟨_, _, rfl⟩, hl1, by have := hk6 _ _ hx2; rw [List.length_eraseIdx]; split <;> omega, rfl, rfl⟩
                case h713 =>
                  refine s_nil ?_
                  refine s_keep [true, true, true, true, true, false, false, false, false, true, false] 4 (by rw [hAs, hS]; exact Nat.le_of_ble_eq_true rfl) ?_
                  refine s_nil ?_
                  refine ⟨_, _, ns, _, [x2], by assumption, hW.pop hx2, .inl ⟨_, rfl⟩, hl1, by have := hk6 _ _ hx2; omega, rfl, rfl⟩
            · refine ⟨fun hC => (by cases hC), fun hC => ?_⟩
              refine s_cons ?_
              refine' s_ifP ?h721 (fun hC => ?h722) (fun hC => ?h723)
              case h721 =>
                refine Et.trim ?_
                refine et_cmp (c_neqv hu) rfl ?_
                refine ev_name 4 rfl ?_
                refine ev_list ?_
                refine ea_nil ?_
                refine lst_of rfl (by first | assumption | rfl | decide | exact Nat.le_of_ble_eq_true rfl | omega | (simp only [List.length_cons, List.length_nil, List.length_map, List.length_append]; omega) | exact hszl | exact hszw | exact Or.inl ⟨by decide, by decide⟩ | exact Or.inr ⟨by decide, by decide⟩ | exact pow_ok (by decide) (by decide) (by omega) (by omega) | exact ⟨by omega, by omega⟩ | exact Or.inl ⟨by omega, by omega⟩) ?_
                refine ne_nil (ls := ls.eraseIdx r11.toNat) ?_ rfl ?_
                · rfl
                refine ⟨_, rfl, ?_⟩
                exact ⟨rfl, rfl⟩
              case h722 =>
                have hne2 : ls.eraseIdx r11.toNat ≠ [] := fun z => by rw [decide_eq_true z] at hC; cases hC
                obtain ⟨hq0, hq9, hq8⟩ := lenI hne2 (by have := hk6 _ _ hx2; omega)
                refine s_cons ?_
                refine s_expr ?_
                refine e_append ?_
                refine ev_name 9 rfl ?_
                refine ⟨_, _, rfl, rfl, ?_⟩
                refine e_popInt ?_
                refine ev_name 4 rfl ?_
                refine ⟨_, _, rfl, rfl, ?_⟩
                refine ev_cal c__law_take hr ?_
                refine ea_cons ?_
                refine ev_name 0 rfl ?_
                refine ea_cons ?_
                refine e_len T.z_len ?_
                refine ev_name 4 rfl ?_
                refine ⟨_, rfl, by first | exact True.intro | first | assumption | rfl | decide | exact Nat.le_of_ble_eq_true rfl | omega | (simp only [List.length_cons, List.length_nil, List.length_map, List.length_append]; omega) | exact hszl | exact hszw | exact Or.inl ⟨by decide, by decide⟩ | exact Or.inr ⟨by decide, by decide⟩ | exact pow_ok (by decide) (by decide) (by omega) (by omega) | exact ⟨by omega, by omega⟩ | exact Or.inl ⟨by omega, by omega⟩, ?_⟩
                refine ea_nil ?_
                refine callP_o1 rfl rfl ?_
                refine ⟨_, _, _, rfl, rfl, by assumption, hq0, hq9, fun g15 c15 r15 hB15 h015 h115 => ?_⟩
                refine bk_1 ?_
                refine ⟨_, _, rfl, rfl, h015, by simpa using h115, by have := h115; simp at this; omega, fun x4 hx4 => ?_⟩
                refine ⟨_, _, rfl, rfl, by first | assumption | rfl | decide | exact Nat.le_of_ble_eq_true rfl | omega | (simp only [List.length_cons, List.length_nil, List.length_map, List.length_append]; omega) | exact hszl | exact hszw | exact Or.inl ⟨by decide, by decide⟩ | exact Or.inr ⟨by decide, by decide⟩ | exact pow_ok (by decide) (by decide) (by omega) (by omega) | exact ⟨by omega, by omega⟩ | exact Or.inl ⟨by omega, by omega⟩, ?_⟩
                refine s_nil ?_
                refine s_keep [true, true, true, true, true, false, false, false, false, true, false] 4 (by rw [hAs, hS]; exact Nat.le_of_ble_eq_true rfl) ?_
                refine s_nil ?_
                refine ⟨_, _, ns, _, [x2, x4], by assumption, (hW.pop hx2).pop hx4, .inr ⟨_, _, rfl⟩, hl1, by have := hk6 _ _ hx2; rw [List.length_eraseIdx]; split <;> omega, rfl, rfl⟩
              case h723 =>
                refine s_nil ?_
                refine s_keep [true, true, true, true, true, false, false, false, false, true, false] 4 (by rw [hAs, hS]; exact Nat.le_of_ble_eq_true rfl) ?_
                refine s_nil ?_
                refine ⟨_, _, ns, _, [x2], by assumption, hW.pop hx2, .inl ⟨_, rfl⟩, hl1, by have := hk6 _ _ hx2; omega, rfl, rfl⟩
          · obtain ⟨g8, c8, ns, ls, ks, hB8, hW, hk2, hl1, hl2, rfl, rfl⟩ := hM
            have hszw := wsz (ns := ns) (by omega)
            rcases hk2 with ⟨xa, rfl⟩ | ⟨xa, xb, rfl⟩
            · refine s_cons ?_
              refine' s_ifP ?h731 (fun hC => ?h732) (fun hC => ?h733)
              case h731 =>
                refine et_of_ew ?_
                refine ew_andF ?_ ?_
                · refine Et.trim ?_
                  refine et_cmp (c_neqv hu) rfl ?_
                  refine ev_slice ?_
                  refine ev_name 9 rfl ?_
                  refine ev_int ?_
                  refine ⟨_, rfl, ?_⟩
                  first | refine ⟨by first | assumption | rfl | decide | exact Nat.le_of_ble_eq_true rfl | omega | (simp only [List.length_cons, List.length_nil, List.length_map, List.length_append]; omega) | exact hszl | exact hszw | exact Or.inl ⟨by decide, by decide⟩ | exact Or.inr ⟨by decide, by decide⟩ | exact pow_ok (by decide) (by decide) (by omega) (by omega) | exact ⟨by omega, by omega⟩ | exact Or.inl ⟨by omega, by omega⟩, ?_⟩ | refine ⟨_, rfl, ?_⟩
                  refine ev_list ?_
                  refine ea_nil ?_
                  refine lst_of rfl (by first | assumption | rfl | decide | exact Nat.le_of_ble_eq_true rfl | omega | (simp only [List.length_cons, List.length_nil, List.length_map, List.length_append]; omega) | exact hszl | exact hszw | exact Or.inl ⟨by decide, by decide⟩ | exact Or.inr ⟨by decide, by decide⟩ | exact pow_ok (by decide) (by decide) (by omega) (by omega) | exact ⟨by omega, by omega⟩ | exact Or.inl ⟨by omega, by omega⟩) ?_
                  refine ne_nil (ls := ([] : List Int)) ?_ rfl ?_
                  · rfl
                  refine ⟨_, rfl, ?_⟩
                  exact ⟨rfl, rfl⟩
                exact ⟨rfl, rfl⟩
              case h732 =>
                exact absurd hC (by simp)
              case h733 =>
                refine s_nil ?_
                refine s_cons ?_
                refine s_set 10 nd ?_
                refine ev_sub (fun _ _ => rfl) ?_
                refine ev_tuple ?_
                refine ea_cons ?_
                refine ev_str ?_
                refine ea_cons ?_
                refine ev_str ?_
                refine ea_cons ?_
                refine ev_str ?_
                refine ea_cons ?_
                refine ev_str ?_
                refine ea_cons ?_
                refine ev_str ?_
                refine ea_cons ?_
                refine ev_str ?_
                refine ea_cons ?_
                refine ev_str ?_
                refine ea_cons ?_
                refine ev_str ?_
                refine ea_nil ?_
                refine tup_of rfl (by first | assumption | rfl | decide | exact Nat.le_of_ble_eq_true rfl | omega | (simp only [List.length_cons, List.length_nil, List.length_map, List.length_append]; omega) | exact hszl | exact hszw | exact Or.inl ⟨by decide, by decide⟩ | exact Or.inr ⟨by decide, by decide⟩ | exact pow_ok (by decide) (by decide) (by omega) (by omega) | exact ⟨by omega, by omega⟩ | exact Or.inl ⟨by omega, by omega⟩) ?_
                refine' ev_ifP ?h741 (fun hC => ?h742) (fun hC => ?h743)
                case h741 =>
                  refine et_cmp (c_eqv hu) rfl ?_
                  refine e_len T.z_len ?_
                  refine ev_name 9 rfl ?_
                  refine ⟨_, rfl, by first | exact True.intro | first | assumption | rfl | decide | exact Nat.le_of_ble_eq_true rfl | omega | (simp only [List.length_cons, List.length_nil, List.length_map, List.length_append]; omega) | exact hszl | exact hszw | exact Or.inl ⟨by decide, by decide⟩ | exact Or.inr ⟨by decide, by decide⟩ | exact pow_ok (by decide) (by decide) (by omega) (by omega) | exact ⟨by omega, by omega⟩ | exact Or.inl ⟨by omega, by omega⟩, ?_⟩
                  refine ev_int ?_
                  first | refine eq_i ?_ | refine eq_s ?_ | refine eq_v rfl rfl (by first | assumption | rfl | decide | exact Nat.le_of_ble_eq_true rfl | omega | (simp only [List.length_cons, List.length_nil, List.length_map, List.length_append]; omega) | exact hszl | exact hszw | exact Or.inl ⟨by decide, by decide⟩ | exact Or.inr ⟨by decide, by decide⟩ | exact pow_ok (by decide) (by decide) (by omega) (by omega) | exact ⟨by omega, by omega⟩ | exact Or.inl ⟨by omega, by omega⟩) ?_
                  refine ⟨_, rfl, ?_⟩
                  exact ⟨rfl, rfl⟩
                case h742 =>
                  exact absurd (of_decide_eq_true hC) (by simp)
                case h743 =>
                  refine ev_int ?_
                  refine ix_q rfl (show atI _ 7 = some (.str "load") from rfl) ?_
                  refine s_cons ?_
                  refine s_expr ?_
                  refine e_append ?_
                  refine ev_name 3 rfl ?_
                  refine ⟨_, _, rfl, rfl, ?_⟩
                  refine ev_tuple ?_
                  refine ea_cons ?_
                  refine ev_name 10 rfl ?_
                  refine ea_cons ?_
                  refine ev_none ?_
                  refine ea_cons ?_
                  refine e_tuple T.z_tuple ?_
                  refine ev_name 9 rfl ?_
                  refine ⟨_, rfl, ?_⟩
                  refine ea_nil ?_
                  refine tup_of rfl (by first | assumption | rfl | decide | exact Nat.le_of_ble_eq_true rfl | omega | (simp only [List.length_cons, List.length_nil, List.length_map, List.length_append]; omega) | exact hszl | exact hszw | exact Or.inl ⟨by decide, by decide⟩ | exact Or.inr ⟨by decide, by decide⟩ | exact pow_ok (by decide) (by decide) (by omega) (by omega) | exact ⟨by omega, by omega⟩ | exact Or.inl ⟨by omega, by omega⟩) ?_
                  refine ⟨_, _, rfl, rfl, by first | assumption | rfl | decide | exact Nat.le_of_ble_eq_true rfl | omega | (simp only [List.length_cons, List.length_nil, List.length_map, List.length_append]; omega) | exact hszl | exact hszw | exact Or.inl ⟨by decide, by decide⟩ | exact Or.inr ⟨by decide, by decide⟩ | exact pow_ok (by decide) (by decide) (by omega) (by omega) | exact ⟨by omega, by omega⟩ | exact Or.inl ⟨by omega, by omega⟩, ?_⟩
                  refine s_nil ?_
                  refine s_keep [true, true, true, true, true, false, false, false, false, false, false] 3 (by rw [hAs, hS]; exact Nat.le_of_ble_eq_true rfl) ?_
                  refine s_nil ?_
                  refine ⟨_, _, ns, _, [xa], ⟨"load", .none, [xa]⟩, by assumption, hW, .one "load" _ (by unfold ops1; simp) (hW.rk _ (by simp)).1 (hW.rk _ (by simp)).2, rfl, hl1, hl2, rfl, ?_⟩
                  exact congrArg (fun z => [_, z, _]) (snocD ns ⟨"load", .none, [xa]⟩ rfl)
            · refine s_cons ?_
              refine' s_ifP ?h751 (fun hC => ?h752) (fun hC => ?h753)
              case h751 =>
                refine et_of_ew ?_
                refine' ew_andP ?h761 (fun hA => ?h762) ?h763
                case h761 =>
                  refine Et.trim ?_
                  refine et_cmp (c_neqv hu) rfl ?_
                  refine ev_slice ?_
                  refine ev_name 9 rfl ?_
                  refine ev_int ?_
                  refine ⟨_, rfl, ?_⟩
                  first | refine ⟨by first | assumption | rfl | decide | exact Nat.le_of_ble_eq_true rfl | omega | (simp only [List.length_cons, List.length_nil, List.length_map, List.length_append]; omega) | exact hszl | exact hszw | exact Or.inl ⟨by decide, by decide⟩ | exact Or.inr ⟨by decide, by decide⟩ | exact pow_ok (by decide) (by decide) (by omega) (by omega) | exact ⟨by omega, by omega⟩ | exact Or.inl ⟨by omega, by omega⟩, ?_⟩ | refine ⟨_, rfl, ?_⟩
                  refine ev_list ?_
                  refine ea_nil ?_
                  refine lst_of rfl (by first | assumption | rfl | decide | exact Nat.le_of_ble_eq_true rfl | omega | (simp only [List.length_cons, List.length_nil, List.length_map, List.length_append]; omega) | exact hszl | exact hszw | exact Or.inl ⟨by decide, by decide⟩ | exact Or.inr ⟨by decide, by decide⟩ | exact pow_ok (by decide) (by decide) (by omega) (by omega) | exact ⟨by omega, by omega⟩ | exact Or.inl ⟨by omega, by omega⟩) ?_
                  refine ne_nil (ls := [xb]) ?_ rfl ?_
                  · rfl
                  refine ⟨_, rfl, ?_⟩
                  exact ⟨rfl, rfl⟩
                case h762 =>
                  refine ew_and1 ?_
                  refine et_cmp (c_inU hu2) rfl ?_
                  refine ev_sub (fun _ _ => rfl) ?_
                  refine ev_name 9 rfl ?_
                  refine ev_int ?_
                  first | refine ix_scr (by first | assumption | rfl | decide | exact Nat.le_of_ble_eq_true rfl | omega | (simp only [List.length_cons, List.length_nil, List.length_map, List.length_append]; omega) | exact hszl | exact hszw | exact Or.inl ⟨by decide, by decide⟩ | exact Or.inr ⟨by decide, by decide⟩ | exact pow_ok (by decide) (by decide) (by omega) (by omega) | exact ⟨by omega, by omega⟩ | exact Or.inl ⟨by omega, by omega⟩) ?_ | refine ix_q rfl (by first | assumption | rfl | decide | exact Nat.le_of_ble_eq_true rfl | omega | (simp only [List.length_cons, List.length_nil, List.length_map, List.length_append]; omega) | exact hszl | exact hszw | exact Or.inl ⟨by decide, by decide⟩ | exact Or.inr ⟨by decide, by decide⟩ | exact pow_ok (by decide) (by decide) (by omega) (by omega) | exact ⟨by omega, by omega⟩ | exact Or.inl ⟨by omega, by omega⟩) ?_ | refine ix_str (by first | assumption | rfl | decide | exact Nat.le_of_ble_eq_true rfl | omega | (simp only [List.length_cons, List.length_nil, List.length_map, List.length_append]; omega) | exact hszl | exact hszw | exact Or.inl ⟨by decide, by decide⟩ | exact Or.inr ⟨by decide, by decide⟩ | exact pow_ok (by decide) (by decide) (by omega) (by omega) | exact ⟨by omega, by omega⟩ | exact Or.inl ⟨by omega, by omega⟩) (by first | assumption | rfl | decide | exact Nat.le_of_ble_eq_true rfl | omega | (simp only [List.length_cons, List.length_nil, List.length_map, List.length_append]; omega) | exact hszl | exact hszw | exact Or.inl ⟨by decide, by decide⟩ | exact Or.inr ⟨by decide, by decide⟩ | exact pow_ok (by decide) (by decide) (by omega) (by omega) | exact ⟨by omega, by omega⟩ | exact Or.inl ⟨by omega, by omega⟩) ?_
                  refine ev_name 4 rfl ?_
                  refine in_ints (ls := ls) ?_ ?_
                  · rfl
                  refine ⟨_, rfl, ?_⟩
                  exact ⟨rfl, rfl⟩
                case h763 =>
                  exact ⟨rfl, rfl⟩
              case h752 =>
                have hmb : xb ∈ ls := by simpa using hC
                refine s_cons ?_
                refine s_expr ?_
                refine e_remove rfl ?_
                refine ev_name 4 rfl ?_
                refine ⟨_, _, rfl, rfl, ?_⟩
                refine ev_sub (fun _ _ => rfl) ?_
                refine ev_name 9 rfl ?_
                refine ev_int ?_
                first | refine ix_scr (by first | assumption | rfl | decide | exact Nat.le_of_ble_eq_true rfl | omega | (simp only [List.length_cons, List.length_nil, List.length_map, List.length_append]; omega) | exact hszl | exact hszw | exact Or.inl ⟨by decide, by decide⟩ | exact Or.inr ⟨by decide, by decide⟩ | exact pow_ok (by decide) (by decide) (by omega) (by omega) | exact ⟨by omega, by omega⟩ | exact Or.inl ⟨by omega, by omega⟩) ?_ | refine ix_q rfl (by first | assumption | rfl | decide | exact Nat.le_of_ble_eq_true rfl | omega | (simp only [List.length_cons, List.length_nil, List.length_map, List.length_append]; omega) | exact hszl | exact hszw | exact Or.inl ⟨by decide, by decide⟩ | exact Or.inr ⟨by decide, by decide⟩ | exact pow_ok (by decide) (by decide) (by omega) (by omega) | exact ⟨by omega, by omega⟩ | exact Or.inl ⟨by omega, by omega⟩) ?_ | refine ix_str (by first | assumption | rfl | decide | exact Nat.le_of_ble_eq_true rfl | omega | (simp only [List.length_cons, List.length_nil, List.length_map, List.length_append]; omega) | exact hszl | exact hszw | exact Or.inl ⟨by decide, by decide⟩ | exact Or.inr ⟨by decide, by decide⟩ | exact pow_ok (by decide) (by decide) (by omega) (by omega) | exact ⟨by omega, by omega⟩ | exact Or.inl ⟨by omega, by omega⟩) (by first | assumption | rfl | decide | exact Nat.le_of_ble_eq_true rfl | omega | (simp only [List.length_cons, List.length_nil, List.length_map, List.length_append]; omega) | exact hszl | exact hszw | exact Or.inl ⟨by decide, by decide⟩ | exact Or.inr ⟨by decide, by decide⟩ | exact pow_ok (by decide) (by decide) (by omega) (by omega) | exact ⟨by omega, by omega⟩ | exact Or.inl ⟨by omega, by omega⟩) ?_
                refine ⟨xb, ls, rfl, rfl, hmb, ?_⟩
                refine s_nil ?_
                refine s_cons ?_
                refine s_set 10 nd ?_
                refine ev_sub (fun _ _ => rfl) ?_
                refine ev_tuple ?_
                refine ea_cons ?_
                refine ev_str ?_
                refine ea_cons ?_
                refine ev_str ?_
                refine ea_cons ?_
                refine ev_str ?_
                refine ea_cons ?_
                refine ev_str ?_
                refine ea_cons ?_
                refine ev_str ?_
                refine ea_cons ?_
                refine ev_str ?_
                refine ea_cons ?_
                refine ev_str ?_
                refine ea_cons ?_
                refine ev_str ?_
                refine ea_nil ?_
                refine tup_of rfl (by first | assumption | rfl | decide | exact Nat.le_of_ble_eq_true rfl | omega | (simp only [List.length_cons, List.length_nil, List.length_map, List.length_append]; omega) | exact hszl | exact hszw | exact Or.inl ⟨by decide, by decide⟩ | exact Or.inr ⟨by decide, by decide⟩ | exact pow_ok (by decide) (by decide) (by omega) (by omega) | exact ⟨by omega, by omega⟩ | exact Or.inl ⟨by omega, by omega⟩) ?_
                refine' ev_ifP ?h771 (fun hC => ?h772) (fun hC => ?h773)
                case h771 =>
                  refine et_cmp (c_eqv hu) rfl ?_
                  refine e_len T.z_len ?_
                  refine ev_name 9 rfl ?_
                  refine ⟨_, rfl, by first | exact True.intro | first | assumption | rfl | decide | exact Nat.le_of_ble_eq_true rfl | omega | (simp only [List.length_cons, List.length_nil, List.length_map, List.length_append]; omega) | exact hszl | exact hszw | exact Or.inl ⟨by decide, by decide⟩ | exact Or.inr ⟨by decide, by decide⟩ | exact pow_ok (by decide) (by decide) (by omega) (by omega) | exact ⟨by omega, by omega⟩ | exact Or.inl ⟨by omega, by omega⟩, ?_⟩
                  refine ev_int ?_
                  first | refine eq_i ?_ | refine eq_s ?_ | refine eq_v rfl rfl (by first | assumption | rfl | decide | exact Nat.le_of_ble_eq_true rfl | omega | (simp only [List.length_cons, List.length_nil, List.length_map, List.length_append]; omega) | exact hszl | exact hszw | exact Or.inl ⟨by decide, by decide⟩ | exact Or.inr ⟨by decide, by decide⟩ | exact pow_ok (by decide) (by decide) (by omega) (by omega) | exact ⟨by omega, by omega⟩ | exact Or.inl ⟨by omega, by omega⟩) ?_
                  refine ⟨_, rfl, ?_⟩
                  exact ⟨rfl, rfl⟩
                case h772 =>
                  refine ev_cal c__law_take hr ?_
                  refine ea_cons ?_
                  refine ev_name 0 rfl ?_
                  refine ea_cons ?_
                  refine ev_int ?_
                  refine ea_nil ?_
                  refine callP_o1 rfl rfl ?_
                  refine ⟨_, _, _, rfl, rfl, by assumption, by decide, by decide, fun g16 c16 r16 hB16 h016 h116 => ?_⟩
                  refine bk_1 ?_
                  obtain ⟨sx, hsx, hsm⟩ := ops_at h016 h116
                  refine ix_q rfl hsx ?_
                  refine s_cons ?_
                  refine s_expr ?_
                  refine e_append ?_
                  refine ev_name 3 rfl ?_
                  refine ⟨_, _, rfl, rfl, ?_⟩
                  refine ev_tuple ?_
                  refine ea_cons ?_
                  refine ev_name 10 rfl ?_
                  refine ea_cons ?_
                  refine ev_none ?_
                  refine ea_cons ?_
                  refine e_tuple T.z_tuple ?_
                  refine ev_name 9 rfl ?_
                  refine ⟨_, rfl, ?_⟩
                  refine ea_nil ?_
                  refine tup_of rfl (by first | assumption | rfl | decide | exact Nat.le_of_ble_eq_true rfl | omega | (simp only [List.length_cons, List.length_nil, List.length_map, List.length_append]; omega) | exact hszl | exact hszw | exact Or.inl ⟨by decide, by decide⟩ | exact Or.inr ⟨by decide, by decide⟩ | exact pow_ok (by decide) (by decide) (by omega) (by omega) | exact ⟨by omega, by omega⟩ | exact Or.inl ⟨by omega, by omega⟩) ?_
                  refine ⟨_, _, rfl, rfl, by first | assumption | rfl | decide | exact Nat.le_of_ble_eq_true rfl | omega | (simp only [List.length_cons, List.length_nil, List.length_map, List.length_append]; omega) | exact hszl | exact hszw | exact Or.inl ⟨by decide, by decide⟩ | exact Or.inr ⟨by decide, by decide⟩ | exact pow_ok (by decide) (by decide) (by omega) (by omega) | exact ⟨by omega, by omega⟩ | exact Or.inl ⟨by omega, by omega⟩, ?_⟩
                  refine s_nil ?_
                  refine s_keep [true, true, true, true, true, false, false, false, false, false, false] 3 (by rw [hAs, hS]; exact Nat.le_of_ble_eq_true rfl) ?_
                  refine s_nil ?_
                  refine ⟨_, _, ns, _, [xa, xb], ⟨sx, .none, [xa, xb]⟩, by assumption, hW.rem (y := xb) (by simp), .two sx _ _ hsm (hW.rk _ (by simp)).1 (hW.rk _ (by simp)).2 (hW.rk _ (by simp)).1 (hW.rk _ (by simp)).2, rfl, hl1, by have := List.length_erase_le (a := xb) (l := ls); omega, rfl, ?_⟩
                  exact congrArg (fun z => [_, z, _]) (snocD ns ⟨sx, .none, [xa, xb]⟩ rfl)
                case h773 =>
                  exact absurd hC (by simp)
              case h753 =>
                refine s_nil ?_
                refine s_cons ?_
                refine s_set 10 nd ?_
                refine ev_sub (fun _ _ => rfl) ?_
                refine ev_tuple ?_
                refine ea_cons ?_
                refine ev_str ?_
                refine ea_cons ?_
                refine ev_str ?_
                refine ea_cons ?_
                refine ev_str ?_
                refine ea_cons ?_
                refine ev_str ?_
                refine ea_cons ?_
                refine ev_str ?_
                refine ea_cons ?_
                refine ev_str ?_
                refine ea_cons ?_
                refine ev_str ?_
                refine ea_cons ?_
                refine ev_str ?_
                refine ea_nil ?_
                refine tup_of rfl (by first | assumption | rfl | decide | exact Nat.le_of_ble_eq_true rfl | omega | (simp only [List.length_cons, List.length_nil, List.length_map, List.length_append]; omega) | exact hszl | exact hszw | exact Or.inl ⟨by decide, by decide⟩ | exact Or.inr ⟨by decide, by decide⟩ | exact pow_ok (by decide) (by decide) (by omega) (by omega) | exact ⟨by omega, by omega⟩ | exact Or.inl ⟨by omega, by omega⟩) ?_
                refine' ev_ifP ?h781 (fun hC => ?h782) (fun hC => ?h783)
                case h781 =>
                  refine et_cmp (c_eqv hu) rfl ?_
                  refine e_len T.z_len ?_
                  refine ev_name 9 rfl ?_
                  refine ⟨_, rfl, by first | exact True.intro | first | assumption | rfl | decide | exact Nat.le_of_ble_eq_true rfl | omega | (simp only [List.length_cons, List.length_nil, List.length_map, List.length_append]; omega) | exact hszl | exact hszw | exact Or.inl ⟨by decide, by decide⟩ | exact Or.inr ⟨by decide, by decide⟩ | exact pow_ok (by decide) (by decide) (by omega) (by omega) | exact ⟨by omega, by omega⟩ | exact Or.inl ⟨by omega, by omega⟩, ?_⟩
                  refine ev_int ?_
                  first | refine eq_i ?_ | refine eq_s ?_ | refine eq_v rfl rfl (by first | assumption | rfl | decide | exact Nat.le_of_ble_eq_true rfl | omega | (simp only [List.length_cons, List.length_nil, List.length_map, List.length_append]; omega) | exact hszl | exact hszw | exact Or.inl ⟨by decide, by decide⟩ | exact Or.inr ⟨by decide, by decide⟩ | exact pow_ok (by decide) (by decide) (by omega) (by omega) | exact ⟨by omega, by omega⟩ | exact Or.inl ⟨by omega, by omega⟩) ?_
                  refine ⟨_, rfl, ?_⟩
                  exact ⟨rfl, rfl⟩
                case h782 =>
                  refine ev_cal c__law_take hr ?_
                  refine ea_cons ?_
                  refine ev_name 0 rfl ?_
                  refine ea_cons ?_
                  refine ev_int ?_
                  refine ea_nil ?_
                  refine callP_o1 rfl rfl ?_
                  refine ⟨_, _, _, rfl, rfl, by assumption, by decide, by decide, fun g17 c17 r17 hB17 h017 h117 => ?_⟩
                  refine bk_1 ?_
                  obtain ⟨sx, hsx, hsm⟩ := ops_at h017 h117
                  refine ix_q rfl hsx ?_
                  refine s_cons ?_
                  refine s_expr ?_
                  refine e_append ?_
                  refine ev_name 3 rfl ?_
                  refine ⟨_, _, rfl, rfl, ?_⟩
                  refine ev_tuple ?_
                  refine ea_cons ?_
                  refine ev_name 10 rfl ?_
                  refine ea_cons ?_
                  refine ev_none ?_
                  refine ea_cons ?_
                  refine e_tuple T.z_tuple ?_
                  refine ev_name 9 rfl ?_
                  refine ⟨_, rfl, ?_⟩
                  refine ea_nil ?_
                  refine tup_of rfl (by first | assumption | rfl | decide | exact Nat.le_of_ble_eq_true rfl | omega | (simp only [List.length_cons, List.length_nil, List.length_map, List.length_append]; omega) | exact hszl | exact hszw | exact Or.inl ⟨by decide, by decide⟩ | exact Or.inr ⟨by decide, by decide⟩ | exact pow_ok (by decide) (by decide) (by omega) (by omega) | exact ⟨by omega, by omega⟩ | exact Or.inl ⟨by omega, by omega⟩) ?_
                  refine ⟨_, _, rfl, rfl, by first | assumption | rfl | decide | exact Nat.le_of_ble_eq_true rfl | omega | (simp only [List.length_cons, List.length_nil, List.length_map, List.length_append]; omega) | exact hszl | exact hszw | exact Or.inl ⟨by decide, by decide⟩ | exact Or.inr ⟨by decide, by decide⟩ | exact pow_ok (by decide) (by decide) (by omega) (by omega) | exact ⟨by omega, by omega⟩ | exact Or.inl ⟨by omega, by omega⟩, ?_⟩
                  refine s_nil ?_
                  refine s_keep [true, true, true, true, true, false, false, false, false, false, false] 3 (by rw [hAs, hS]; exact Nat.le_of_ble_eq_true rfl) ?_
                  refine s_nil ?_
                  refine ⟨_, _, ns, _, [xa, xb], ⟨sx, .none, [xa, xb]⟩, by assumption, hW, .two sx _ _ hsm (hW.rk _ (by simp)).1 (hW.rk _ (by simp)).2 (hW.rk _ (by simp)).1 (hW.rk _ (by simp)).2, rfl, hl1, by exact hl2, rfl, ?_⟩
                  exact congrArg (fun z => [_, z, _]) (snocD ns ⟨sx, .none, [xa, xb]⟩ rfl)
                case h783 =>
                  exact absurd hC (by simp)
    · obtain ⟨g9, c9, ns, ls, ks, nw, hB9, hW, hgn, hks, hl1, hl2, rfl, rfl⟩ := hM
      have hszl := lsz (ls := ls) (by omega)
      refine s_cons ?_
      refine s_expr ?_
      refine e_append ?_
      refine ev_name 4 rfl ?_
      refine ⟨_, _, rfl, rfl, ?_⟩
      refine ev_bin b_sub ?_
      refine e_len T.z_len ?_
      refine ev_name 3 rfl ?_
      refine ⟨_, rfl, by first | exact True.intro | first | assumption | rfl | decide | exact Nat.le_of_ble_eq_true rfl | omega | (simp only [List.length_cons, List.length_nil, List.length_map, List.length_append]; omega) | exact hszl | exact hszw | exact Or.inl ⟨by decide, by decide⟩ | exact Or.inr ⟨by decide, by decide⟩ | exact pow_ok (by decide) (by decide) (by omega) (by omega) | exact ⟨by omega, by omega⟩ | exact Or.inl ⟨by omega, by omega⟩, ?_⟩
      refine ev_int ?_
      refine sub_i ?_
      refine ⟨_, _, rfl, rfl, by first | assumption | rfl | decide | exact Nat.le_of_ble_eq_true rfl | omega | (simp only [List.length_cons, List.length_nil, List.length_map, List.length_append]; omega) | exact hszl | exact hszw | exact Or.inl ⟨by decide, by decide⟩ | exact Or.inr ⟨by decide, by decide⟩ | exact pow_ok (by decide) (by decide) (by omega) (by omega) | exact ⟨by omega, by omega⟩ | exact Or.inl ⟨by omega, by omega⟩, ?_⟩
      refine s_keep [true, true, true, true, true, false, false, false, false, false, false] 3 (by rw [hAs, hS]; exact Nat.le_of_ble_eq_true rfl) ?_
      refine s_nil ?_
      refine ⟨_, _, ns ++ [nw], ls ++ [((ns.length : Nat) : Int)], by assumption, hW.push hgn hks, by simp; omega, by simp; omega, fun _ z => by simp at z, rfl, ?_⟩
      exact congrArg (fun z => [_, _, z]) (snocI ls _ _ (by simp))
  · rw [rangeD_len] at hin
    obtain ⟨g0, c0, ns, ls, hB0, hW, hl1, hl2, hl3, rfl, rfl⟩ := hin
    have hAs : S.as0 = S.as0 := rfl
    have hn16 : ns.length ≤ 16 := by omega
    have hn1 : 1 ≤ ns.length := by omega
    have hne := hl3 (by omega)
    refine s_cons ?_
    refine s_while (InvW many b) ⟨_, _, _, ns, ls, hB0, hW, hne, rfl, by omega, hn1, rfl, rfl⟩ ?_
    clear hW hl1 hl2 hl3 hne hn16 hn1 hB0
    rintro m ρ2 μ2 ⟨g0, c0, ns, ls, hB0, hW, hne, hlm, hl32, hn1, rfl, rfl⟩
    obtain ⟨hl0, hl9, hl8⟩ := lenI hne (by omega)
    have hszw := wsz (ns := ns) (by omega)
    obtain ⟨hm0, hm9, hm8, hm7⟩ := lenN (ns := ns) (by omega) (by omega)
    refine et_cmp c_gt rfl ?_
    refine e_len T.z_len ?_
    refine ev_name 4 rfl ?_
    refine ⟨_, rfl, by first | exact True.intro | first | assumption | rfl | decide | exact Nat.le_of_ble_eq_true rfl | omega | (simp only [List.length_cons, List.length_nil, List.length_map, List.length_append]; omega) | exact hszl | exact hszw | exact Or.inl ⟨by decide, by decide⟩ | exact Or.inr ⟨by decide, by decide⟩ | exact pow_ok (by decide) (by decide) (by omega) (by omega) | exact ⟨by omega, by omega⟩ | exact Or.inl ⟨by omega, by omega⟩, ?_⟩
    refine ev_int ?_
    refine gt_i ?_
    refine ⟨_, rfl, ?_⟩
    refine ⟨fun hC => ?_, fun hC => ?_⟩
    · have hl3 : 2 < ls.length := by have := of_decide_eq_true hC; simp at this; omega
      have hpos0 : ∀ {k : Nat}, (0 : Int) < (((ls.eraseIdx k).length : Nat) : Int) := fun {k} => by rw [List.length_eraseIdx]; split <;> omega
      have hszl : ∀ {k : Nat}, (((ls.eraseIdx k).eraseIdx (0 : Int).toNat).map PyData.int).length < sizeLine := fun {k} => lsz (by have h1 := List.length_eraseIdx_le ls k; have h2 := List.length_eraseIdx_le (ls.eraseIdx k) (0 : Int).toNat; omega)
      refine s_cons ?_
      refine s_set 9 nd ?_
      refine ev_tuple ?_
      refine ea_cons ?_
      refine e_popInt ?_
      refine ev_name 4 rfl ?_
      refine ⟨_, _, rfl, rfl, ?_⟩
      refine ev_cal c__law_take hr ?_
      refine ea_cons ?_
      refine ev_name 0 rfl ?_
      refine ea_cons ?_
      refine e_len T.z_len ?_
      refine ev_name 4 rfl ?_
      refine ⟨_, rfl, by first | exact True.intro | first | assumption | rfl | decide | exact Nat.le_of_ble_eq_true rfl | omega | (simp only [List.length_cons, List.length_nil, List.length_map, List.length_append]; omega) | exact hszl | exact hszw | exact Or.inl ⟨by decide, by decide⟩ | exact Or.inr ⟨by decide, by decide⟩ | exact pow_ok (by decide) (by decide) (by omega) (by omega) | exact ⟨by omega, by omega⟩ | exact Or.inl ⟨by omega, by omega⟩, ?_⟩
      refine ea_nil ?_
      refine callP_o1 rfl rfl ?_
      refine ⟨_, _, _, rfl, rfl, by assumption, hl0, hl9, fun g18 c18 r18 hB18 h018 h118 => ?_⟩
      refine bk_1 ?_
      refine ⟨_, _, rfl, rfl, h018, by simpa using h118, by have := h118; simp at this; omega, fun x5 hx5 => ?_⟩
      refine ea_cons ?_
      refine e_popInt ?_
      refine ev_name 4 rfl ?_
      refine ⟨_, _, rfl, rfl, ?_⟩
      refine ev_int ?_
      refine ⟨_, _, rfl, rfl, by decide, hpos0, by decide, fun x6 hx6 => ?_⟩
      refine ea_nil ?_
      refine tup_of rfl (by first | assumption | rfl | decide | exact Nat.le_of_ble_eq_true rfl | omega | (simp only [List.length_cons, List.length_nil, List.length_map, List.length_append]; omega) | exact hszl | exact hszw | exact Or.inl ⟨by decide, by decide⟩ | exact Or.inr ⟨by decide, by decide⟩ | exact pow_ok (by decide) (by decide) (by omega) (by omega) | exact ⟨by omega, by omega⟩ | exact Or.inl ⟨by omega, by omega⟩) ?_
      refine s_cons ?_
      refine s_expr ?_
      refine e_append ?_
      refine ev_name 3 rfl ?_
      refine ⟨_, _, rfl, rfl, ?_⟩
      refine ev_tuple ?_
      refine ea_cons ?_
      refine ev_sub (fun _ _ => rfl) ?_
      refine ev_tuple ?_
      refine ea_cons ?_
      refine ev_str ?_
      refine ea_cons ?_
      refine ev_str ?_
      refine ea_nil ?_
      refine tup_of rfl (by first | assumption | rfl | decide | exact Nat.le_of_ble_eq_true rfl | omega | (simp only [List.length_cons, List.length_nil, List.length_map, List.length_append]; omega) | exact hszl | exact hszw | exact Or.inl ⟨by decide, by decide⟩ | exact Or.inr ⟨by decide, by decide⟩ | exact pow_ok (by decide) (by decide) (by omega) (by omega) | exact ⟨by omega, by omega⟩ | exact Or.inl ⟨by omega, by omega⟩) ?_
      refine ev_cal c__law_take hr ?_
      refine ea_cons ?_
      refine ev_name 0 rfl ?_
      refine ea_cons ?_
      refine ev_int ?_
      refine ea_nil ?_
      refine callP_o1 rfl rfl ?_
      refine ⟨_, _, _, rfl, rfl, by assumption, by decide, by decide, fun g19 c19 r19 hB19 h019 h119 => ?_⟩
      refine bk_1 ?_
      obtain ⟨sx, hsx, hsm⟩ := strs_at (xs := opsW) h019 (by unfold opsW; exact h119)
      refine ix_q (ds := opsW.map PyData.str) ?_ hsx ?_
      · rfl
      refine ea_cons ?_
      refine ev_none ?_
      refine ea_cons ?_
      refine ev_name 9 rfl ?_
      refine ea_nil ?_
      refine tup_of rfl (by first | assumption | rfl | decide | exact Nat.le_of_ble_eq_true rfl | omega | (simp only [List.length_cons, List.length_nil, List.length_map, List.length_append]; omega) | exact hszl | exact hszw | exact Or.inl ⟨by decide, by decide⟩ | exact Or.inr ⟨by decide, by decide⟩ | exact pow_ok (by decide) (by decide) (by omega) (by omega) | exact ⟨by omega, by omega⟩ | exact Or.inl ⟨by omega, by omega⟩) ?_
      refine ⟨_, _, rfl, rfl, by first | assumption | rfl | decide | exact Nat.le_of_ble_eq_true rfl | omega | (simp only [List.length_cons, List.length_nil, List.length_map, List.length_append]; omega) | exact hszl | exact hszw | exact Or.inl ⟨by decide, by decide⟩ | exact Or.inr ⟨by decide, by decide⟩ | exact pow_ok (by decide) (by decide) (by omega) (by omega) | exact ⟨by omega, by omega⟩ | exact Or.inl ⟨by omega, by omega⟩, ?_⟩
      refine s_cons ?_
      refine s_expr ?_
      refine e_append ?_
      refine ev_name 4 rfl ?_
      refine ⟨_, _, rfl, rfl, ?_⟩
      refine ev_bin b_sub ?_
      refine e_len T.z_len ?_
      refine ev_name 3 rfl ?_
      refine ⟨_, rfl, by first | exact True.intro | first | assumption | rfl | decide | exact Nat.le_of_ble_eq_true rfl | omega | (simp only [List.length_cons, List.length_nil, List.length_map, List.length_append]; omega) | exact hszl | exact hszw | exact Or.inl ⟨by decide, by decide⟩ | exact Or.inr ⟨by decide, by decide⟩ | exact pow_ok (by decide) (by decide) (by omega) (by omega) | exact ⟨by omega, by omega⟩ | exact Or.inl ⟨by omega, by omega⟩, ?_⟩
      refine ev_int ?_
      refine sub_i ?_
      refine ⟨_, _, rfl, rfl, by first | assumption | rfl | decide | exact Nat.le_of_ble_eq_true rfl | omega | (simp only [List.length_cons, List.length_nil, List.length_map, List.length_append]; omega) | exact hszl | exact hszw | exact Or.inl ⟨by decide, by decide⟩ | exact Or.inr ⟨by decide, by decide⟩ | exact pow_ok (by decide) (by decide) (by omega) (by omega) | exact ⟨by omega, by omega⟩ | exact Or.inl ⟨by omega, by omega⟩, ?_⟩
      refine s_keep [true, true, true, true, true, false, false, false, false, false, false] 3 (by rw [hAs, hS]; exact Nat.le_of_ble_eq_true rfl) ?_
      refine s_nil ?_
      refine ⟨_, ?_, _, _, ns ++ [⟨sx, .none, [x5, x6]⟩], _ ++ [((ns.length : Nat) : Int)], by assumption, ((hW.pop hx5).pop hx6).push (.two sx _ _ (opsW_2 hsm) (hW.rl _ (List.mem_of_getElem? hx5)).1 (hW.rl _ (List.mem_of_getElem? hx5)).2 ((hW.pop hx5).rl _ (List.mem_of_getElem? hx6)).1 ((hW.pop hx5).rl _ (List.mem_of_getElem? hx6)).2) rfl, by simp, rfl, ?_, by simp, rfl, ?_⟩
      · rw [List.length_append]; have e1 := len_er hx5; have e2 := len_er hx6; simp only [List.length_cons, List.length_nil]; omega
      · rw [List.length_append, List.length_append]; have e1 := len_er hx5; have e2 := len_er hx6; simp only [List.length_cons, List.length_nil]; omega
      · exact (congrArg (fun z => [_, z, _]) (snocD ns ⟨sx, .none, [x5, x6]⟩ rfl)).trans (congrArg (fun z => [_, _, z]) (snocI _ _ _ (by simp)))
    · have hl2 : ls.length ≤ 2 := by have := of_decide_eq_false hC; simp at this; omega
      refine s_cons ?_
      refine' s_ifP ?h791 (fun hC => ?h792) (fun hC => ?h793)
      case h791 =>
        refine et_cmp (c_eqv hu) rfl ?_
        refine e_len T.z_len ?_
        refine ev_name 4 rfl ?_
        refine ⟨_, rfl, by first | exact True.intro | first | assumption | rfl | decide | exact Nat.le_of_ble_eq_true rfl | omega | (simp only [List.length_cons, List.length_nil, List.length_map, List.length_append]; omega) | exact hszl | exact hszw | exact Or.inl ⟨by decide, by decide⟩ | exact Or.inr ⟨by decide, by decide⟩ | exact pow_ok (by decide) (by decide) (by omega) (by omega) | exact ⟨by omega, by omega⟩ | exact Or.inl ⟨by omega, by omega⟩, ?_⟩
        refine ev_int ?_
        first | refine eq_i ?_ | refine eq_s ?_ | refine eq_v rfl rfl (by first | assumption | rfl | decide | exact Nat.le_of_ble_eq_true rfl | omega | (simp only [List.length_cons, List.length_nil, List.length_map, List.length_append]; omega) | exact hszl | exact hszw | exact Or.inl ⟨by decide, by decide⟩ | exact Or.inr ⟨by decide, by decide⟩ | exact pow_ok (by decide) (by decide) (by omega) (by omega) | exact ⟨by omega, by omega⟩ | exact Or.inl ⟨by omega, by omega⟩) ?_
        refine ⟨_, rfl, ?_⟩
        exact ⟨rfl, rfl⟩
      case h792 =>
        obtain ⟨xa, xb, rfl⟩ := two_of (of_decide_eq_true hC)
        refine s_cons ?_
        refine s_ret ?_
        refine ev_bin b_plus ?_
        refine ev_name 3 rfl ?_
        refine ev_list ?_
        refine ea_cons ?_
        refine ev_tuple ?_
        refine ea_cons ?_
        refine ev_str ?_
        refine ea_cons ?_
        refine ev_none ?_
        refine ea_cons ?_
        refine e_tuple T.z_tuple ?_
        refine ev_step ?_
        refine ev_name 4 rfl ?_
        refine ev_bin b_sub ?_
        refine ev_int ?_
        refine ev_bin b_mul ?_
        refine ev_int ?_
        refine ev_cal c__law_take hr ?_
        refine ea_cons ?_
        refine ev_name 0 rfl ?_
        refine ea_cons ?_
        refine ev_int ?_
        refine ea_nil ?_
        refine callP_o1 rfl rfl ?_
        refine ⟨_, _, _, rfl, rfl, by assumption, by decide, by decide, fun g20 c20 r20 hB20 h020 h120 => ?_⟩
        refine bk_1 ?_
        refine mul_i ?_ (by first | assumption | rfl | decide | exact Nat.le_of_ble_eq_true rfl | omega | (simp only [List.length_cons, List.length_nil, List.length_map, List.length_append]; omega) | exact hszl | exact hszw | exact Or.inl ⟨by decide, by decide⟩ | exact Or.inr ⟨by decide, by decide⟩ | exact pow_ok (by decide) (by decide) (by omega) (by omega) | exact ⟨by omega, by omega⟩ | exact Or.inl ⟨by omega, by omega⟩)
        refine sub_i ?_
        have hr2 : r20 = 0 ∨ r20 = 1 := by omega
        rcases hr2 with rfl | rfl
        · refine ⟨_, rfl, .inl ⟨rfl, ?_⟩⟩
          refine ⟨_, rfl, ?_⟩
          refine ea_nil ?_
          refine tup_of rfl (by first | assumption | rfl | decide | exact Nat.le_of_ble_eq_true rfl | omega | (simp only [List.length_cons, List.length_nil, List.length_map, List.length_append]; omega) | exact hszl | exact hszw | exact Or.inl ⟨by decide, by decide⟩ | exact Or.inr ⟨by decide, by decide⟩ | exact pow_ok (by decide) (by decide) (by omega) (by omega) | exact ⟨by omega, by omega⟩ | exact Or.inl ⟨by omega, by omega⟩) ?_
          refine ea_nil ?_
          refine lst_of rfl (by first | assumption | rfl | decide | exact Nat.le_of_ble_eq_true rfl | omega | (simp only [List.length_cons, List.length_nil, List.length_map, List.length_append]; omega) | exact hszl | exact hszw | exact Or.inl ⟨by decide, by decide⟩ | exact Or.inr ⟨by decide, by decide⟩ | exact pow_ok (by decide) (by decide) (by omega) (by omega) | exact ⟨by omega, by omega⟩ | exact Or.inl ⟨by omega, by omega⟩) ?_
          first | refine plus_i ?_ | refine plus_s (by first | assumption | rfl | decide | exact Nat.le_of_ble_eq_true rfl | omega | (simp only [List.length_cons, List.length_nil, List.length_map, List.length_append]; omega) | exact hszl | exact hszw | exact Or.inl ⟨by decide, by decide⟩ | exact Or.inr ⟨by decide, by decide⟩ | exact pow_ok (by decide) (by decide) (by omega) (by omega) | exact ⟨by omega, by omega⟩ | exact Or.inl ⟨by omega, by omega⟩) ?_ | refine plus_l rfl rfl (by first | assumption | rfl | decide | exact Nat.le_of_ble_eq_true rfl | omega | (simp only [List.length_cons, List.length_nil, List.length_map, List.length_append]; omega) | exact hszl | exact hszw | exact Or.inl ⟨by decide, by decide⟩ | exact Or.inr ⟨by decide, by decide⟩ | exact pow_ok (by decide) (by decide) (by omega) (by omega) | exact ⟨by omega, by omega⟩ | exact Or.inl ⟨by omega, by omega⟩) ?_
          dsimp only
          refine retO (m' := .lst ((ns ++ [(⟨"put", .none, [xa, xb]⟩ : Nd)]).map Nd.d)) ?_ rfl ?_ (hP _ _ _ (by assumption) (FW.mk' hW (.put xa xb (hW.rl _ (by simp)).1 (hW.rl _ (by simp)).2 (hW.rl _ (by simp)).1 (hW.rl _ (by simp)).2) (by simp; try (constructor <;> simp)) hn1 (by simp at hl32; omega))) rfl
          · simp
          · rw [List.map_append]; rfl
        · refine ⟨_, rfl, .inr ⟨rfl, ?_⟩⟩
          refine ⟨_, rfl, ?_⟩
          refine ea_nil ?_
          refine tup_of rfl (by first | assumption | rfl | decide | exact Nat.le_of_ble_eq_true rfl | omega | (simp only [List.length_cons, List.length_nil, List.length_map, List.length_append]; omega) | exact hszl | exact hszw | exact Or.inl ⟨by decide, by decide⟩ | exact Or.inr ⟨by decide, by decide⟩ | exact pow_ok (by decide) (by decide) (by omega) (by omega) | exact ⟨by omega, by omega⟩ | exact Or.inl ⟨by omega, by omega⟩) ?_
          refine ea_nil ?_
          refine lst_of rfl (by first | assumption | rfl | decide | exact Nat.le_of_ble_eq_true rfl | omega | (simp only [List.length_cons, List.length_nil, List.length_map, List.length_append]; omega) | exact hszl | exact hszw | exact Or.inl ⟨by decide, by decide⟩ | exact Or.inr ⟨by decide, by decide⟩ | exact pow_ok (by decide) (by decide) (by omega) (by omega) | exact ⟨by omega, by omega⟩ | exact Or.inl ⟨by omega, by omega⟩) ?_
          first | refine plus_i ?_ | refine plus_s (by first | assumption | rfl | decide | exact Nat.le_of_ble_eq_true rfl | omega | (simp only [List.length_cons, List.length_nil, List.length_map, List.length_append]; omega) | exact hszl | exact hszw | exact Or.inl ⟨by decide, by decide⟩ | exact Or.inr ⟨by decide, by decide⟩ | exact pow_ok (by decide) (by decide) (by omega) (by omega) | exact ⟨by omega, by omega⟩ | exact Or.inl ⟨by omega, by omega⟩) ?_ | refine plus_l rfl rfl (by first | assumption | rfl | decide | exact Nat.le_of_ble_eq_true rfl | omega | (simp only [List.length_cons, List.length_nil, List.length_map, List.length_append]; omega) | exact hszl | exact hszw | exact Or.inl ⟨by decide, by decide⟩ | exact Or.inr ⟨by decide, by decide⟩ | exact pow_ok (by decide) (by decide) (by omega) (by omega) | exact ⟨by omega, by omega⟩ | exact Or.inl ⟨by omega, by omega⟩) ?_
          dsimp only
          refine retO (m' := .lst ((ns ++ [(⟨"put", .none, [xb, xa]⟩ : Nd)]).map Nd.d)) ?_ rfl ?_ (hP _ _ _ (by assumption) (FW.mk' hW (.put xb xa (hW.rl _ (by simp)).1 (hW.rl _ (by simp)).2 (hW.rl _ (by simp)).1 (hW.rl _ (by simp)).2) (by simp; try (constructor <;> simp)) hn1 (by simp at hl32; omega))) rfl
          · simp
          · rw [List.map_append]; rfl
      case h793 =>
        obtain ⟨xa, rfl⟩ := one_of hne hl2 (of_decide_eq_false hC)
        refine s_nil ?_
        refine s_cons ?_
        refine s_if ?_
        refine et_of_ew (ew_and ?_)
        refine et_val ?_
        refine ev_name 2 rfl ?_
        refine ⟨_, rfl, ?_⟩
        refine ⟨fun hS1 => ?_, fun hS1 => ?_⟩
        · refine ew_and1 ?_
          refine et_cmp (c_eqv hu) rfl ?_
          refine ev_cal c__law_take hr ?_
          refine ea_cons ?_
          refine ev_name 0 rfl ?_
          refine ea_cons ?_
          refine ev_int ?_
          refine ea_nil ?_
          refine callP_o1 rfl rfl ?_
          refine ⟨_, _, _, rfl, rfl, by assumption, by decide, by decide, fun g21 c21 r21 hB21 h021 h121 => ?_⟩
          refine bk_1 ?_
          refine ev_int ?_
          first | refine eq_i ?_ | refine eq_s ?_ | refine eq_v rfl rfl (by first | assumption | rfl | decide | exact Nat.le_of_ble_eq_true rfl | omega | (simp only [List.length_cons, List.length_nil, List.length_map, List.length_append]; omega) | exact hszl | exact hszw | exact Or.inl ⟨by decide, by decide⟩ | exact Or.inr ⟨by decide, by decide⟩ | exact pow_ok (by decide) (by decide) (by omega) (by omega) | exact ⟨by omega, by omega⟩ | exact Or.inl ⟨by omega, by omega⟩) ?_
          refine ⟨_, rfl, ?_⟩
          refine ⟨fun hC => ?_, fun hC => ?_⟩
          · refine s_cons ?_
            refine s_ret ?_
            refine ev_bin b_plus ?_
            refine ev_name 3 rfl ?_
            refine ev_list ?_
            refine ea_cons ?_
            refine ev_tuple ?_
            refine ea_cons ?_
            refine ev_str ?_
            refine ea_cons ?_
            refine ev_none ?_
            refine ea_cons ?_
            refine ev_tuple ?_
            refine ea_cons ?_
            refine ev_sub (fun _ _ => rfl) ?_
            refine ev_name 4 rfl ?_
            refine ev_int ?_
            first | refine ix_scr (by first | assumption | rfl | decide | exact Nat.le_of_ble_eq_true rfl | omega | (simp only [List.length_cons, List.length_nil, List.length_map, List.length_append]; omega) | exact hszl | exact hszw | exact Or.inl ⟨by decide, by decide⟩ | exact Or.inr ⟨by decide, by decide⟩ | exact pow_ok (by decide) (by decide) (by omega) (by omega) | exact ⟨by omega, by omega⟩ | exact Or.inl ⟨by omega, by omega⟩) ?_ | refine ix_q rfl (by first | assumption | rfl | decide | exact Nat.le_of_ble_eq_true rfl | omega | (simp only [List.length_cons, List.length_nil, List.length_map, List.length_append]; omega) | exact hszl | exact hszw | exact Or.inl ⟨by decide, by decide⟩ | exact Or.inr ⟨by decide, by decide⟩ | exact pow_ok (by decide) (by decide) (by omega) (by omega) | exact ⟨by omega, by omega⟩ | exact Or.inl ⟨by omega, by omega⟩) ?_ | refine ix_str (by first | assumption | rfl | decide | exact Nat.le_of_ble_eq_true rfl | omega | (simp only [List.length_cons, List.length_nil, List.length_map, List.length_append]; omega) | exact hszl | exact hszw | exact Or.inl ⟨by decide, by decide⟩ | exact Or.inr ⟨by decide, by decide⟩ | exact pow_ok (by decide) (by decide) (by omega) (by omega) | exact ⟨by omega, by omega⟩ | exact Or.inl ⟨by omega, by omega⟩) (by first | assumption | rfl | decide | exact Nat.le_of_ble_eq_true rfl | omega | (simp only [List.length_cons, List.length_nil, List.length_map, List.length_append]; omega) | exact hszl | exact hszw | exact Or.inl ⟨by decide, by decide⟩ | exact Or.inr ⟨by decide, by decide⟩ | exact pow_ok (by decide) (by decide) (by omega) (by omega) | exact ⟨by omega, by omega⟩ | exact Or.inl ⟨by omega, by omega⟩) ?_
            refine ea_cons ?_
            refine ev_cal c__law_take hr ?_
            refine ea_cons ?_
            refine ev_name 0 rfl ?_
            refine ea_cons ?_
            refine e_len T.z_len ?_
            refine ev_name 3 rfl ?_
            refine ⟨_, rfl, by first | exact True.intro | first | assumption | rfl | decide | exact Nat.le_of_ble_eq_true rfl | omega | (simp only [List.length_cons, List.length_nil, List.length_map, List.length_append]; omega) | exact hszl | exact hszw | exact Or.inl ⟨by decide, by decide⟩ | exact Or.inr ⟨by decide, by decide⟩ | exact pow_ok (by decide) (by decide) (by omega) (by omega) | exact ⟨by omega, by omega⟩ | exact Or.inl ⟨by omega, by omega⟩, ?_⟩
            refine ea_nil ?_
            refine callP_o1 rfl rfl ?_
            refine ⟨_, _, _, rfl, rfl, by assumption, hm0, hm9, fun g22 c22 r22 hB22 h022 h122 => ?_⟩
            refine bk_1 ?_
            refine ea_nil ?_
            refine tup_of rfl (by first | assumption | rfl | decide | exact Nat.le_of_ble_eq_true rfl | omega | (simp only [List.length_cons, List.length_nil, List.length_map, List.length_append]; omega) | exact hszl | exact hszw | exact Or.inl ⟨by decide, by decide⟩ | exact Or.inr ⟨by decide, by decide⟩ | exact pow_ok (by decide) (by decide) (by omega) (by omega) | exact ⟨by omega, by omega⟩ | exact Or.inl ⟨by omega, by omega⟩) ?_
            refine ea_nil ?_
            refine tup_of rfl (by first | assumption | rfl | decide | exact Nat.le_of_ble_eq_true rfl | omega | (simp only [List.length_cons, List.length_nil, List.length_map, List.length_append]; omega) | exact hszl | exact hszw | exact Or.inl ⟨by decide, by decide⟩ | exact Or.inr ⟨by decide, by decide⟩ | exact pow_ok (by decide) (by decide) (by omega) (by omega) | exact ⟨by omega, by omega⟩ | exact Or.inl ⟨by omega, by omega⟩) ?_
            refine ea_nil ?_
            refine lst_of rfl (by first | assumption | rfl | decide | exact Nat.le_of_ble_eq_true rfl | omega | (simp only [List.length_cons, List.length_nil, List.length_map, List.length_append]; omega) | exact hszl | exact hszw | exact Or.inl ⟨by decide, by decide⟩ | exact Or.inr ⟨by decide, by decide⟩ | exact pow_ok (by decide) (by decide) (by omega) (by omega) | exact ⟨by omega, by omega⟩ | exact Or.inl ⟨by omega, by omega⟩) ?_
            first | refine plus_i ?_ | refine plus_s (by first | assumption | rfl | decide | exact Nat.le_of_ble_eq_true rfl | omega | (simp only [List.length_cons, List.length_nil, List.length_map, List.length_append]; omega) | exact hszl | exact hszw | exact Or.inl ⟨by decide, by decide⟩ | exact Or.inr ⟨by decide, by decide⟩ | exact pow_ok (by decide) (by decide) (by omega) (by omega) | exact ⟨by omega, by omega⟩ | exact Or.inl ⟨by omega, by omega⟩) ?_ | refine plus_l rfl rfl (by first | assumption | rfl | decide | exact Nat.le_of_ble_eq_true rfl | omega | (simp only [List.length_cons, List.length_nil, List.length_map, List.length_append]; omega) | exact hszl | exact hszw | exact Or.inl ⟨by decide, by decide⟩ | exact Or.inr ⟨by decide, by decide⟩ | exact pow_ok (by decide) (by decide) (by omega) (by omega) | exact ⟨by omega, by omega⟩ | exact Or.inl ⟨by omega, by omega⟩) ?_
            dsimp only
            refine retO (m' := .lst ((ns ++ [(⟨"put", .none, [xa, r22]⟩ : Nd)]).map Nd.d)) ?_ rfl ?_ (hP _ _ _ (by assumption) (FW.mk' hW (.put xa r22 (hW.rl _ (by simp)).1 (hW.rl _ (by simp)).2 h022 (by simpa using h122)) (by simp) hn1 (by simp at hl32; omega))) rfl
            · simp
            · rw [List.map_append]; rfl
          · refine s_nil ?_
            refine s_cons ?_
            refine s_ret ?_
            refine ev_bin b_plus ?_
            refine ev_name 3 rfl ?_
            refine ev_list ?_
            refine ea_cons ?_
            refine ev_tuple ?_
            refine ea_cons ?_
            refine ev_str ?_
            refine ea_cons ?_
            refine ev_sub (fun _ _ => rfl) ?_
            refine ev_tuple ?_
            refine ea_cons ?_
            refine ev_str ?_
            refine ea_cons ?_
            refine ev_str ?_
            refine ea_cons ?_
            refine ev_str ?_
            refine ea_nil ?_
            refine tup_of rfl (by first | assumption | rfl | decide | exact Nat.le_of_ble_eq_true rfl | omega | (simp only [List.length_cons, List.length_nil, List.length_map, List.length_append]; omega) | exact hszl | exact hszw | exact Or.inl ⟨by decide, by decide⟩ | exact Or.inr ⟨by decide, by decide⟩ | exact pow_ok (by decide) (by decide) (by omega) (by omega) | exact ⟨by omega, by omega⟩ | exact Or.inl ⟨by omega, by omega⟩) ?_
            refine ev_cal c__law_take hr ?_
            refine ea_cons ?_
            refine ev_name 0 rfl ?_
            refine ea_cons ?_
            refine ev_int ?_
            refine ea_nil ?_
            refine callP_o1 rfl rfl ?_
            refine ⟨_, _, _, rfl, rfl, by assumption, by decide, by decide, fun g23 c23 r23 hB23 h023 h123 => ?_⟩
            refine bk_1 ?_
            obtain ⟨sx, hsx, hsm⟩ := strs_at (xs := names3) h023 (by unfold names3; exact h123)
            refine ix_q (ds := names3.map PyData.str) ?_ hsx ?_
            · rfl
            refine ea_cons ?_
            refine ev_tuple ?_
            refine ea_cons ?_
            refine ev_sub (fun _ _ => rfl) ?_
            refine ev_name 4 rfl ?_
            refine ev_int ?_
            first | refine ix_scr (by first | assumption | rfl | decide | exact Nat.le_of_ble_eq_true rfl | omega | (simp only [List.length_cons, List.length_nil, List.length_map, List.length_append]; omega) | exact hszl | exact hszw | exact Or.inl ⟨by decide, by decide⟩ | exact Or.inr ⟨by decide, by decide⟩ | exact pow_ok (by decide) (by decide) (by omega) (by omega) | exact ⟨by omega, by omega⟩ | exact Or.inl ⟨by omega, by omega⟩) ?_ | refine ix_q rfl (by first | assumption | rfl | decide | exact Nat.le_of_ble_eq_true rfl | omega | (simp only [List.length_cons, List.length_nil, List.length_map, List.length_append]; omega) | exact hszl | exact hszw | exact Or.inl ⟨by decide, by decide⟩ | exact Or.inr ⟨by decide, by decide⟩ | exact pow_ok (by decide) (by decide) (by omega) (by omega) | exact ⟨by omega, by omega⟩ | exact Or.inl ⟨by omega, by omega⟩) ?_ | refine ix_str (by first | assumption | rfl | decide | exact Nat.le_of_ble_eq_true rfl | omega | (simp only [List.length_cons, List.length_nil, List.length_map, List.length_append]; omega) | exact hszl | exact hszw | exact Or.inl ⟨by decide, by decide⟩ | exact Or.inr ⟨by decide, by decide⟩ | exact pow_ok (by decide) (by decide) (by omega) (by omega) | exact ⟨by omega, by omega⟩ | exact Or.inl ⟨by omega, by omega⟩) (by first | assumption | rfl | decide | exact Nat.le_of_ble_eq_true rfl | omega | (simp only [List.length_cons, List.length_nil, List.length_map, List.length_append]; omega) | exact hszl | exact hszw | exact Or.inl ⟨by decide, by decide⟩ | exact Or.inr ⟨by decide, by decide⟩ | exact pow_ok (by decide) (by decide) (by omega) (by omega) | exact ⟨by omega, by omega⟩ | exact Or.inl ⟨by omega, by omega⟩) ?_
            refine ea_nil ?_
            refine tup_of rfl (by first | assumption | rfl | decide | exact Nat.le_of_ble_eq_true rfl | omega | (simp only [List.length_cons, List.length_nil, List.length_map, List.length_append]; omega) | exact hszl | exact hszw | exact Or.inl ⟨by decide, by decide⟩ | exact Or.inr ⟨by decide, by decide⟩ | exact pow_ok (by decide) (by decide) (by omega) (by omega) | exact ⟨by omega, by omega⟩ | exact Or.inl ⟨by omega, by omega⟩) ?_
            refine ea_nil ?_
            refine tup_of rfl (by first | assumption | rfl | decide | exact Nat.le_of_ble_eq_true rfl | omega | (simp only [List.length_cons, List.length_nil, List.length_map, List.length_append]; omega) | exact hszl | exact hszw | exact Or.inl ⟨by decide, by decide⟩ | exact Or.inr ⟨by decide, by decide⟩ | exact pow_ok (by decide) (by decide) (by omega) (by omega) | exact ⟨by omega, by omega⟩ | exact Or.inl ⟨by omega, by omega⟩) ?_
            refine ea_nil ?_
            refine lst_of rfl (by first | assumption | rfl | decide | exact Nat.le_of_ble_eq_true rfl | omega | (simp only [List.length_cons, List.length_nil, List.length_map, List.length_append]; omega) | exact hszl | exact hszw | exact Or.inl ⟨by decide, by decide⟩ | exact Or.inr ⟨by decide, by decide⟩ | exact pow_ok (by decide) (by decide) (by omega) (by omega) | exact ⟨by omega, by omega⟩ | exact Or.inl ⟨by omega, by omega⟩) ?_
            first | refine plus_i ?_ | refine plus_s (by first | assumption | rfl | decide | exact Nat.le_of_ble_eq_true rfl | omega | (simp only [List.length_cons, List.length_nil, List.length_map, List.length_append]; omega) | exact hszl | exact hszw | exact Or.inl ⟨by decide, by decide⟩ | exact Or.inr ⟨by decide, by decide⟩ | exact pow_ok (by decide) (by decide) (by omega) (by omega) | exact ⟨by omega, by omega⟩ | exact Or.inl ⟨by omega, by omega⟩) ?_ | refine plus_l rfl rfl (by first | assumption | rfl | decide | exact Nat.le_of_ble_eq_true rfl | omega | (simp only [List.length_cons, List.length_nil, List.length_map, List.length_append]; omega) | exact hszl | exact hszw | exact Or.inl ⟨by decide, by decide⟩ | exact Or.inr ⟨by decide, by decide⟩ | exact pow_ok (by decide) (by decide) (by omega) (by omega) | exact ⟨by omega, by omega⟩ | exact Or.inl ⟨by omega, by omega⟩) ?_
            dsimp only
            refine retO (m' := .lst ((ns ++ [(⟨"set", .str sx, [xa]⟩ : Nd)]).map Nd.d)) ?_ rfl ?_ (hP _ _ _ (by assumption) (FW.mk' hW (.set sx xa hsm (hW.rl _ (by simp)).1 (hW.rl _ (by simp)).2) (by simp) hn1 (by simp at hl32; omega))) rfl
            · simp
            · rw [List.map_append]; rfl
        · refine ⟨fun hC => (by cases hC), fun hC => ?_⟩
          refine s_nil ?_
          refine s_cons ?_
          refine s_ret ?_
          refine ev_bin b_plus ?_
          refine ev_name 3 rfl ?_
          refine ev_list ?_
          refine ea_cons ?_
          refine ev_tuple ?_
          refine ea_cons ?_
          refine ev_str ?_
          refine ea_cons ?_
          refine ev_sub (fun _ _ => rfl) ?_
          refine ev_tuple ?_
          refine ea_cons ?_
          refine ev_str ?_
          refine ea_cons ?_
          refine ev_str ?_
          refine ea_cons ?_
          refine ev_str ?_
          refine ea_nil ?_
          refine tup_of rfl (by first | assumption | rfl | decide | exact Nat.le_of_ble_eq_true rfl | omega | (simp only [List.length_cons, List.length_nil, List.length_map, List.length_append]; omega) | exact hszl | exact hszw | exact Or.inl ⟨by decide, by decide⟩ | exact Or.inr ⟨by decide, by decide⟩ | exact pow_ok (by decide) (by decide) (by omega) (by omega) | exact ⟨by omega, by omega⟩ | exact Or.inl ⟨by omega, by omega⟩) ?_
          refine ev_cal c__law_take hr ?_
          refine ea_cons ?_
          refine ev_name 0 rfl ?_
          refine ea_cons ?_
          refine ev_int ?_
          refine ea_nil ?_
          refine callP_o1 rfl rfl ?_
          refine ⟨_, _, _, rfl, rfl, by assumption, by decide, by decide, fun g24 c24 r24 hB24 h024 h124 => ?_⟩
          refine bk_1 ?_
          obtain ⟨sx, hsx, hsm⟩ := strs_at (xs := names3) h024 (by unfold names3; exact h124)
          refine ix_q (ds := names3.map PyData.str) ?_ hsx ?_
          · rfl
          refine ea_cons ?_
          refine ev_tuple ?_
          refine ea_cons ?_
          refine ev_sub (fun _ _ => rfl) ?_
          refine ev_name 4 rfl ?_
          refine ev_int ?_
          first | refine ix_scr (by first | assumption | rfl | decide | exact Nat.le_of_ble_eq_true rfl | omega | (simp only [List.length_cons, List.length_nil, List.length_map, List.length_append]; omega) | exact hszl | exact hszw | exact Or.inl ⟨by decide, by decide⟩ | exact Or.inr ⟨by decide, by decide⟩ | exact pow_ok (by decide) (by decide) (by omega) (by omega) | exact ⟨by omega, by omega⟩ | exact Or.inl ⟨by omega, by omega⟩) ?_ | refine ix_q rfl (by first | assumption | rfl | decide | exact Nat.le_of_ble_eq_true rfl | omega | (simp only [List.length_cons, List.length_nil, List.length_map, List.length_append]; omega) | exact hszl | exact hszw | exact Or.inl ⟨by decide, by decide⟩ | exact Or.inr ⟨by decide, by decide⟩ | exact pow_ok (by decide) (by decide) (by omega) (by omega) | exact ⟨by omega, by omega⟩ | exact Or.inl ⟨by omega, by omega⟩) ?_ | refine ix_str (by first | assumption | rfl | decide | exact Nat.le_of_ble_eq_true rfl | omega | (simp only [List.length_cons, List.length_nil, List.length_map, List.length_append]; omega) | exact hszl | exact hszw | exact Or.inl ⟨by decide, by decide⟩ | exact Or.inr ⟨by decide, by decide⟩ | exact pow_ok (by decide) (by decide) (by omega) (by omega) | exact ⟨by omega, by omega⟩ | exact Or.inl ⟨by omega, by omega⟩) (by first | assumption | rfl | decide | exact Nat.le_of_ble_eq_true rfl | omega | (simp only [List.length_cons, List.length_nil, List.length_map, List.length_append]; omega) | exact hszl | exact hszw | exact Or.inl ⟨by decide, by decide⟩ | exact Or.inr ⟨by decide, by decide⟩ | exact pow_ok (by decide) (by decide) (by omega) (by omega) | exact ⟨by omega, by omega⟩ | exact Or.inl ⟨by omega, by omega⟩) ?_
          refine ea_nil ?_
          refine tup_of rfl (by first | assumption | rfl | decide | exact Nat.le_of_ble_eq_true rfl | omega | (simp only [List.length_cons, List.length_nil, List.length_map, List.length_append]; omega) | exact hszl | exact hszw | exact Or.inl ⟨by decide, by decide⟩ | exact Or.inr ⟨by decide, by decide⟩ | exact pow_ok (by decide) (by decide) (by omega) (by omega) | exact ⟨by omega, by omega⟩ | exact Or.inl ⟨by omega, by omega⟩) ?_
          refine ea_nil ?_
          refine tup_of rfl (by first | assumption | rfl | decide | exact Nat.le_of_ble_eq_true rfl | omega | (simp only [List.length_cons, List.length_nil, List.length_map, List.length_append]; omega) | exact hszl | exact hszw | exact Or.inl ⟨by decide, by decide⟩ | exact Or.inr ⟨by decide, by decide⟩ | exact pow_ok (by decide) (by decide) (by omega) (by omega) | exact ⟨by omega, by omega⟩ | exact Or.inl ⟨by omega, by omega⟩) ?_
          refine ea_nil ?_
          refine lst_of rfl (by first | assumption | rfl | decide | exact Nat.le_of_ble_eq_true rfl | omega | (simp only [List.length_cons, List.length_nil, List.length_map, List.length_append]; omega) | exact hszl | exact hszw | exact Or.inl ⟨by decide, by decide⟩ | exact Or.inr ⟨by decide, by decide⟩ | exact pow_ok (by decide) (by decide) (by omega) (by omega) | exact ⟨by omega, by omega⟩ | exact Or.inl ⟨by omega, by omega⟩) ?_
          first | refine plus_i ?_ | refine plus_s (by first | assumption | rfl | decide | exact Nat.le_of_ble_eq_true rfl | omega | (simp only [List.length_cons, List.length_nil, List.length_map, List.length_append]; omega) | exact hszl | exact hszw | exact Or.inl ⟨by decide, by decide⟩ | exact Or.inr ⟨by decide, by decide⟩ | exact pow_ok (by decide) (by decide) (by omega) (by omega) | exact ⟨by omega, by omega⟩ | exact Or.inl ⟨by omega, by omega⟩) ?_ | refine plus_l rfl rfl (by first | assumption | rfl | decide | exact Nat.le_of_ble_eq_true rfl | omega | (simp only [List.length_cons, List.length_nil, List.length_map, List.length_append]; omega) | exact hszl | exact hszw | exact Or.inl ⟨by decide, by decide⟩ | exact Or.inr ⟨by decide, by decide⟩ | exact pow_ok (by decide) (by decide) (by omega) (by omega) | exact ⟨by omega, by omega⟩ | exact Or.inl ⟨by omega, by omega⟩) ?_
          dsimp only
          refine retO (m' := .lst ((ns ++ [(⟨"set", .str sx, [xa]⟩ : Nd)]).map Nd.d)) ?_ rfl ?_ (hP _ _ _ (by assumption) (FW.mk' hW (.set sx xa hsm (hW.rl _ (by simp)).1 (hW.rl _ (by simp)).2) (by simp) hn1 (by simp at hl32; omega))) rfl
          · simp
          · rw [List.map_append]; rfl
end
end K71
set_option maxRecDepth 100000
set_option maxHeartbeats 4000000
namespace K71
open PySem PySem.Spec PyProof.Rows L2 Dv
section
variable {w : World} {K : PySem.W.Frag} {mg : Str → Option Value} {base : Heap}
def sp__law_node : Dv.Spec := sp_show_node
theorem len__law_node {sls μ P} (h : sp__law_node sls μ P) : sls.length = 1 := len_show_node h
def sp__law_text : Dv.Spec := sp_show_web
theorem len__law_text {sls μ P} (h : sp__law_text sls μ P) : sls.length = 1 := len_show_web h
def mkS : PyData → PyData
  | .int i => .str (numS i)
  | d => d

abbrev N__law_node : List Str := ["_law_node_here", "_law_op", "_law_mark", "_law_kids", "_law_one", "_law_kid"]
theorem nd__law_node : N__law_node.Nodup := by decide +kernel
abbrev s__law_node : Stmt := tp 38
theorem sc__law_node : FnScope N__law_node ["_law_node_here"] (C8.fnScope s__law_node) := C8.fnScope_by (by decide +kernel)
theorem cal__law_node (T : Txt w K mg)  {f : Addr} {fd : FuncData} (D : DefD K mg "_law_node" s__law_node ["_law_node_here"] [] f fd) : Cal PW w K mg base (0 + 1) "_law_node" sp__law_node [] := by
  refine cal_data (N := N__law_node) D sc__law_node (fun sls μ P h => ?_) ?_
  · exact len__law_node h
  rintro X ⟨cdv, A, outer, s, H, E, rfl⟩ hr S sls μ Pr hS ⟨n, rfl, hS2, rfl, hP⟩
  have nd := nd__law_node
  have hu := hr.units
  have hu2 := units65 hr
  obtain ⟨op, mk, kids⟩ := n
  obtain ⟨h1, h2, h3, h4⟩ := hS2
  dsimp only at h1 h2 h3
  rcases h1 with rfl | ⟨i, rfl, hi⟩ | ⟨sx, rfl⟩
  · refine s_cons ?_
    refine s_asg [1, 2, 3] ?_
    refine ev_name 0 rfl ?_
    refine ag_tup rfl rfl ?_
    refine ags_cons ?_
    refine ag_name 1 nd ?_ (by decide)
    refine ags_cons ?_
    refine ag_name 2 nd ?_ (by decide)
    refine ags_cons ?_
    refine ag_name 3 nd ?_ (by decide)
    refine ags_nil ?_
    refine s_cons ?_
    refine s_ret ?_
    refine e_join ?_
    refine ev_str ?_
    refine ⟨_, rfl, ?_⟩
    refine ev_bin b_plus ?_
    refine ev_bin b_plus ?_
    refine ev_list ?_
    refine ea_cons ?_
    refine ev_name 1 rfl ?_
    refine ea_nil ?_
    refine lst_of rfl (by first | assumption | rfl | decide | exact Nat.le_of_ble_eq_true rfl | omega | (simp only [List.length_cons, List.length_nil, List.length_map, List.length_append]; omega) | exact hszl | exact hszw | exact Or.inl ⟨by decide, by decide⟩ | exact Or.inr ⟨by decide, by decide⟩ | exact pow_ok (by decide) (by decide) (by omega) (by omega) | exact ⟨by omega, by omega⟩ | exact Or.inl ⟨by omega, by omega⟩) ?_
    refine ev_lc [("_law_one", 4)] [4] rfl nd (blkOk_by (N := N__law_node) (sc := C8.fnScope s__law_node) (by decide +kernel)) (.one _) (by decide) ?_
    refine iv_list (Ev.data ?_)
    refine ev_list ?_
    refine ea_cons ?_
    refine ev_name 2 rfl ?_
    refine ea_nil ?_
    refine lst_of rfl (by first | assumption | rfl | decide | exact Nat.le_of_ble_eq_true rfl | omega | (simp only [List.length_cons, List.length_nil, List.length_map, List.length_append]; omega) | exact hszl | exact hszw | exact Or.inl ⟨by decide, by decide⟩ | exact Or.inr ⟨by decide, by decide⟩ | exact pow_ok (by decide) (by decide) (by omega) (by omega) | exact ⟨by omega, by omega⟩ | exact Or.inl ⟨by omega, by omega⟩) ?_
    refine ⟨by first | exact Nat.le_refl _ | simp, _, rfl, ?_⟩
    refine ⟨_, rfl, ?_⟩
    refine lcd_filter (fun d => !isNonD d) mkS (by first | decide | exact Nat.le_of_ble_eq_true rfl) (fun d hd acc => ?_) ?_
    · obtain rfl := List.mem_singleton.mp hd
      intro s0 H0 C0 cl0 fp0
      refine ag_name 4 nd ?_ (by decide)
      intro s1 H1 C1 cl1 fp1
      refine et_cmp c_notN rfl ?_
      refine ev_name 4 rfl ?_
      refine ev_none ?_
      refine isnot_n ?_
      refine ⟨_, rfl, ?_⟩
      exact ⟨rfl, rfl, fun hT => Bool.noConfusion (show false = true from hT)⟩
    first | refine plus_i ?_ | refine plus_s (by first | assumption | rfl | decide | exact Nat.le_of_ble_eq_true rfl | omega | (simp only [List.length_cons, List.length_nil, List.length_map, List.length_append]; omega) | exact hszl | exact hszw | exact Or.inl ⟨by decide, by decide⟩ | exact Or.inr ⟨by decide, by decide⟩ | exact pow_ok (by decide) (by decide) (by omega) (by omega) | exact ⟨by omega, by omega⟩ | exact Or.inl ⟨by omega, by omega⟩) ?_ | refine plus_l rfl rfl (by first | assumption | rfl | decide | exact Nat.le_of_ble_eq_true rfl | omega | (simp only [List.length_cons, List.length_nil, List.length_map, List.length_append]; omega) | exact hszl | exact hszw | exact Or.inl ⟨by decide, by decide⟩ | exact Or.inr ⟨by decide, by decide⟩ | exact pow_ok (by decide) (by decide) (by omega) (by omega) | exact ⟨by omega, by omega⟩ | exact Or.inl ⟨by omega, by omega⟩) ?_
    refine ev_lc [("_law_kid", 5)] [5] rfl nd (blkOk_by (N := N__law_node) (sc := C8.fnScope s__law_node) (by decide +kernel)) .nil (by decide) ?_
    refine iv_tup ?_
    refine ev_name 3 rfl ?_
    refine ⟨_, rfl, ?_⟩
    refine lcd_mapT kids PyData.int (fun k => PyData.str (numS k)) (rfl) (by omega) (fun x hx acc => ?_) ?_
    · have hxs := h2 x hx
      intro s0 H0 C0 cl0 fp0
      refine ag_name 5 nd ?_ (by decide)
      intro s1 H1 C1 cl1 fp1
      refine e_str T.z_str ?_
      refine ev_name 5 rfl ?_
      first | refine str_i (by first | assumption | rfl | decide | exact Nat.le_of_ble_eq_true rfl | omega | (simp only [List.length_cons, List.length_nil, List.length_map, List.length_append]; omega) | exact hszl | exact hszw | exact Or.inl ⟨by decide, by decide⟩ | exact Or.inr ⟨by decide, by decide⟩ | exact pow_ok (by decide) (by decide) (by omega) (by omega) | exact ⟨by omega, by omega⟩ | exact Or.inl ⟨by omega, by omega⟩) ?_ | refine str_s ?_
      exact ⟨rfl, rfl⟩
    refine plus_l rfl rfl (by have e : (kids.map fun k => PyData.str (numS k)).length = kids.length := List.length_map _; rw [e]; exact Nat.le_trans (Nat.add_le_add_right (show _ ≤ 2 from Nat.le_of_ble_eq_true rfl) _) (by omega)) ?_
    refine ⟨[op] ++ kids.map numS, ?_, by rw [sp_len]; simpa [wordsN, markW] using h4, ?_⟩
    · show some _ = some _; rw [List.map_append, List.map_map]; rfl
    exact retD rfl hP rfl
  · refine s_cons ?_
    refine s_asg [1, 2, 3] ?_
    refine ev_name 0 rfl ?_
    refine ag_tup rfl rfl ?_
    refine ags_cons ?_
    refine ag_name 1 nd ?_ (by decide)
    refine ags_cons ?_
    refine ag_name 2 nd ?_ (by decide)
    refine ags_cons ?_
    refine ag_name 3 nd ?_ (by decide)
    refine ags_nil ?_
    refine s_cons ?_
    refine s_ret ?_
    refine e_join ?_
    refine ev_str ?_
    refine ⟨_, rfl, ?_⟩
    refine ev_bin b_plus ?_
    refine ev_bin b_plus ?_
    refine ev_list ?_
    refine ea_cons ?_
    refine ev_name 1 rfl ?_
    refine ea_nil ?_
    refine lst_of rfl (by first | assumption | rfl | decide | exact Nat.le_of_ble_eq_true rfl | omega | (simp only [List.length_cons, List.length_nil, List.length_map, List.length_append]; omega) | exact hszl | exact hszw | exact Or.inl ⟨by decide, by decide⟩ | exact Or.inr ⟨by decide, by decide⟩ | exact pow_ok (by decide) (by decide) (by omega) (by omega) | exact ⟨by omega, by omega⟩ | exact Or.inl ⟨by omega, by omega⟩) ?_
    refine ev_lc [("_law_one", 4)] [4] rfl nd (blkOk_by (N := N__law_node) (sc := C8.fnScope s__law_node) (by decide +kernel)) (.one _) (by decide) ?_
    refine iv_list (Ev.data ?_)
    refine ev_list ?_
    refine ea_cons ?_
    refine ev_name 2 rfl ?_
    refine ea_nil ?_
    refine lst_of rfl (by first | assumption | rfl | decide | exact Nat.le_of_ble_eq_true rfl | omega | (simp only [List.length_cons, List.length_nil, List.length_map, List.length_append]; omega) | exact hszl | exact hszw | exact Or.inl ⟨by decide, by decide⟩ | exact Or.inr ⟨by decide, by decide⟩ | exact pow_ok (by decide) (by decide) (by omega) (by omega) | exact ⟨by omega, by omega⟩ | exact Or.inl ⟨by omega, by omega⟩) ?_
    refine ⟨by first | exact Nat.le_refl _ | simp, _, rfl, ?_⟩
    refine ⟨_, rfl, ?_⟩
    refine lcd_filter (fun d => !isNonD d) mkS (by first | decide | exact Nat.le_of_ble_eq_true rfl) (fun d hd acc => ?_) ?_
    · obtain rfl := List.mem_singleton.mp hd
      intro s0 H0 C0 cl0 fp0
      refine ag_name 4 nd ?_ (by decide)
      intro s1 H1 C1 cl1 fp1
      refine et_cmp c_notN rfl ?_
      refine ev_name 4 rfl ?_
      refine ev_none ?_
      refine isnot_n ?_
      refine ⟨_, rfl, ?_⟩
      refine ⟨rfl, rfl, fun hT => ?_⟩
      intro s2 H2 C2 cl2 fp2
      refine e_str T.z_str ?_
      refine ev_name 4 rfl ?_
      first | refine str_i (by first | assumption | rfl | decide | exact Nat.le_of_ble_eq_true rfl | omega | (simp only [List.length_cons, List.length_nil, List.length_map, List.length_append]; omega) | exact hszl | exact hszw | exact Or.inl ⟨by decide, by decide⟩ | exact Or.inr ⟨by decide, by decide⟩ | exact pow_ok (by decide) (by decide) (by omega) (by omega) | exact ⟨by omega, by omega⟩ | exact Or.inl ⟨by omega, by omega⟩) ?_ | refine str_s ?_
      exact ⟨rfl, rfl⟩
    first | refine plus_i ?_ | refine plus_s (by first | assumption | rfl | decide | exact Nat.le_of_ble_eq_true rfl | omega | (simp only [List.length_cons, List.length_nil, List.length_map, List.length_append]; omega) | exact hszl | exact hszw | exact Or.inl ⟨by decide, by decide⟩ | exact Or.inr ⟨by decide, by decide⟩ | exact pow_ok (by decide) (by decide) (by omega) (by omega) | exact ⟨by omega, by omega⟩ | exact Or.inl ⟨by omega, by omega⟩) ?_ | refine plus_l rfl rfl (by first | assumption | rfl | decide | exact Nat.le_of_ble_eq_true rfl | omega | (simp only [List.length_cons, List.length_nil, List.length_map, List.length_append]; omega) | exact hszl | exact hszw | exact Or.inl ⟨by decide, by decide⟩ | exact Or.inr ⟨by decide, by decide⟩ | exact pow_ok (by decide) (by decide) (by omega) (by omega) | exact ⟨by omega, by omega⟩ | exact Or.inl ⟨by omega, by omega⟩) ?_
    refine ev_lc [("_law_kid", 5)] [5] rfl nd (blkOk_by (N := N__law_node) (sc := C8.fnScope s__law_node) (by decide +kernel)) .nil (by decide) ?_
    refine iv_tup ?_
    refine ev_name 3 rfl ?_
    refine ⟨_, rfl, ?_⟩
    refine lcd_mapT kids PyData.int (fun k => PyData.str (numS k)) (rfl) (by omega) (fun x hx acc => ?_) ?_
    · have hxs := h2 x hx
      intro s0 H0 C0 cl0 fp0
      refine ag_name 5 nd ?_ (by decide)
      intro s1 H1 C1 cl1 fp1
      refine e_str T.z_str ?_
      refine ev_name 5 rfl ?_
      first | refine str_i (by first | assumption | rfl | decide | exact Nat.le_of_ble_eq_true rfl | omega | (simp only [List.length_cons, List.length_nil, List.length_map, List.length_append]; omega) | exact hszl | exact hszw | exact Or.inl ⟨by decide, by decide⟩ | exact Or.inr ⟨by decide, by decide⟩ | exact pow_ok (by decide) (by decide) (by omega) (by omega) | exact ⟨by omega, by omega⟩ | exact Or.inl ⟨by omega, by omega⟩) ?_ | refine str_s ?_
      exact ⟨rfl, rfl⟩
    refine plus_l rfl rfl (by have e : (kids.map fun k => PyData.str (numS k)).length = kids.length := List.length_map _; rw [e]; exact Nat.le_trans (Nat.add_le_add_right (show _ ≤ 2 from Nat.le_of_ble_eq_true rfl) _) (by omega)) ?_
    refine ⟨[op, numS i] ++ kids.map numS, ?_, by rw [sp_len]; simpa [wordsN, markW] using h4, ?_⟩
    · show some _ = some _; rw [List.map_append, List.map_map]; rfl
    exact retD rfl hP rfl
  · refine s_cons ?_
    refine s_asg [1, 2, 3] ?_
    refine ev_name 0 rfl ?_
    refine ag_tup rfl rfl ?_
    refine ags_cons ?_
    refine ag_name 1 nd ?_ (by decide)
    refine ags_cons ?_
    refine ag_name 2 nd ?_ (by decide)
    refine ags_cons ?_
    refine ag_name 3 nd ?_ (by decide)
    refine ags_nil ?_
    refine s_cons ?_
    refine s_ret ?_
    refine e_join ?_
    refine ev_str ?_
    refine ⟨_, rfl, ?_⟩
    refine ev_bin b_plus ?_
    refine ev_bin b_plus ?_
    refine ev_list ?_
    refine ea_cons ?_
    refine ev_name 1 rfl ?_
    refine ea_nil ?_
    refine lst_of rfl (by first | assumption | rfl | decide | exact Nat.le_of_ble_eq_true rfl | omega | (simp only [List.length_cons, List.length_nil, List.length_map, List.length_append]; omega) | exact hszl | exact hszw | exact Or.inl ⟨by decide, by decide⟩ | exact Or.inr ⟨by decide, by decide⟩ | exact pow_ok (by decide) (by decide) (by omega) (by omega) | exact ⟨by omega, by omega⟩ | exact Or.inl ⟨by omega, by omega⟩) ?_
    refine ev_lc [("_law_one", 4)] [4] rfl nd (blkOk_by (N := N__law_node) (sc := C8.fnScope s__law_node) (by decide +kernel)) (.one _) (by decide) ?_
    refine iv_list (Ev.data ?_)
    refine ev_list ?_
    refine ea_cons ?_
    refine ev_name 2 rfl ?_
    refine ea_nil ?_
    refine lst_of rfl (by first | assumption | rfl | decide | exact Nat.le_of_ble_eq_true rfl | omega | (simp only [List.length_cons, List.length_nil, List.length_map, List.length_append]; omega) | exact hszl | exact hszw | exact Or.inl ⟨by decide, by decide⟩ | exact Or.inr ⟨by decide, by decide⟩ | exact pow_ok (by decide) (by decide) (by omega) (by omega) | exact ⟨by omega, by omega⟩ | exact Or.inl ⟨by omega, by omega⟩) ?_
    refine ⟨by first | exact Nat.le_refl _ | simp, _, rfl, ?_⟩
    refine ⟨_, rfl, ?_⟩
    refine lcd_filter (fun d => !isNonD d) mkS (by first | decide | exact Nat.le_of_ble_eq_true rfl) (fun d hd acc => ?_) ?_
    · obtain rfl := List.mem_singleton.mp hd
      intro s0 H0 C0 cl0 fp0
      refine ag_name 4 nd ?_ (by decide)
      intro s1 H1 C1 cl1 fp1
      refine et_cmp c_notN rfl ?_
      refine ev_name 4 rfl ?_
      refine ev_none ?_
      refine isnot_n ?_
      refine ⟨_, rfl, ?_⟩
      refine ⟨rfl, rfl, fun hT => ?_⟩
      intro s2 H2 C2 cl2 fp2
      refine e_str T.z_str ?_
      refine ev_name 4 rfl ?_
      first | refine str_i (by first | assumption | rfl | decide | exact Nat.le_of_ble_eq_true rfl | omega | (simp only [List.length_cons, List.length_nil, List.length_map, List.length_append]; omega) | exact hszl | exact hszw | exact Or.inl ⟨by decide, by decide⟩ | exact Or.inr ⟨by decide, by decide⟩ | exact pow_ok (by decide) (by decide) (by omega) (by omega) | exact ⟨by omega, by omega⟩ | exact Or.inl ⟨by omega, by omega⟩) ?_ | refine str_s ?_
      exact ⟨rfl, rfl⟩
    first | refine plus_i ?_ | refine plus_s (by first | assumption | rfl | decide | exact Nat.le_of_ble_eq_true rfl | omega | (simp only [List.length_cons, List.length_nil, List.length_map, List.length_append]; omega) | exact hszl | exact hszw | exact Or.inl ⟨by decide, by decide⟩ | exact Or.inr ⟨by decide, by decide⟩ | exact pow_ok (by decide) (by decide) (by omega) (by omega) | exact ⟨by omega, by omega⟩ | exact Or.inl ⟨by omega, by omega⟩) ?_ | refine plus_l rfl rfl (by first | assumption | rfl | decide | exact Nat.le_of_ble_eq_true rfl | omega | (simp only [List.length_cons, List.length_nil, List.length_map, List.length_append]; omega) | exact hszl | exact hszw | exact Or.inl ⟨by decide, by decide⟩ | exact Or.inr ⟨by decide, by decide⟩ | exact pow_ok (by decide) (by decide) (by omega) (by omega) | exact ⟨by omega, by omega⟩ | exact Or.inl ⟨by omega, by omega⟩) ?_
    refine ev_lc [("_law_kid", 5)] [5] rfl nd (blkOk_by (N := N__law_node) (sc := C8.fnScope s__law_node) (by decide +kernel)) .nil (by decide) ?_
    refine iv_tup ?_
    refine ev_name 3 rfl ?_
    refine ⟨_, rfl, ?_⟩
    refine lcd_mapT kids PyData.int (fun k => PyData.str (numS k)) (rfl) (by omega) (fun x hx acc => ?_) ?_
    · have hxs := h2 x hx
      intro s0 H0 C0 cl0 fp0
      refine ag_name 5 nd ?_ (by decide)
      intro s1 H1 C1 cl1 fp1
      refine e_str T.z_str ?_
      refine ev_name 5 rfl ?_
      first | refine str_i (by first | assumption | rfl | decide | exact Nat.le_of_ble_eq_true rfl | omega | (simp only [List.length_cons, List.length_nil, List.length_map, List.length_append]; omega) | exact hszl | exact hszw | exact Or.inl ⟨by decide, by decide⟩ | exact Or.inr ⟨by decide, by decide⟩ | exact pow_ok (by decide) (by decide) (by omega) (by omega) | exact ⟨by omega, by omega⟩ | exact Or.inl ⟨by omega, by omega⟩) ?_ | refine str_s ?_
      exact ⟨rfl, rfl⟩
    refine plus_l rfl rfl (by have e : (kids.map fun k => PyData.str (numS k)).length = kids.length := List.length_map _; rw [e]; exact Nat.le_trans (Nat.add_le_add_right (show _ ≤ 2 from Nat.le_of_ble_eq_true rfl) _) (by omega)) ?_
    refine ⟨[op, sx] ++ kids.map numS, ?_, by rw [sp_len]; simpa [wordsN, markW] using h4, ?_⟩
    · show some _ = some _; rw [List.map_append, List.map_map]; rfl
    exact retD rfl hP rfl
abbrev N__law_text : List Str := ["_law_web_here", "_law_node_here"]
theorem nd__law_text : N__law_text.Nodup := by decide +kernel
abbrev s__law_text : Stmt := tp 39
theorem sc__law_text : FnScope N__law_text ["_law_web_here"] (C8.fnScope s__law_text) := C8.fnScope_by (by decide +kernel)
theorem cal__law_text (T : Txt w K mg) (c__law_node : Cal PW w K mg base 1 "_law_node" sp__law_node []) {f : Addr} {fd : FuncData} (D : DefD K mg "_law_text" s__law_text ["_law_web_here"] [] f fd) : Cal PW w K mg base (1 + 1) "_law_text" sp__law_text [] := by
  refine cal_data (N := N__law_text) D sc__law_text (fun sls μ P h => ?_) ?_
  · exact len__law_text h
  rintro X ⟨cdv, A, outer, s, H, E, rfl⟩ hr S sls μ Pr hS ⟨ns, rfl, hW, rfl, hP⟩
  have nd := nd__law_text
  have hu := hr.units
  have hu2 := units65 hr
  refine s_cons ?_
  refine s_ret ?_
  refine e_join ?_
  refine ev_str ?_
  refine ⟨_, rfl, ?_⟩
  refine ev_lc [("_law_node_here", 1)] [1] rfl nd (blkOk_by (N := N__law_text) (sc := C8.fnScope s__law_text) (by decide +kernel)) .nil (by decide) ?_
  refine iv_list ?_
  refine ev_name 0 rfl ?_
  refine ⟨_, rfl, ?_⟩
  refine lcd_mapT ns Nd.d (fun n => PyData.str (showN n)) (rfl) (hW.2.1) (fun x hx acc => ?_) ?_
  · intro s0 H0 C0 cl0 fp0
    refine ag_name 1 nd ?_ (by decide)
    intro s1 H1 C1 cl1 fp1
    refine ev_cal c__law_node hr ?_
    refine ea_cons ?_
    refine ev_name 1 rfl ?_
    refine ea_nil ?_
    refine callP_dat rfl ?_
    refine ⟨_, rfl, hW.1 x hx, rfl, ?_⟩
    refine bk_0 ?_
    exact ⟨rfl, rfl⟩
  refine ⟨ns.map showN, by show some _ = some _; rw [List.map_map]; rfl, by rw [sep_len]; exact hW.2.2, ?_⟩
  exact retD rfl hP rfl
end
end K71
set_option maxRecDepth 100000
set_option maxHeartbeats 4000000
namespace K71
open PySem PySem.Spec PyProof.Rows L2 Dv TL
/-! ### numbers -/
theorem numL_head : ∀ n : Nat, n ≠ 0 → (numL n).head? ≠ some 48 := by
  intro n
  induction n using Nat.strongRecOn with
  | _ n ih =>
    intro h0
    by_cases h : n < 10
    · rw [numL_lt h]
      intro e
      have : 48 + n = 48 := Option.some.inj e
      omega
    · rw [numL_step (by omega)]
      have hne := numL_ne (n / 10)
      cases e : numL (n / 10) with
      | nil => exact absurd e hne
      | cons a r =>
        have := ih (n / 10) (by omega) (by omega)
        rw [e] at this
        exact this
theorem starts_head {s : Str} (h : Txt.startswith s "0" = true) : (tl s).head? = some 48 := by
  unfold Txt.startswith Builtin.Str.subAt at h
  rw [Bool.and_eq_true] at h
  have e := congrArg Array.toList (eq_of_beq h.2)
  rw [Array.toList_extract] at e
  have e1 : (("0" : Str).cps).toList = [48] := by decide +kernel
  have e2 : ("0" : Str).length = 1 := by decide +kernel
  rw [e1, e2] at e
  cases q : tl s with
  | nil =>
    have q : s.cps.toList = [] := q
    rw [q] at e
    simp at e
  | cons c r =>
    have q : s.cps.toList = c :: r := q
    rw [q] at e
    simp at e
    rw [e]
    rfl
theorem tl_numS (n : Nat) : tl (numS (n : Int)) = numL n := tl_num n
theorem numV_num {i : Int} (h0 : 0 ≤ i) (h1 : i ≤ 65535) : numV (numS i) = i := by
  obtain ⟨n, rfl⟩ := Int.eq_ofNat_of_zero_le h0
  have ht := tl_numS n
  have hl : (numS (n : Int)).length = (numL n).length := by rw [len_tl, ht]
  have h5 : (numL n).length ≤ 5 := numL_len (by decide) (by omega)
  have h6 : 0 < (numL n).length := List.length_pos_iff.mpr (numL_ne n)
  have hf : figB (numS (n : Int)) = true := by
    unfold figB
    rw [hl]
    rw [Bool.and_eq_true, Bool.and_eq_true, decide_eq_true_eq, decide_eq_true_eq]
    refine ⟨⟨by omega, by omega⟩, List.all_eq_true.mpr fun c hc => decide_eq_true ?_⟩
    have hc : c ∈ numL n := by rw [← ht]; exact hc
    have := numL_digits n c hc
    have e : ("0123456789" : Str).cps.toList = [48, 49, 50, 51, 52, 53, 54, 55, 56, 57] := by decide +kernel
    rw [e]
    simp only [List.mem_cons, List.not_mem_nil, or_false]
    omega
  have hb : leadB (numS (n : Int)) = false := by
    unfold leadB
    cases hz : decide (numS (n : Int) = "0") with
    | true => rfl
    | false =>
      show (true && _) = false
      rw [Bool.true_and]
      cases hs : Txt.startswith (numS (n : Int)) "0" with
      | false => rfl
      | true =>
        have := starts_head hs
        rw [ht] at this
        by_cases hn : n = 0
        · subst hn
          exact absurd rfl (of_decide_eq_false hz)
        · exact absurd this (numL_head n hn)
  unfold numV
  rw [if_pos ⟨hf, hb⟩]
  show ((NumText.digitsVal (tl (numS (n : Int))) : Nat) : Int) = _
  rw [ht, numL_val]
/-! ### signs -/
def okW (l : List Nat) : Prop := l.length ≤ 8 ∧ ∀ c ∈ l, c ≠ 32 ∧ c ≠ 59 ∧ c ≠ 10 ∧ c < 128
def okT (l : List Nat) : Prop := ∀ c ∈ l, c ≠ 59 ∧ c ≠ 10 ∧ c < 128
theorem num_ok {i : Int} (h0 : 0 ≤ i) (h1 : i ≤ 65535) : okW (tl (numS i)) := by
  obtain ⟨n, rfl⟩ := Int.eq_ofNat_of_zero_le h0
  rw [tl_numS]
  exact ⟨Nat.le_trans (numL_len (k := 5) (by decide) (by omega)) (by decide), fun c hc => by have := numL_digits n c hc; omega⟩
theorem mem_joinL {S : List Nat} {c : Nat} : ∀ {ps : List (List Nat)}, c ∈ joinL S ps → c ∈ S ∨ ∃ p ∈ ps, c ∈ p
  | [], h => by unfold joinL at h; cases h
  | [p], h => .inr ⟨p, by simp, h⟩
  | p :: q :: r, h => by
    have h : c ∈ p ++ (S ++ joinL S (q :: r)) := h
    rcases List.mem_append.mp h with h | h
    · exact .inr ⟨p, by simp, h⟩
    · rcases List.mem_append.mp h with h | h
      · exact .inl h
      · rcases mem_joinL h with h | ⟨z, hz, h⟩
        · exact .inl h
        · exact .inr ⟨z, by simp at hz ⊢; exact .inr hz, h⟩
theorem len_joinL {S : List Nat} {k : Nat} : ∀ {ps : List (List Nat)}, (∀ p ∈ ps, p.length ≤ k) → (joinL S ps).length ≤ ps.length * (k + S.length)
  | [], _ => by unfold joinL; simp
  | [p], h => by
    have := h p (by simp)
    show p.length ≤ 1 * (k + S.length)
    omega
  | p :: q :: r, h => by
    have h1 := h p (by simp)
    have h2 := len_joinL (S := S) (ps := q :: r) fun z hz => h z (by simp at hz ⊢; exact .inr hz)
    show (p ++ (S ++ joinL S (q :: r))).length ≤ (r.length + 1 + 1) * (k + S.length)
    rw [List.length_append, List.length_append, Nat.add_mul _ 1]
    rw [List.length_cons] at h2
    omega
theorem tl_joinT (y : Str) (parts : List Str) : tl (Txt.join y parts) = joinL (tl y) (parts.map tl) := by rw [join_eq, tl_join]
theorem sum_le {k : Nat} : ∀ {ps : List Str}, (∀ p ∈ ps, p.length ≤ k) → (ps.map (·.length)).sum ≤ ps.length * k
  | [], _ => by simp
  | p :: r, h => by
    have h1 := h p (by simp)
    have h2 := sum_le (ps := r) fun z hz => h z (by simp [hz])
    rw [List.map_cons, List.sum_cons, List.length_cons, Nat.add_mul]
    omega
/-! ### nodes -/
structure NodeOk (n : Nd) : Prop where
  few : (wordsN n).length ≤ 4
  ok : ∀ w ∈ wordsN n, okW (tl w)
  back : rdWords n.op (markW n.mark ++ n.kids.map numS) = some n
  ms : MarkShow n.mark
  kd : ∀ k ∈ n.kids, 0 ≤ k ∧ k ≤ 65535
  sm : n.d.canLay0 = true ∧ n.d.depth ≤ 2
  ne : tl n.op ≠ []

theorem strOk_of {x : Str} (h : ∀ c ∈ tl x, c < 128) : PyData.canLay0 (.str x) = true := by
  show PyData.strOk x = true
  unfold PyData.strOk
  rw [← Array.all_toList, List.all_eq_true]
  intro c hc
  have := h c hc
  exact decide_eq_true (by omega)
theorem all_lay {k : Nat} : ∀ {xs : List PyData}, (∀ x ∈ xs, x.canLay0 = true ∧ x.depth ≤ k) → PyData.canLayAll0 xs = true ∧ PyData.depthAll xs ≤ k
  | [], _ => ⟨rfl, Nat.zero_le _⟩
  | x :: xs, h => by
    have h1 := h x (by simp)
    have h2 := all_lay (xs := xs) fun z hz => h z (by simp [hz])
    refine ⟨?_, ?_⟩
    · unfold PyData.canLayAll0; rw [h1.1, h2.1]; rfl
    · unfold PyData.depthAll; exact Nat.max_le.mpr ⟨h1.2, h2.2⟩
theorem lay_list {k : Nat} {xs : List PyData} (h : ∀ x ∈ xs, x.canLay0 = true ∧ x.depth ≤ k) : (PyData.list xs).canLay0 = true ∧ (PyData.list xs).depth ≤ k + 1 := by
  have := all_lay h
  exact ⟨by unfold PyData.canLay0; exact this.1, by unfold PyData.depth; omega⟩
theorem lay_tup {k : Nat} {xs : List PyData} (h : ∀ x ∈ xs, x.canLay0 = true ∧ x.depth ≤ k) : (PyData.tuple xs).canLay0 = true ∧ (PyData.tuple xs).depth ≤ k + 1 := by
  have := all_lay h
  exact ⟨by unfold PyData.canLay0; exact this.1, by unfold PyData.depth; omega⟩
theorem lay_shaped {d : PyData} {k : Nat} (h : d.canLay0 = true ∧ d.depth ≤ k) (hk : k ≤ 64) : SeqAt.shaped d = true := by
  unfold SeqAt.shaped
  rw [h.1, decide_eq_true (show d.depth ≤ 64 by omega)]
  rfl
theorem nd_lay {n : Nd} (h1 : ∀ c ∈ tl n.op, c < 128) (h2 : n.mark.canLay0 = true ∧ n.mark.depth ≤ 0) : n.d.canLay0 = true ∧ n.d.depth ≤ 2 := by
  refine lay_tup fun x hx => ?_
  simp only [List.mem_cons, List.not_mem_nil, or_false] at hx
  rcases hx with rfl | rfl | rfl
  · exact ⟨strOk_of h1, Nat.zero_le _⟩
  · exact ⟨h2.1, by omega⟩
  · refine lay_tup fun y hy => ?_
    obtain ⟨k, _, rfl⟩ := List.mem_map.mp hy
    exact ⟨rfl, Nat.le_refl _⟩
theorem rd_0 {op : Str} {ks : List Int} {k : Int} (hk : kvK.lookup op = some (.int k)) (hm : kvM.lookup op = none) (hl : (ks.length : Int) = k) (hv : ∀ x ∈ ks, 0 ≤ x ∧ x ≤ 65535) : rdWords op (ks.map numS) = some ⟨op, .none, ks⟩ := by
  rw [rdWords_yes hk (by rw [hm, List.length_map]; simp [hl])]
  unfold rdTail
  rw [hm]
  have e : (ks.map numS).map numV = ks := by
    rw [List.map_map]
    calc ks.map (numV ∘ numS) = ks.map id := List.map_congr_left fun x hx => numV_num (hv x hx).1 (hv x hx).2
      _ = ks := List.map_id ks
  rw [e]
theorem rd_1 {op kw w : Str} {m : PyData} {ks : List Int} {k : Int} (hk : kvK.lookup op = some (.int k)) (hm : kvM.lookup op = some (.str kw)) (e : rdMark kw w = m) (hl : (ks.length : Int) = k) (hv : ∀ x ∈ ks, 0 ≤ x ∧ x ≤ 65535) : rdWords op (w :: ks.map numS) = some ⟨op, m, ks⟩ := by
  rw [rdWords_yes hk (by rw [hm, List.length_cons, List.length_map]; simp [hl])]
  unfold rdTail
  rw [hm]
  have e2 : (ks.map numS).map numV = ks := by
    rw [List.map_map]
    calc ks.map (numV ∘ numS) = ks.map id := List.map_congr_left fun x hx => numV_num (hv x hx).1 (hv x hx).2
      _ = ks := List.map_id ks
  show some (Nd.mk op (rdMark kw w) ((ks.map numS).map numV)) = _
  rw [e, e2]
def opF (op : Str) : Prop := okW (tl op)
theorem okW_128 {l : List Nat} (h : okW l) : ∀ c ∈ l, c < 128 := fun c hc => (h.2 c hc).2.2.2
theorem mk_node {op : Str} {m : PyData} {ks : List Int} (ho : okW (tl op)) (hne : tl op ≠ []) (hf : (markW m).length + ks.length ≤ 3) (hmw : ∀ w ∈ markW m, okW (tl w)) (hms : MarkShow m) (hml : m.canLay0 = true ∧ m.depth ≤ 0) (hv : ∀ x ∈ ks, 0 ≤ x ∧ x ≤ 65535) (hb : rdWords op (markW m ++ ks.map numS) = some ⟨op, m, ks⟩) : NodeOk ⟨op, m, ks⟩ := by
  refine ⟨?_, fun w hw => ?_, hb, hms, hv, nd_lay (okW_128 ho) hml, hne⟩
  · unfold wordsN
    simp only [List.length_cons, List.length_append, List.length_map]
    omega
  · unfold wordsN at hw
    rcases List.mem_cons.mp hw with rfl | hw
    · exact ho
    · rcases List.mem_append.mp hw with hw | hw
      · exact hmw w hw
      · obtain ⟨k, hk, rfl⟩ := List.mem_map.mp hw
        exact num_ok (hv k hk).1 (hv k hk).2
theorem okW_names4 : ∀ s ∈ names4, okW (tl s) := by unfold names4 okW; decide +kernel
theorem okW_names3 : ∀ s ∈ names3, okW (tl s) := by unfold names3 okW; decide +kernel
theorem okW_ops1 : ∀ s ∈ ops1, okW (tl s) := by unfold ops1 okW; decide +kernel
theorem okW_ops2 : ∀ s ∈ ops2, okW (tl s) := by unfold ops2 okW; decide +kernel
theorem ne_ops1 : ∀ s ∈ ops1, tl s ≠ [] := by unfold ops1; decide +kernel
theorem ne_ops2 : ∀ s ∈ ops2, tl s ≠ [] := by unfold ops2; decide +kernel
theorem kk1 : ∀ s ∈ ops1, kvK.lookup s = some (.int 1) ∧ kvM.lookup s = none := by
  unfold ops1
  intro s h
  simp only [List.mem_cons, List.not_mem_nil, or_false] at h
  rcases h with rfl | rfl | rfl <;> exact ⟨by kernel_rfl, by kernel_rfl⟩
theorem kk2 : ∀ s ∈ ops2, kvK.lookup s = some (.int 2) ∧ kvM.lookup s = none := by
  unfold ops2
  intro s h
  simp only [List.mem_cons, List.not_mem_nil, or_false] at h
  rcases h with rfl | rfl | rfl | rfl | rfl | rfl <;> exact ⟨by kernel_rfl, by kernel_rfl⟩
theorem kput : kvK.lookup ("put" : Str) = some (.int 2) ∧ kvM.lookup ("put" : Str) = none := ⟨by kernel_rfl, by kernel_rfl⟩
theorem kset : kvK.lookup ("set" : Str) = some (.int 1) ∧ kvM.lookup ("set" : Str) = some (.str "name") := ⟨by kernel_rfl, by kernel_rfl⟩
theorem kvar : kvK.lookup ("var" : Str) = some (.int 0) ∧ kvM.lookup ("var" : Str) = some (.str "name") := ⟨by kernel_rfl, by kernel_rfl⟩
theorem knum : kvK.lookup ("num" : Str) = some (.int 0) ∧ kvM.lookup ("num" : Str) = some (.str "word") := ⟨by kernel_rfl, by kernel_rfl⟩
theorem rdMark_name (w : Str) : rdMark "name" w = .str w := by unfold rdMark; rw [if_neg (by decide)]
theorem rdMark_word {v : Int} (h0 : 0 ≤ v) (h1 : v ≤ 65535) : rdMark "word" (numS v) = .int v := by unfold rdMark; rw [if_pos rfl, numV_num h0 h1]
theorem log_small {v : Int} (h0 : 0 ≤ v) (h1 : v ≤ 65535) : v.natAbs.log2 < 1920 := by
  have : v.natAbs < 2 ^ 1920 := Nat.lt_of_le_of_lt (show v.natAbs ≤ 65535 by omega) (Nat.lt_of_lt_of_le (by decide : 65535 < 2 ^ 16) (Nat.pow_le_pow_right (by decide) (by decide)))
  by_cases h : v.natAbs = 0
  · rw [h]; decide
  · exact (Nat.log2_lt h).mpr this
theorem node_ok {i : Nat} {n : Nd} (hi : i ≤ 100) (h : GN i n) : NodeOk n := by
  cases h with
  | var s hs => exact mk_node (by unfold okW; decide +kernel) (by decide +kernel) (by show 1 + 0 ≤ 3; decide) (fun w hw => by rw [List.mem_singleton.mp hw]; exact okW_names4 s hs) (.inr (.inr ⟨s, rfl⟩)) ⟨strOk_of (okW_128 (okW_names4 s hs)), Nat.le_refl _⟩ (by simp) (rd_1 (ks := []) kvar.1 kvar.2 (rdMark_name s) rfl (by simp))
  | num v h0 h1 => exact mk_node (by unfold okW; decide +kernel) (by decide +kernel) (by show 1 + 0 ≤ 3; decide) (fun w hw => by rw [List.mem_singleton.mp hw]; exact num_ok h0 h1) (.inr (.inl ⟨v, rfl, log_small h0 h1⟩)) ⟨rfl, Nat.le_refl _⟩ (by simp) (rd_1 (ks := []) knum.1 knum.2 (rdMark_word h0 h1) rfl (by simp))
  | one op a ho h0 h1 =>
    have hv : ∀ x ∈ [a], 0 ≤ x ∧ x ≤ 65535 := fun x hx => by rw [List.mem_singleton.mp hx]; omega
    exact mk_node (okW_ops1 op ho) (ne_ops1 op ho) (by show 0 + 1 ≤ 3; decide) (fun w hw => by cases hw) (.inl rfl) ⟨rfl, Nat.le_refl _⟩ hv (rd_0 (kk1 op ho).1 (kk1 op ho).2 rfl hv)
  | two op a b ho h0 h1 h2 h3 =>
    have hv : ∀ x ∈ [a, b], 0 ≤ x ∧ x ≤ 65535 := fun x hx => by simp at hx; rcases hx with rfl | rfl <;> omega
    exact mk_node (okW_ops2 op ho) (ne_ops2 op ho) (by show 0 + 2 ≤ 3; decide) (fun w hw => by cases hw) (.inl rfl) ⟨rfl, Nat.le_refl _⟩ hv (rd_0 (kk2 op ho).1 (kk2 op ho).2 rfl hv)
theorem last_ok {i : Nat} {n : Nd} (hi : i ≤ 100) (h : GL i n) : NodeOk n := by
  cases h with
  | put a b h0 h1 h2 h3 =>
    have hv : ∀ x ∈ [a, b], 0 ≤ x ∧ x ≤ 65535 := fun x hx => by simp at hx; rcases hx with rfl | rfl <;> omega
    exact mk_node (by unfold okW; decide +kernel) (by decide +kernel) (by show 0 + 2 ≤ 3; decide) (fun w hw => by cases hw) (.inl rfl) ⟨rfl, Nat.le_refl _⟩ hv (rd_0 kput.1 kput.2 rfl hv)
  | set s a hs h0 h1 =>
    have hv : ∀ x ∈ [a], 0 ≤ x ∧ x ≤ 65535 := fun x hx => by rw [List.mem_singleton.mp hx]; omega
    exact mk_node (by unfold okW; decide +kernel) (by decide +kernel) (by show 1 + 1 ≤ 3; decide) (fun w hw => by rw [List.mem_singleton.mp hw]; exact okW_names3 s hs) (.inr (.inr ⟨s, rfl⟩)) ⟨strOk_of (okW_128 (okW_names3 s hs)), Nat.le_refl _⟩ hv (rd_1 kset.1 kset.2 (rdMark_name s) rfl hv)

/-! ### texts -/
theorem sp_tl : tl (" " : Str) = [32] := by decide +kernel
theorem sep_tl : tl ("; " : Str) = [59, 32] := by decide +kernel
theorem nl_tl : tl ("\n" : Str) = [10] := by decide +kernel
theorem words_ne (n : Nd) : wordsN n ≠ [] := by unfold wordsN; simp
theorem split_node {n : Nd} (h : NodeOk n) : Txt.split (showN n) " " = wordsN n :=
  split_join sp_tl (by decide +kernel) (words_ne n) fun p hp => fun hc => (h.ok p hp).2 32 hc |>.1 rfl
theorem len_node {n : Nd} (h : NodeOk n) : (showN n).length ≤ 36 := by
  rw [len_tl]
  unfold showN
  rw [tl_joinT, sp_tl]
  have h1 := len_joinL (S := [32]) (k := 8) (ps := (wordsN n).map tl) fun p hp => by
    obtain ⟨w, hw, rfl⟩ := List.mem_map.mp hp
    exact (h.ok w hw).1
  rw [List.length_map] at h1
  have h2 := h.few
  have h3 : (wordsN n).length * (8 + [32].length) ≤ 4 * (8 + [32].length) := Nat.mul_le_mul_right _ h2
  simp only [List.length_cons, List.length_nil] at h1 h3
  omega
theorem okT_node {n : Nd} (h : NodeOk n) : okT (tl (showN n)) := fun c hc => by
  unfold showN at hc
  rw [tl_joinT, sp_tl] at hc
  rcases mem_joinL hc with hc | ⟨p, hp, hc⟩
  · rw [List.mem_singleton.mp hc]; decide
  · obtain ⟨w, hw, rfl⟩ := List.mem_map.mp hp
    exact ((h.ok w hw).2 c hc).2
theorem show_node {n : Nd} (h : NodeOk n) : ShowIn n := by
  have hf := h.few
  have hk : n.kids.length ≤ 3 := by unfold wordsN at hf; simp at hf; omega
  refine ⟨h.ms, fun k hk => log_small (h.kd k hk).1 (h.kd k hk).2, by rw [sizeLine_eq]; omega, ?_⟩
  have := sum_le (k := 8) (ps := wordsN n) fun p hp => by rw [len_tl]; exact (h.ok p hp).1
  omega
theorem rd_node {n : Nd} (h : NodeOk n) : rdN (showN n) = some n := by
  rw [rdN_of (show Txt.split (showN n) " " = n.op :: (markW n.mark ++ n.kids.map numS) from split_node h)]
  exact h.back
theorem read_node {n : Nd} (h : NodeOk n) : ReadN (showN n) := by
  have h1 := len_node h
  refine ⟨by rw [sizeLine_eq]; omega, by rw [split_node h]; have := h.few; omega, by rw [split_node h]; exact words_ne n, fun w hw => ?_⟩
  rw [split_node h] at hw
  have := (h.ok w hw).1
  rw [len_tl, sizeLine_eq]
  omega
/-! ### webs -/
structure WebOk (w : List Nd) : Prop where
  few : w.length ≤ 33
  ne : w ≠ []
  ok : ∀ n ∈ w, NodeOk n
theorem split_web {w : List Nd} (h : WebOk w) : Txt.split (showW w) "; " = w.map showN := by
  refine split_join (S := [32]) sep_tl (by decide +kernel) (fun e => h.ne (List.map_eq_nil_iff.mp e)) fun p hp => fun hc => ?_
  obtain ⟨n, hn, rfl⟩ := List.mem_map.mp hp
  exact (okT_node (h.ok n hn) 59 hc).1 rfl
theorem len_web {w : List Nd} (h : WebOk w) : (showW w).length ≤ 1300 := by
  rw [len_tl]
  unfold showW
  rw [tl_joinT, sep_tl]
  have h1 := len_joinL (S := [59, 32]) (k := 36) (ps := (w.map showN).map tl) fun p hp => by
    obtain ⟨z, hz, rfl⟩ := List.mem_map.mp hp
    obtain ⟨n, hn, rfl⟩ := List.mem_map.mp hz
    have := len_node (h.ok n hn)
    rw [len_tl] at this
    exact this
  rw [List.length_map, List.length_map] at h1
  have h3 : w.length * (36 + [59, 32].length) ≤ 33 * (36 + [59, 32].length) := Nat.mul_le_mul_right _ h.few
  simp only [List.length_cons, List.length_nil] at h1 h3
  omega
theorem okL_web {w : List Nd} (h : WebOk w) : ∀ c ∈ tl (showW w), c ≠ 10 ∧ c < 128 := fun c hc => by
  unfold showW at hc
  rw [tl_joinT, sep_tl] at hc
  rcases mem_joinL hc with hc | ⟨p, hp, hc⟩
  · simp at hc; rcases hc with rfl | rfl <;> decide
  · obtain ⟨z, hz, rfl⟩ := List.mem_map.mp hp
    obtain ⟨n, hn, rfl⟩ := List.mem_map.mp hz
    exact (okT_node (h.ok n hn) c hc).2
theorem show_web {w : List Nd} (h : WebOk w) : ShowW w := by
  have hf := h.few
  refine ⟨fun n hn => show_node (h.ok n hn), by rw [sizeLine_eq]; omega, ?_⟩
  have := sum_le (k := 36) (ps := w.map showN) fun p hp => by obtain ⟨n, hn, rfl⟩ := List.mem_map.mp hp; exact len_node (h.ok n hn)
  rw [List.length_map] at this ⊢
  omega
theorem rd_web {w : List Nd} (h : WebOk w) : rdW (showW w) = w.map some := by
  unfold rdW
  rw [split_web h, List.map_map]
  exact List.map_congr_left fun n hn => rd_node (h.ok n hn)
theorem line_in {w : List Nd} (h : WebOk w) : LineIn (showW w) := by
  have h1 := len_web h
  have hf := h.few
  refine ⟨by rw [sizeLine_eq]; omega, by rw [split_web h, List.length_map, sizeLine_eq]; omega, fun t ht => ?_⟩
  rw [split_web h] at ht
  obtain ⟨n, hn, rfl⟩ := List.mem_map.mp ht
  exact read_node (h.ok n hn)
theorem joinL_ne {S : List Nat} : ∀ {ps : List (List Nat)}, ps ≠ [] → (∀ p ∈ ps, p ≠ []) → joinL S ps ≠ []
  | [], h, _ => absurd rfl h
  | [p], _, hp => hp p (by simp)
  | p :: q :: r, _, hp => by
    show p ++ _ ≠ []
    intro e
    exact hp p (by simp) (List.append_eq_nil_iff.mp e).1
/-! ### programs -/
structure ProgOk (p : List (List Nd)) : Prop where
  few : p.length ≤ 20
  ok : ∀ w ∈ p, WebOk w
theorem op_ne {n : Nd} (h : ¬ tl n.op = []) : tl (showN n) ≠ [] := by
  unfold showN
  rw [tl_joinT]
  unfold wordsN
  cases e : (markW n.mark ++ n.kids.map numS) with
  | nil => exact h
  | cons a r =>
    show tl n.op ++ _ ≠ []
    intro z
    exact h (List.append_eq_nil_iff.mp z).1

theorem web_ne {w : List Nd} (h : WebOk w) : tl (showW w) ≠ [] := by
  unfold showW
  rw [tl_joinT]
  refine joinL_ne (fun e => h.ne (List.map_eq_nil_iff.mp (List.map_eq_nil_iff.mp e))) fun p hp => ?_
  obtain ⟨z, hz, rfl⟩ := List.mem_map.mp hp
  obtain ⟨n, hn, rfl⟩ := List.mem_map.mp hz
  exact op_ne (h.ok n hn).ne
theorem lines_prog {p : List (List Nd)} (h : ProgOk p) : linesOf (showP p) = p.map showW := by
  unfold linesOf
  cases p with
  | nil => exact if_pos (by unfold showP; decide +kernel)
  | cons w r =>
    have ne : ¬ showP (w :: r) = "" := fun e => by
      have e2 := congrArg tl e
      rw [show tl ("" : Str) = [] by decide +kernel] at e2
      unfold showP at e2
      rw [tl_joinT] at e2
      refine joinL_ne (by simp) (fun p hp => ?_) e2
      obtain ⟨z, hz, rfl⟩ := List.mem_map.mp hp
      obtain ⟨n, hn, rfl⟩ := List.mem_map.mp hz
      exact web_ne (h.ok n hn)
    rw [if_neg ne]
    refine split_join (S := []) nl_tl (by decide +kernel) (by simp) fun p hp => fun hc => ?_
    obtain ⟨n, hn, rfl⟩ := List.mem_map.mp hp
    exact (okL_web (h.ok n hn) 10 hc).1 rfl
theorem len_prog {p : List (List Nd)} (h : ProgOk p) : (showP p).length ≤ 30000 := by
  rw [len_tl]
  unfold showP
  rw [tl_joinT, nl_tl]
  have h1 := len_joinL (S := [10]) (k := 1300) (ps := (p.map showW).map tl) fun p hp => by
    obtain ⟨z, hz, rfl⟩ := List.mem_map.mp hp
    obtain ⟨n, hn, rfl⟩ := List.mem_map.mp hz
    have := len_web (h.ok n hn)
    rw [len_tl] at this
    exact this
  rw [List.length_map, List.length_map] at h1
  have h3 : p.length * (1300 + [10].length) ≤ 20 * (1300 + [10].length) := Nat.mul_le_mul_right _ h.few
  simp only [List.length_cons, List.length_nil] at h1 h3
  omega
theorem show_prog {p : List (List Nd)} (h : ProgOk p) : ShowP p := by
  have hf := h.few
  refine ⟨fun w hw => show_web (h.ok w hw), by rw [sizeLine_eq]; omega, ?_⟩
  have := sum_le (k := 1300) (ps := p.map showW) fun z hz => by obtain ⟨n, hn, rfl⟩ := List.mem_map.mp hz; exact len_web (h.ok n hn)
  rw [List.length_map] at this ⊢
  omega
theorem lay_web {w : List Nd} (h : WebOk w) : (webD w).canLay0 = true ∧ (webD w).depth ≤ 3 := lay_list fun x hx => by
  obtain ⟨n, hn, rfl⟩ := List.mem_map.mp hx
  exact (h.ok n hn).sm
theorem lay_prog {p : List (List Nd)} (h : ProgOk p) : (PyData.list (p.map webD)).canLay0 = true ∧ (PyData.list (p.map webD)).depth ≤ 4 := lay_list fun x hx => by
  obtain ⟨n, hn, rfl⟩ := List.mem_map.mp hx
  exact lay_web (h.ok n hn)
theorem lay_texts {p : List (List Nd)} (h : ProgOk p) : (PyData.list (p.map fun w => PyData.str (showW w))).canLay0 = true ∧ (PyData.list (p.map fun w => PyData.str (showW w))).depth ≤ 1 := lay_list fun x hx => by
  obtain ⟨n, hn, rfl⟩ := List.mem_map.mp hx
  exact ⟨strOk_of fun c hc => (okL_web (h.ok n hn) c hc).2, Nat.zero_le _⟩
theorem dO_web (w : List Nd) : webDO (w.map some) = webD w := by unfold webDO webD; rw [map_dO_some]
/-! ### the webs that the law makes -/
theorem firstMet_mem (ks : List Int) (x : Int) : ∀ n, n ≤ ks.length → (x ∈ firstMet (fun i => ks.getD i 0) n ↔ x ∈ ks.take n)
  | 0, _ => by rw [firstMet_zero]; simp
  | n + 1, h => by
    have ih := firstMet_mem ks x n (by omega)
    have hlt : n < ks.length := h
    have e1 : ks.getD n 0 = ks[n] := by rw [List.getD_eq_getElem?_getD, List.getElem?_eq_getElem hlt]; rfl
    have e2 : ks.take (n + 1) = ks.take n ++ [ks[n]] := by rw [List.take_add_one, List.getElem?_eq_getElem hlt]; rfl
    rw [firstMet_succ, e2]
    show x ∈ step_dedup (firstMet (fun i => ks.getD i 0) n) (ks.getD n 0) ↔ _
    rw [e1]
    unfold step_dedup
    split
    · rename_i q
      rw [ih, List.mem_append, List.mem_singleton]
      constructor
      · exact .inl
      · rintro (h | h)
        · exact h
        · obtain ⟨y, hy, ey⟩ := List.any_eq_true.mp q
          have ey : y = ks[n] := eq_of_beq ey
          have hx : x ∈ firstMet (fun i => ks.getD i 0) n := by rw [h, ← ey]; exact hy
          exact ih.mp hx
    · rw [List.mem_append, List.mem_append, ih]
theorem firstMet_nd (ks : List Int) : ∀ n, (firstMet (fun i => ks.getD i 0) n).Nodup
  | 0 => by rw [firstMet_zero]; exact List.nodup_nil
  | n + 1 => by
    rw [firstMet_succ]
    show (step_dedup (firstMet (fun i => ks.getD i 0) n) (ks.getD n 0)).Nodup
    unfold step_dedup
    split
    · exact firstMet_nd ks n
    · rename_i q
      refine List.nodup_append.mpr ⟨firstMet_nd ks n, by simp, fun a ha b hb => ?_⟩
      rw [List.mem_singleton.mp hb]
      intro e
      exact q (List.any_eq_true.mpr ⟨a, ha, beq_iff_eq.mpr e⟩)
theorem nd_len : ∀ {l m : List Int}, l.Nodup → (∀ x ∈ l, x ∈ m) → l.length ≤ m.length
  | [], m, _, _ => Nat.zero_le _
  | a :: l, m, hn, h => by
    have ha := h a (by simp)
    obtain ⟨h1, h2⟩ := List.nodup_cons.mp hn
    have := nd_len (l := l) (m := m.erase a) h2 fun x hx => (List.mem_erase_of_ne (fun e : x = a => h1 (by rw [← e]; exact hx))).mpr (h x (by simp [hx]))
    rw [List.length_erase_of_mem ha] at this
    have : 0 < m.length := List.length_pos_of_mem ha
    simp only [List.length_cons]
    omega
theorem many_len {ks : List Int} {n : Nat} (h1 : ∀ x ∈ ks, 0 ≤ x ∧ x < (n : Nat)) (h2 : ∀ j : Nat, j < n → (j : Int) ∈ ks) : manyB ks = n := by
  have hm := fun x => firstMet_mem ks x ks.length (Nat.le_refl _)
  rw [List.take_length] at hm
  have nd := firstMet_nd ks ks.length
  have rl : ((List.range n).map fun i : Nat => (i : Int)).length = n := by simp
  have rn : ((List.range n).map fun i : Nat => (i : Int)).Nodup := by
    have := List.nodup_range (n := n)
    exact List.Pairwise.map _ (fun a b h e => h (Int.ofNat.inj e)) this
  apply Nat.le_antisymm
  · have := nd_len nd (m := (List.range n).map fun i : Nat => (i : Int)) fun x hx => by
      have := h1 x ((hm x).mp hx)
      refine List.mem_map.mpr ⟨x.toNat, List.mem_range.mpr (by omega), by omega⟩
    unfold manyB
    rw [rl] at this
    exact this
  · have := nd_len rn (m := firstMet (fun i => ks.getD i 0) ks.length) fun x hx => by
      obtain ⟨j, hj, rfl⟩ := List.mem_map.mp hx
      exact (hm _).mpr (h2 j (List.mem_range.mp hj))
    unfold manyB
    rw [rl] at this
    exact this

theorem nm4 : ∀ s ∈ names4, nameB s = true := by unfold names4; decide +kernel
theorem nm3 : ∀ s ∈ names3, nameB s = true := by unfold names3; decide +kernel
theorem dd1 : ∀ s ∈ ops1, deedB s = false := by unfold ops1; decide +kernel
theorem dd2 : ∀ s ∈ ops2, deedB s = false := by unfold ops2; decide +kernel
theorem nodeB_of {n : Nd} {k i : Int} (hk : kvK.lookup n.op = some (.int k)) (hm : markB n.op n.mark = true) (hl : (n.kids.length : Int) = k) (hv : ∀ x ∈ n.kids, 0 ≤ x ∧ x < i) : nodeB n i = true := by
  unfold nodeB
  rw [hk]
  dsimp only
  rw [hm, hl, decide_eq_true rfl]
  refine List.all_eq_true.mpr fun x hx => ?_
  have := hv x hx
  unfold wholeB
  rw [decide_eq_true (show 0 ≤ x by omega), decide_eq_true (show x ≤ i - 1 by omega)]
  rfl
theorem mark_non {op : Str} (h : kvM.lookup op = none) : markB op .none = true := by unfold markB; rw [h]; rfl
theorem mark_str {op k s : Str} (h : kvM.lookup op = some (.str k)) (hs : nameB s = true) : markB op (.str s) = true := by unfold markB; rw [h]; exact hs
theorem dput : deedB "put" = true := by decide +kernel
theorem dset : deedB "set" = true := by decide +kernel
theorem dvar : deedB "var" = false := by decide +kernel
theorem dnum : deedB "num" = false := by decide +kernel
theorem gn_node {i : Nat} {n : Nd} (h : GN i n) : nodeB n (i : Nat) = true := by
  cases h with
  | var s hs => exact nodeB_of kvar.1 (mark_str kvar.2 (nm4 s hs)) rfl (by simp)
  | num v h0 h1 =>
    refine nodeB_of knum.1 ?_ rfl (by simp)
    unfold markB
    rw [knum.2]
    show wholeB v 0 65535 = true
    unfold wholeB
    rw [decide_eq_true h0, decide_eq_true h1]
    rfl
  | one op a ho h0 h1 => exact nodeB_of (kk1 op ho).1 (mark_non (kk1 op ho).2) rfl (fun x hx => by rw [List.mem_singleton.mp hx]; omega)
  | two op a b ho h0 h1 h2 h3 => exact nodeB_of (kk2 op ho).1 (mark_non (kk2 op ho).2) rfl (fun x hx => by simp at hx; rcases hx with rfl | rfl <;> omega)
theorem gl_node {i : Nat} {n : Nd} (h : GL i n) : nodeB n (i : Nat) = true ∧ deedB n.op = true ∧ ∀ x ∈ n.kids, 0 ≤ x ∧ x < (i : Nat) := by
  cases h with
  | put a b h0 h1 h2 h3 => exact ⟨nodeB_of kput.1 (mark_non kput.2) rfl (fun x hx => by simp at hx; rcases hx with rfl | rfl <;> omega), dput, fun x hx => by simp at hx; rcases hx with rfl | rfl <;> omega⟩
  | set s a hs h0 h1 => exact ⟨nodeB_of kset.1 (mark_str kset.2 (nm3 s hs)) rfl (fun x hx => by rw [List.mem_singleton.mp hx]; omega), dset, fun x hx => by rw [List.mem_singleton.mp hx]; omega⟩
theorem gn_deed {i : Nat} {n : Nd} (h : GN i n) : deedB n.op = false ∧ ∀ x ∈ n.kids, 0 ≤ x ∧ x < (i : Nat) := by
  cases h with
  | var s hs => exact ⟨dvar, by simp⟩
  | num v h0 h1 => exact ⟨dnum, by simp⟩
  | one op a ho h0 h1 => exact ⟨dd1 op ho, fun x hx => by rw [List.mem_singleton.mp hx]; omega⟩
  | two op a b ho h0 h1 h2 h3 => exact ⟨dd2 op ho, fun x hx => by simp at hx; rcases hx with rfl | rfl <;> omega⟩
theorem enum_all {P : Nat × Option Nd → Bool} : ∀ {w : List (Option Nd)} {i : Nat}, (∀ (j : Nat) (o : Option Nd), w[j]? = some o → P (i + j, o) = true) → (enumP i w).all P = true
  | [], _, _ => rfl
  | o :: w, i, h => by
    rw [show enumP i (o :: w) = (i, o) :: enumP (i + 1) w from rfl, List.all_cons, Bool.and_eq_true]
    refine ⟨h 0 o rfl, enum_all fun j q hq => ?_⟩
    have := h (j + 1) q (by simpa using hq)
    rw [show i + 1 + j = i + (j + 1) by omega]
    exact this
theorem fw_web {w : List Nd} (h : FW w) : webB (w.map some) = true ∧ WebOk w := by
  obtain ⟨ns, l, rfl, hg, hl, hc, h1, h32⟩ := h.ex
  have idx : ∀ n ∈ ns, ∃ j : Nat, j < ns.length ∧ GN j n := fun n hn => by
    obtain ⟨j, hj⟩ := List.mem_iff_getElem?.mp hn
    exact ⟨j, (List.getElem?_eq_some_iff.mp hj).1, hg j n hj⟩
  refine ⟨?_, ⟨by simp; omega, by simp, fun n hn => ?_⟩⟩
  · have hlen : webLen ((ns ++ [l]).map some) = true := by
      unfold webLen
      rw [List.length_map, List.length_append]
      rw [Bool.and_eq_true, decide_eq_true_eq, decide_eq_true_eq]
      simp only [List.length_cons, List.length_nil]
      omega
    have hnodes : nodesB ((ns ++ [l]).map some) = true := by
      refine enum_all fun j o ho => ?_
      rw [List.getElem?_map] at ho
      cases e : (ns ++ [l])[j]? with
      | none => rw [e] at ho; cases ho
      | some n =>
        rw [e] at ho
        obtain rfl := Option.some.inj ho
        show nodeB n ((0 + j : Nat) : Int) = true
        rw [Nat.zero_add]
        by_cases hj : j < ns.length
        · rw [List.getElem?_append_left hj] at e
          exact gn_node (hg j n e)
        · have := (List.getElem?_eq_some_iff.mp e).1
          simp at this
          have ej : j = ns.length := by omega
          subst ej
          rw [List.getElem?_append_right (Nat.le_refl _), Nat.sub_self] at e
          cases e
          exact (gl_node hl).1
    rw [webB_yes hlen hnodes (by
      rw [(gl_node hl).2.1]
      show (false || _) = false
      rw [Bool.false_or, List.any_eq_false]
      intro n hn
      obtain ⟨j, _, hgn⟩ := idx n hn
      rw [(gn_deed hgn).1]
      exact Bool.false_ne_true)]
    refine decide_eq_true (congrArg _ (many_len (fun x hx => ?_) hc))
    rw [allKids_app] at hx
    rcases List.mem_append.mp hx with hx | hx
    · obtain ⟨n, hn, hx⟩ := List.mem_flatMap.mp hx
      obtain ⟨j, hj, hgn⟩ := idx n hn
      have := (gn_deed hgn).2 x hx
      omega
    · obtain ⟨n, hn, hx⟩ := List.mem_flatMap.mp hx
      rw [List.mem_singleton.mp hn] at hx
      exact (gl_node hl).2.2 x hx
  · rcases List.mem_append.mp hn with hn | hn
    · obtain ⟨j, hj, hgn⟩ := idx n hn
      exact node_ok (by omega) hgn
    · rw [List.mem_singleton.mp hn]
      exact last_ok (by omega) hl
end K71

set_option maxRecDepth 100000
set_option maxHeartbeats 4000000
namespace K71
open PySem PySem.Spec PyProof.Rows L2 Dv
section
variable {w : World} {K : PySem.W.Frag} {mg : Str → Option Value} {base : Heap}
open TL
theorem webEq {w : List Nd} (h : WebOk w) : PyData.list ((rdW (showW w)).map dO) = webD w := by rw [rd_web h, map_dO_some]; rfl
theorem progEq {p : List (List Nd)} (h : ProgOk p) : ((linesOf (showP p)).map fun l => webDO (rdW l)) = p.map webD := by
  rw [lines_prog h, List.map_map]
  exact List.map_congr_left fun w hw => by show webDO (rdW (showW w)) = _; rw [rd_web (h.ok w hw)]; exact dO_web w
theorem prog_fw {p : List (List Nd)} (hl : p.length ≤ 20) (h : ∀ w ∈ p, FW w) : ProgOk p := ⟨hl, fun w hw => (fw_web (h w hw)).2⟩
theorem read_lines {p : List (List Nd)} (h : ProgOk p) (hf : ∀ w ∈ p, FW w) : ∀ l ∈ linesOf (showP p), LineIn l ∧ webB (rdW l) = true := fun l hl => by
  rw [lines_prog h] at hl
  obtain ⟨w, hw, rfl⟩ := List.mem_map.mp hl
  exact ⟨line_in (h.ok w hw), by rw [rd_web (h.ok w hw)]; exact (fw_web (hf w hw)).1⟩
theorem web_heads {p : List (List Nd)} (h : ProgOk p) : ∀ d ∈ p.map webD ++ p.map webD, ∃ t ts, d = PyData.list (.tuple t :: ts) ∧ ts.length ≤ 50 := fun d hd => by
  have hd : d ∈ p.map webD := (List.mem_append.mp hd).elim id id
  obtain ⟨w, hw, rfl⟩ := List.mem_map.mp hd
  have hk := h.ok w hw
  cases w with
  | nil => exact absurd rfl hk.ne
  | cons n r => exact ⟨_, r.map Nd.d, rfl, by rw [List.length_map]; have := hk.few; simp at this; omega⟩
def sp_law : Dv.Spec := fun sls μ P => ∃ ns : List Int, sls = [.scr ns] ∧ ns.length ≤ 63 ∧ μ = [] ∧ P (.dat (.bool true)) []
theorem len_law {sls μ P} (h : sp_law sls μ P) : sls.length = 1 := by obtain ⟨_, rfl, _⟩ := h; rfl
def Inv0 (ns : List Int) (_ : Nat) (ρ : Dv.Env) (μ : Mu) : Prop := ρ = [some (.scr ns), none, none, none, none, none, none, none, none, none, none, none] ∧ μ = []
def Inv2 (ns : List Int) (kk : Int) (b : Bool) (j : Nat) (ρ : Dv.Env) (μ : Mu) : Prop := ∃ (g c : Int) (p : List (List Nd)), BagIn g c ∧ (∀ w ∈ p, FW w) ∧ p.length = j ∧ ρ = [some (.scr ns), some (.dat (.int kk)), some (.obj 0), some (.dat (.bool b)), some (.obj 1), none, none, none, none, none, none, none] ∧ μ = [bagM g c, some (.lst (p.map webD))]
def Inv3 (ns : List Int) (p : List (List Nd)) (_ : Nat) (ρ : Dv.Env) (μ : Mu) : Prop := ρ = [some (.scr ns), none, none, none, some (.dat (.list (p.map webD))), none, some (.dat (.list (p.map fun w => PyData.str (showW w)))), none, none, none, none, none] ∧ μ = []

abbrev N_law : List Str := ["_law_script", "_law_k", "_law_bag_here", "_law_shared", "_law_program", "_law_turn", "_law_texts", "_law_web_here", "_law_told", "_law_text_here", "_law_back", "_law_one"]
theorem nd_law : N_law.Nodup := by decide +kernel
abbrev s_law : Stmt := tp 40
theorem sc_law : FnScope N_law ["_law_script"] (C8.fnScope s_law) := C8.fnScope_by (by decide +kernel)
theorem fn_law (T : Txt w K mg) (c_show_web : Cal PW w K mg base 2 "show_web" sp_show_web []) (c_show_program : Cal PW w K mg base 3 "show_program" sp_show_program []) (c_read_web : Cal PW w K mg base 7 "read_web" sp_read_web []) (c_read_program : Cal PW w K mg base 7 "read_program" sp_read_program []) (c__law_bag : Cal PW w K mg base 1 "_law_bag" sp__law_bag []) (c__law_take : Cal PW w K mg base 1 "_law_take" sp__law_take []) (c__law_web : Cal PW w K mg base 3 "_law_web" sp__law_web []) (c__law_text : Cal PW w K mg base 2 "_law_text" sp__law_text []) {f : Addr} {fd : FuncData} (D : C8.Fun K "law" "law" s_law f fd) : FnOk PW w K mg base L2.CX0 (7 + 1) f fd ["_law_script"] (DSp K sp_law) := by
  refine fnok_data (N := N_law) D sc_law (fun sls μ P h => ?_) ?_
  · exact len_law h
  rintro X ⟨cdv, A, outer, s, H, E, rfl⟩ hr S sls μ Pr hS ⟨ns, rfl, hn63, rfl, hP⟩
  have nd := nd_law
  have hu := hr.units
  have hu2 := units65 hr
  refine s_cons ?_
  refine s_for [1] rfl ?_
  refine iv_range1 T.z_range ?_
  refine ea_cons ?_
  refine e_max rfl T.z_max ?_
  refine ea_cons ?_
  refine ev_int ?_
  refine ea_cons ?_
  refine e_min rfl T.z_min ?_
  refine ea_cons ?_
  refine ev_int ?_
  refine ea_cons ?_
  refine e_len T.z_len ?_
  refine ev_name 0 rfl ?_
  refine ⟨_, rfl, by first | exact True.intro | first | assumption | rfl | decide | exact Nat.le_of_ble_eq_true rfl | omega | (simp only [List.length_cons, List.length_nil, List.length_map, List.length_append]; omega) | exact hszl | exact hszw | exact Or.inl ⟨by decide, by decide⟩ | exact Or.inr ⟨by decide, by decide⟩ | exact pow_ok (by decide) (by decide) (by omega) (by omega) | exact ⟨by omega, by omega⟩ | exact Or.inl ⟨by omega, by omega⟩, ?_⟩
  refine ea_nil ?_
  refine ⟨_, _, rfl, ?_⟩
  refine ea_nil ?_
  refine ⟨_, _, rfl, ?_⟩
  refine ea_nil ?_
  refine ⟨_, rfl, by repeat' split <;> omega, by repeat' split <;> omega, ?_⟩
  refine ⟨Inv0 ns, ⟨rfl, rfl⟩, fun S1 hAs0 i d ρ1 μ1 hd hin => ?_, fun ρ1 μ1 hin => ?_⟩
  · obtain ⟨hi, rfl⟩ := rangeD_get hd
    obtain ⟨rfl, rfl⟩ := hin
    have hi10 : i < 10 := by revert hi; repeat' split <;> omega
    have hAs := hAs0
    refine ag_name 1 nd ?_ (by decide)
    refine s_cons ?_
    refine s_set 2 nd ?_
    refine ev_cal c__law_bag hr ?_
    refine ea_cons ?_
    refine ev_name 0 rfl ?_
    refine ea_cons ?_
    refine ev_name 1 rfl ?_
    refine ea_nil ?_
    refine callP_dat rfl ?_
    refine ⟨_, _, rfl, by omega, by omega, rfl, fun g1 c1 hBb => ?_⟩
    refine bk_n0 ?_
    refine s_cons ?_
    refine s_par 3 4 rfl nd ?_
    refine ea_cons ?_
    refine ev_cmp (c_eqv hu) rfl ?_
    refine ev_cal c__law_take hr ?_
    refine ea_cons ?_
    refine ev_name 2 rfl ?_
    refine ea_cons ?_
    refine ev_int ?_
    refine ea_nil ?_
    refine callP_o1 rfl rfl ?_
    refine ⟨_, _, _, rfl, rfl, by assumption, by decide, by decide, fun g25 c25 r25 hB25 h025 h125 => ?_⟩
    refine bk_1 ?_
    refine ev_int ?_
    first | refine eq_i ?_ | refine eq_s ?_ | refine eq_v rfl rfl (by first | assumption | rfl | decide | exact Nat.le_of_ble_eq_true rfl | omega | (simp only [List.length_cons, List.length_nil, List.length_map, List.length_append]; omega) | exact hszl | exact hszw | exact Or.inl ⟨by decide, by decide⟩ | exact Or.inr ⟨by decide, by decide⟩ | exact pow_ok (by decide) (by decide) (by omega) (by omega) | exact ⟨by omega, by omega⟩ | exact Or.inl ⟨by omega, by omega⟩) ?_
    refine ea_cons ?_
    refine ev_list ?_
    refine ea_nil ?_
    refine lst_of rfl (by first | assumption | rfl | decide | exact Nat.le_of_ble_eq_true rfl | omega | (simp only [List.length_cons, List.length_nil, List.length_map, List.length_append]; omega) | exact hszl | exact hszw | exact Or.inl ⟨by decide, by decide⟩ | exact Or.inr ⟨by decide, by decide⟩ | exact pow_ok (by decide) (by decide) (by omega) (by omega) | exact ⟨by omega, by omega⟩ | exact Or.inl ⟨by omega, by omega⟩) ?_
    refine ea_nil ?_
    refine ⟨_, _, rfl, ?_⟩
    refine s_cons ?_
    refine s_for [5] rfl ?_
    refine iv_range1 T.z_range ?_
    refine ea_cons ?_
    refine ev_sub (fun _ _ => rfl) ?_
    refine ev_tuple ?_
    refine ea_cons ?_
    refine ev_int ?_
    refine ea_cons ?_
    refine ev_int ?_
    refine ea_cons ?_
    refine ev_int ?_
    refine ea_cons ?_
    refine ev_int ?_
    refine ea_nil ?_
    refine tup_of rfl (by first | assumption | rfl | decide | exact Nat.le_of_ble_eq_true rfl | omega | (simp only [List.length_cons, List.length_nil, List.length_map, List.length_append]; omega) | exact hszl | exact hszw | exact Or.inl ⟨by decide, by decide⟩ | exact Or.inr ⟨by decide, by decide⟩ | exact pow_ok (by decide) (by decide) (by omega) (by omega) | exact ⟨by omega, by omega⟩ | exact Or.inl ⟨by omega, by omega⟩) ?_
    refine ev_cal c__law_take hr ?_
    refine ea_cons ?_
    refine ev_name 2 rfl ?_
    refine ea_cons ?_
    refine ev_int ?_
    refine ea_nil ?_
    refine callP_o1 rfl rfl ?_
    refine ⟨_, _, _, rfl, rfl, by assumption, by decide, by decide, fun g26 c26 r26 hB26 h026 h126 => ?_⟩
    refine bk_1 ?_
    obtain ⟨sv, hsx, hsm⟩ := ints_at (xs := [3, 1, 0, 20]) h026 h126
    refine ix_q (ds := ([3, 1, 0, 20] : List Int).map PyData.int) ?_ hsx ?_
    · rfl
    have hsr : 0 ≤ sv ∧ sv ≤ 20 := by simp only [List.mem_cons, List.not_mem_nil, or_false] at hsm; omega
    refine ea_nil ?_
    refine ⟨_, rfl, by first | assumption | rfl | decide | exact Nat.le_of_ble_eq_true rfl | omega | (simp only [List.length_cons, List.length_nil, List.length_map, List.length_append]; omega) | exact hszl | exact hszw | exact Or.inl ⟨by decide, by decide⟩ | exact Or.inr ⟨by decide, by decide⟩ | exact pow_ok (by decide) (by decide) (by omega) (by omega) | exact ⟨by omega, by omega⟩ | exact Or.inl ⟨by omega, by omega⟩, by first | assumption | rfl | decide | exact Nat.le_of_ble_eq_true rfl | omega | (simp only [List.length_cons, List.length_nil, List.length_map, List.length_append]; omega) | exact hszl | exact hszw | exact Or.inl ⟨by decide, by decide⟩ | exact Or.inr ⟨by decide, by decide⟩ | exact pow_ok (by decide) (by decide) (by omega) (by omega) | exact ⟨by omega, by omega⟩ | exact Or.inl ⟨by omega, by omega⟩, ?_⟩
    refine ⟨Inv2 ns (0 + ((i : Nat) : Int)) (decide (r25 = 0)), ⟨_, _, [], by assumption, by simp, rfl, rfl, rfl⟩, fun S2 hAs2 j d2 ρ2 μ2 hd2 hin => ?_, fun ρ2 μ2 hin => ?_⟩
    · obtain ⟨hj, rfl⟩ := rangeD_get hd2
      obtain ⟨g0, c0, p, hB0, hp1, hp2, rfl, rfl⟩ := hin
      have hszp : (p.map webD).length < sizeLine := by rw [List.length_map, sizeLine_eq]; omega
      refine ag_name 5 nd ?_ (by decide)
      refine s_cons ?_
      refine s_expr ?_
      refine e_append ?_
      refine ev_name 4 rfl ?_
      refine ⟨_, _, rfl, rfl, ?_⟩
      refine Ev.data ?_
      refine ev_cal c__law_web hr ?_
      refine ea_cons ?_
      refine ev_name 2 rfl ?_
      refine ea_cons ?_
      refine ev_bin b_plus ?_
      refine ev_int ?_
      refine ev_cal c__law_take hr ?_
      refine ea_cons ?_
      refine ev_name 2 rfl ?_
      refine ea_cons ?_
      refine ev_sub (fun _ _ => rfl) ?_
      refine ev_tuple ?_
      refine ea_cons ?_
      refine ev_int ?_
      refine ea_cons ?_
      refine ev_int ?_
      refine ea_nil ?_
      refine tup_of rfl (by first | assumption | rfl | decide | exact Nat.le_of_ble_eq_true rfl | omega | (simp only [List.length_cons, List.length_nil, List.length_map, List.length_append]; omega) | exact hszl | exact hszw | exact Or.inl ⟨by decide, by decide⟩ | exact Or.inr ⟨by decide, by decide⟩ | exact pow_ok (by decide) (by decide) (by omega) (by omega) | exact ⟨by omega, by omega⟩ | exact Or.inl ⟨by omega, by omega⟩) ?_
      refine ev_cal c__law_take hr ?_
      refine ea_cons ?_
      refine ev_name 2 rfl ?_
      refine ea_cons ?_
      refine ev_int ?_
      refine ea_nil ?_
      refine callP_o1 rfl rfl ?_
      refine ⟨_, _, _, rfl, rfl, by assumption, by decide, by decide, fun g27 c27 r27 hB27 h027 h127 => ?_⟩
      refine bk_1 ?_
      obtain ⟨sv, hsx, hsm⟩ := ints_at (xs := [6, 16]) h027 h127
      refine ix_q (ds := ([6, 16] : List Int).map PyData.int) ?_ hsx ?_
      · rfl
      have hsr : sv = 6 ∨ sv = 16 := by simp only [List.mem_cons, List.not_mem_nil, or_false] at hsm; omega
      refine ea_nil ?_
      refine callP_o1 rfl rfl ?_
      refine ⟨_, _, _, rfl, rfl, by assumption, by (have := hsr; omega), by (have := hsr; omega), fun g28 c28 r28 hB28 h028 h128 => ?_⟩
      refine bk_1 ?_
      first | refine plus_i ?_ | refine plus_s (by first | assumption | rfl | decide | exact Nat.le_of_ble_eq_true rfl | omega | (simp only [List.length_cons, List.length_nil, List.length_map, List.length_append]; omega) | exact hszl | exact hszw | exact Or.inl ⟨by decide, by decide⟩ | exact Or.inr ⟨by decide, by decide⟩ | exact pow_ok (by decide) (by decide) (by omega) (by omega) | exact ⟨by omega, by omega⟩ | exact Or.inl ⟨by omega, by omega⟩) ?_ | refine plus_l rfl rfl (by first | assumption | rfl | decide | exact Nat.le_of_ble_eq_true rfl | omega | (simp only [List.length_cons, List.length_nil, List.length_map, List.length_append]; omega) | exact hszl | exact hszw | exact Or.inl ⟨by decide, by decide⟩ | exact Or.inr ⟨by decide, by decide⟩ | exact pow_ok (by decide) (by decide) (by omega) (by omega) | exact ⟨by omega, by omega⟩ | exact Or.inl ⟨by omega, by omega⟩) ?_
      refine ea_cons ?_
      refine ev_name 3 rfl ?_
      refine ea_nil ?_
      refine callP_o1 rfl rfl ?_
      refine ⟨_, _, _, _, rfl, rfl, by assumption, by omega, by omega, fun g29 c29 w29 hB29 hw29 => ?_⟩
      refine bk_n1 ?_
      refine ⟨by first | exact Nat.le_refl _ | exact Nat.le_of_ble_eq_true rfl | simp, _, rfl, ?_⟩
      refine ⟨_, _, rfl, rfl, by first | assumption | rfl | decide | exact Nat.le_of_ble_eq_true rfl | omega | (simp only [List.length_cons, List.length_nil, List.length_map, List.length_append]; omega) | exact hszl | exact hszw | exact Or.inl ⟨by decide, by decide⟩ | exact Or.inr ⟨by decide, by decide⟩ | exact pow_ok (by decide) (by decide) (by omega) (by omega) | exact ⟨by omega, by omega⟩ | exact Or.inl ⟨by omega, by omega⟩, ?_⟩
      refine s_keep [true, true, true, true, true, false, false, false, false, false, false, false] 2 (by rw [hAs2, hAs0, hS]; exact Nat.le_of_ble_eq_true rfl) ?_
      refine s_nil ?_
      refine ⟨_, _, p ++ [w29], by assumption, fun w hw => (List.mem_append.mp hw).elim (hp1 w) (fun z => by rw [List.mem_singleton.mp z]; exact hw29), by rw [List.length_append]; simp [hp2], rfl, ?_⟩
      exact congrArg (fun z => [_, some (MO.lst z)]) (show p.map webD ++ [webD w29] = (p ++ [w29]).map webD by rw [List.map_append]; rfl)
    · rw [rangeD_len] at hin
      obtain ⟨g0, c0, p, hB0, hp1, hp2, rfl, rfl⟩ := hin
      have hPO : ProgOk p := prog_fw (by omega) hp1
      refine s_freeze 1 (by rw [hAs, hS]; exact Nat.le_of_ble_eq_true rfl) ?_
      refine s_cons ?_
      refine s_setLc 6 [("_law_web_here", 7)] [7] rfl nd rfl (blkOk_by (N := N_law) (sc := C8.fnScope s_law) (by decide +kernel)) .nil (by decide) ?_
      refine iv_list ?_
      refine ev_name 4 rfl ?_
      refine ⟨_, rfl, ?_⟩
      refine lcd_mapT p webD (fun w => PyData.str (showW w)) (rfl) (by rw [sizeLine_eq]; have := hPO.few; omega) (fun x hx acc => ?_) ?_
      · intro s0 H0 C0 cl0 fp0
        refine ag_name 7 nd ?_ (by decide)
        intro s1 H1 C1 cl1 fp1
        refine ev_cal c__law_text hr ?_
        refine ea_cons ?_
        refine ev_name 7 rfl ?_
        refine ea_nil ?_
        refine callP_dat rfl ?_
        refine ⟨_, rfl, show_web (hPO.ok x hx), rfl, ?_⟩
        refine bk_0 ?_
        exact ⟨rfl, rfl⟩
      refine s_freeze 0 (by rw [hAs, hS]; exact Nat.le_of_ble_eq_true rfl) ?_
      refine s_cons ?_
      refine' s_ifP ?h801 (fun hC => ?h802) (fun hC => ?h803)
      case h801 =>
        refine et_of_ew ?_
        refine' ew_orP ?h811 (fun hA => ?h812) ?h813
        case h811 =>
          refine Et.trim ?_
          refine et_cmp (c_neqv hu) rfl ?_
          refine ev_lc [("_law_web_here", 7)] [7] rfl nd (blkOk_by (N := N_law) (sc := C8.fnScope s_law) (by decide +kernel)) .nil (by decide) ?_
          refine iv_list ?_
          refine ev_name 4 rfl ?_
          refine ⟨_, rfl, ?_⟩
          refine lcd_mapT p webD (fun w => PyData.str (showW w)) (rfl) (by rw [sizeLine_eq]; have := hPO.few; omega) (fun x hx acc => ?_) ?_
          · intro s0 H0 C0 cl0 fp0
            refine ag_name 7 nd ?_ (by decide)
            intro s1 H1 C1 cl1 fp1
            refine ev_cal c_show_web hr ?_
            refine ea_cons ?_
            refine ev_name 7 rfl ?_
            refine ea_nil ?_
            refine callP_dat rfl ?_
            refine ⟨_, rfl, show_web (hPO.ok x hx), rfl, ?_⟩
            refine bk_0 ?_
            exact ⟨rfl, rfl⟩
          refine ev_name 6 rfl ?_
          refine ne_v rfl rfl (.inr ⟨lay_shaped (lay_texts hPO) (by decide), lay_shaped (lay_texts hPO) (by decide)⟩) ?_
          refine ⟨_, rfl, ?_⟩
          exact ⟨rfl, rfl⟩
        case h812 =>
          refine ew_or1 ?_
          refine et_cmp (c_neqv hu) rfl ?_
          refine ev_cal c_show_program hr ?_
          refine ea_cons (Ev.data ?_)
          refine e_list T.z_list ?_
          refine ev_name 4 rfl ?_
          refine ⟨_, rfl, ?_⟩
          refine ⟨by first | exact Nat.le_refl _ | exact Nat.le_of_ble_eq_true rfl | simp, _, rfl, ?_⟩
          refine ea_nil ?_
          refine callP_dat rfl ?_
          refine ⟨p, rfl, show_prog hPO, rfl, ?_⟩
          refine bk_0 ?_
          refine e_join ?_
          refine ev_str ?_
          refine ⟨_, rfl, ?_⟩
          refine ev_name 6 rfl ?_
          refine ⟨p.map showW, by show some _ = some _; rw [List.map_map]; rfl, by rw [nl_len]; exact (show_prog hPO).2.2, ?_⟩
          first | refine ne_i ?_ | refine ne_s ?_ | refine ne_v rfl rfl (by first | assumption | rfl | decide | exact Nat.le_of_ble_eq_true rfl | omega | (simp only [List.length_cons, List.length_nil, List.length_map, List.length_append]; omega) | exact hszl | exact hszw | exact Or.inl ⟨by decide, by decide⟩ | exact Or.inr ⟨by decide, by decide⟩ | exact pow_ok (by decide) (by decide) (by omega) (by omega) | exact ⟨by omega, by omega⟩ | exact Or.inl ⟨by omega, by omega⟩) ?_
          refine ⟨_, rfl, ?_⟩
          exact ⟨rfl, rfl⟩
        case h813 =>
          exact ⟨rfl, rfl⟩
      case h802 =>
        exact absurd hC (by rw [SeqAt.eqv_refl _ (lay_texts hPO).1]; simp [showP])
      case h803 =>
        refine s_nil ?_
        refine s_keep [true, false, false, false, true, false, true, false, false, false, false, false] 0 (by rw [hAs, hS]; exact Nat.le_of_ble_eq_true rfl) ?_
        refine s_cons ?_
        refine s_for [5] rfl ?_
        refine iv_range1 T.z_range ?_
        refine ea_cons ?_
        refine ev_int ?_
        refine ea_nil ?_
        refine ⟨_, rfl, by first | assumption | rfl | decide | exact Nat.le_of_ble_eq_true rfl | omega | (simp only [List.length_cons, List.length_nil, List.length_map, List.length_append]; omega) | exact hszl | exact hszw | exact Or.inl ⟨by decide, by decide⟩ | exact Or.inr ⟨by decide, by decide⟩ | exact pow_ok (by decide) (by decide) (by omega) (by omega) | exact ⟨by omega, by omega⟩ | exact Or.inl ⟨by omega, by omega⟩, by first | assumption | rfl | decide | exact Nat.le_of_ble_eq_true rfl | omega | (simp only [List.length_cons, List.length_nil, List.length_map, List.length_append]; omega) | exact hszl | exact hszw | exact Or.inl ⟨by decide, by decide⟩ | exact Or.inr ⟨by decide, by decide⟩ | exact pow_ok (by decide) (by decide) (by omega) (by omega) | exact ⟨by omega, by omega⟩ | exact Or.inl ⟨by omega, by omega⟩, ?_⟩
        refine ⟨Inv3 ns p, ⟨rfl, rfl⟩, fun S3 hAs3 j d3 ρ3 μ3 hd3 hin => ?_, fun ρ3 μ3 hin => ?_⟩
        · obtain ⟨rfl, rfl⟩ := hin
          refine ag_name 5 nd ?_ (by decide)
          refine s_keep [true, false, false, false, true, false, true, false, false, false, false, false] 0 (by rw [hAs3, hAs, hS]; exact Nat.le_of_ble_eq_true rfl) ?_
          refine s_probe (ρi := [none, none, none, none, none, none, some (.dat (.list (p.map fun w => PyData.str (showW w)))), none, none, none, none, none]) (iT := 8) (iB := 10) (iO := 11) (dts := p.map webD) (dbs := p.map webD) [("_law_text_here", 9)] [9] rfl nd rfl (blkOk_by (N := N_law) (sc := C8.fnScope s_law) (by decide +kernel)) (by decide) rfl ?pi rfl rfl rfl (by decide) (by decide) (by decide) rfl rfl rfl rfl rfl rfl (by decide) (by decide) (by decide) (by decide) (by decide) (by decide) (web_heads hPO) (by rw [List.length_map]; have := hPO.few; omega) ?ph ?pt ?pf
          case pi =>
            intro q sl hq
            have hq6 : q = 6 := by rcases q with _ | _ | _ | _ | _ | _ | _ | _ | _ | _ | _ | _ | q <;> first | rfl | (exfalso; simp at hq)
            subst hq6
            refine ⟨hq, ?_⟩
            obtain rfl := Option.some.inj (Option.some.inj hq)
            exact .inr ⟨p.map showW, by rw [List.map_map]; rfl⟩
          case ph =>
            refine iv_list ?_
            refine ev_name 6 rfl ?_
            refine ⟨_, rfl, ?_⟩
            refine lcd_mapT p (fun w => PyData.str (showW w)) webD (rfl) (by rw [sizeLine_eq]; have := hPO.few; omega) (fun x hx acc => ?_) ?_
            · intro s0 H0 C0 cl0 fp0
              refine ag_name 9 nd ?_ (by decide)
              intro s1 H1 C1 cl1 fp1
              refine Ev.data ?_
              refine ev_cal c_read_web hr ?_
              refine ea_cons ?_
              refine ev_name 9 rfl ?_
              refine ea_nil ?_
              refine callP_dat rfl ?_
              refine ⟨_, rfl, line_in (hPO.ok x hx), by rw [rd_web (hPO.ok x hx)]; exact (fw_web (hp1 x hx)).1, rfl, ?_⟩
              refine bk_n0 ?_
              refine ⟨by first | exact Nat.le_refl _ | simp, _, rfl, ?_⟩
              exact ⟨congrArg Sl.dat (webEq (hPO.ok x hx)), rfl⟩
            refine ev_cal c_read_program hr ?_
            refine ea_cons ?_
            refine e_join ?_
            refine ev_str ?_
            refine ⟨_, rfl, ?_⟩
            refine ev_name 6 rfl ?_
            refine ⟨p.map showW, by show some _ = some _; rw [List.map_map]; rfl, by rw [nl_len]; exact (show_prog hPO).2.2, ?_⟩
            refine ea_nil ?_
            refine callP_dat rfl ?_
            refine ⟨showP p, rfl, by have := len_prog hPO; rw [sizeLine_eq]; omega, by rw [lines_prog hPO, List.length_map]; exact hPO.few, read_lines hPO hp1, by rw [progEq hPO]; exact lay_shaped (lay_prog hPO) (by decide), rfl, ?_⟩
            refine bk_n0 ?_
            exact ⟨_, _, rfl, rfl, rfl, congrArg some (progEq hPO)⟩
          case pt =>
            refine et_of_ew ?_
            refine' ew_orP ?h821 (fun hA => ?h822) ?h823
            case h821 =>
              refine et_cmp (c_neqv hu) rfl ?_
              refine ev_name 8 rfl ?_
              refine ev_name 4 rfl ?_
              refine ne_v rfl rfl (.inr ⟨lay_shaped (lay_prog hPO) (by decide), lay_shaped (lay_prog hPO) (by decide)⟩) ?_
              refine ⟨_, rfl, ?_⟩
              exact ⟨rfl, rfl⟩
            case h822 =>
              refine ew_or1 ?_
              refine et_cmp (c_neqv hu) rfl ?_
              refine ev_name 10 rfl ?_
              refine ev_name 4 rfl ?_
              refine ne_v rfl rfl (.inr ⟨lay_shaped (lay_prog hPO) (by decide), lay_shaped (lay_prog hPO) (by decide)⟩) ?_
              refine ⟨_, rfl, ?_⟩
              exact ⟨rfl, rfl⟩
            case h823 =>
              exact ⟨by rw [SeqAt.eqv_refl _ (lay_prog hPO).1]; rfl, rfl⟩
          case pf =>
            exact ⟨rfl, rfl⟩
        · obtain ⟨rfl, rfl⟩ := hin
          refine s_keep [true, false, false, false, false, false, false, false, false, false, false, false] 0 (by rw [hAs0, hS]; exact Nat.le_of_ble_eq_true rfl) ?_
          refine s_nil ?_
          exact ⟨rfl, rfl⟩
  · obtain ⟨rfl, rfl⟩ := hin
    have hPE : ProgOk [] := ⟨by decide, by simp⟩
    have hLE : linesOf "" = [] := if_pos rfl
    refine s_cons ?_
    refine s_ret ?_
    refine' ev_andP ?h831 (fun hA => ?h832) ?h833
    case h831 =>
      refine ev_cmp (c_eqv hu) rfl ?_
      refine ev_cal c_show_program hr ?_
      refine ea_cons (Ev.data ?_)
      refine ev_list ?_
      refine ea_nil ?_
      refine lst_of rfl (by first | assumption | rfl | decide | exact Nat.le_of_ble_eq_true rfl | omega | (simp only [List.length_cons, List.length_nil, List.length_map, List.length_append]; omega) | exact hszl | exact hszw | exact Or.inl ⟨by decide, by decide⟩ | exact Or.inr ⟨by decide, by decide⟩ | exact pow_ok (by decide) (by decide) (by omega) (by omega) | exact ⟨by omega, by omega⟩ | exact Or.inl ⟨by omega, by omega⟩) ?_
      refine ⟨by first | exact Nat.le_refl _ | exact Nat.le_of_ble_eq_true rfl | simp, _, rfl, ?_⟩
      refine ea_nil ?_
      refine callP_dat rfl ?_
      refine ⟨[], rfl, show_prog hPE, rfl, ?_⟩
      refine bk_0 ?_
      refine ev_str ?_
      first | refine eq_i ?_ | refine eq_s ?_ | refine eq_v rfl rfl (by first | assumption | rfl | decide | exact Nat.le_of_ble_eq_true rfl | omega | (simp only [List.length_cons, List.length_nil, List.length_map, List.length_append]; omega) | exact hszl | exact hszw | exact Or.inl ⟨by decide, by decide⟩ | exact Or.inr ⟨by decide, by decide⟩ | exact pow_ok (by decide) (by decide) (by omega) (by omega) | exact ⟨by omega, by omega⟩ | exact Or.inl ⟨by omega, by omega⟩) ?_
      exact ⟨rfl, rfl⟩
    case h832 =>
      refine ev_one ?_
      refine Ev.trim ?_
      refine ev_cmp (c_eqv hu) rfl ?_
      refine ev_cal c_read_program hr ?_
      refine ea_cons ?_
      refine ev_str ?_
      refine ea_nil ?_
      refine callP_dat rfl ?_
      refine ⟨"", rfl, by rw [sizeLine_eq]; decide +kernel, by rw [hLE]; decide, by rw [hLE]; simp, by rw [hLE]; rfl, rfl, ?_⟩
      refine bk_n0 ?_
      refine ev_list ?_
      refine ea_nil ?_
      refine lst_of rfl (by first | assumption | rfl | decide | exact Nat.le_of_ble_eq_true rfl | omega | (simp only [List.length_cons, List.length_nil, List.length_map, List.length_append]; omega) | exact hszl | exact hszw | exact Or.inl ⟨by decide, by decide⟩ | exact Or.inr ⟨by decide, by decide⟩ | exact pow_ok (by decide) (by decide) (by omega) (by omega) | exact ⟨by omega, by omega⟩ | exact Or.inl ⟨by omega, by omega⟩) ?_
      refine eq_v rfl rfl (.inr ⟨by rw [hLE]; rfl, rfl⟩) ?_
      exact ⟨rfl, rfl⟩
    case h833 =>
      exact retD (congrArg PyData.bool (by rw [hLE, show showP [] = "" by decide +kernel]; rfl)) hP rfl
end
end K71
set_option maxRecDepth 100000
set_option maxHeartbeats 4000000
namespace K71
open PySem PySem.Spec PyProof.Rows L2 Dv
section
variable {w : World} {K : PySem.W.Frag} {mg : Str → Option Value} {base : Heap}
theorem all_mk {w : World} {K : PySem.W.Frag} {h : Heap} {mg : Str → Option Value} {fa : Addr} (X : K.In h) (G : h.Ns mainGlobals mg) (hfa : mg "law" = some (.ref fa))
    {f0 : Addr} {oc0 kV0 dc0 pm0 cd0 ct0 : Value} {od0 an0 : Option Addr} {sl0 : Array (Option Value)}
    {f1 : Addr} {oc1 kV1 dc1 pm1 cd1 ct1 : Value} {od1 an1 : Option Addr} {sl1 : Array (Option Value)}
    {f2 : Addr} {oc2 kV2 dc2 pm2 cd2 ct2 : Value} {od2 an2 : Option Addr} {sl2 : Array (Option Value)}
    {f3 : Addr} {oc3 kV3 dc3 pm3 cd3 ct3 : Value} {od3 an3 : Option Addr} {sl3 : Array (Option Value)}
    {f4 : Addr} {oc4 kV4 dc4 pm4 cd4 ct4 : Value} {od4 an4 : Option Addr} {sl4 : Array (Option Value)}
    {f5 : Addr} {oc5 kV5 dc5 pm5 cd5 ct5 : Value} {od5 an5 : Option Addr} {sl5 : Array (Option Value)}
    {f6 : Addr} {oc6 kV6 dc6 pm6 cd6 ct6 : Value} {od6 an6 : Option Addr} {sl6 : Array (Option Value)}
    {f7 : Addr} {oc7 kV7 dc7 pm7 cd7 ct7 : Value} {od7 an7 : Option Addr} {sl7 : Array (Option Value)}
    {f8 : Addr} {oc8 kV8 dc8 pm8 cd8 ct8 : Value} {od8 an8 : Option Addr} {sl8 : Array (Option Value)}
    {f9 : Addr} {oc9 kV9 dc9 pm9 cd9 ct9 : Value} {od9 an9 : Option Addr} {sl9 : Array (Option Value)}
    {f10 : Addr} {oc10 kV10 dc10 pm10 cd10 ct10 : Value} {od10 an10 : Option Addr} {sl10 : Array (Option Value)}
    {f11 : Addr} {oc11 kV11 dc11 pm11 cd11 ct11 : Value} {od11 an11 : Option Addr} {sl11 : Array (Option Value)}
    {f12 : Addr} {oc12 kV12 dc12 pm12 cd12 ct12 : Value} {od12 an12 : Option Addr} {sl12 : Array (Option Value)}
    {f13 : Addr} {oc13 kV13 dc13 pm13 cd13 ct13 : Value} {od13 an13 : Option Addr} {sl13 : Array (Option Value)}
    {f14 : Addr} {oc14 kV14 dc14 pm14 cd14 ct14 : Value} {od14 an14 : Option Addr} {sl14 : Array (Option Value)}
    {f15 : Addr} {oc15 kV15 dc15 pm15 cd15 ct15 : Value} {od15 an15 : Option Addr} {sl15 : Array (Option Value)}
    {f16 : Addr} {oc16 kV16 dc16 pm16 cd16 ct16 : Value} {od16 an16 : Option Addr} {sl16 : Array (Option Value)}
    {f17 : Addr} {oc17 kV17 dc17 pm17 cd17 ct17 : Value} {od17 an17 : Option Addr} {sl17 : Array (Option Value)}
    {f18 : Addr} {oc18 kV18 dc18 pm18 cd18 ct18 : Value} {od18 an18 : Option Addr} {sl18 : Array (Option Value)}
    {f19 : Addr} {oc19 kV19 dc19 pm19 cd19 ct19 : Value} {od19 an19 : Option Addr} {sl19 : Array (Option Value)}
    {f20 : Addr} {oc20 kV20 dc20 pm20 cd20 ct20 : Value} {od20 an20 : Option Addr} {sl20 : Array (Option Value)}
    {f21 : Addr} {oc21 kV21 dc21 pm21 cd21 ct21 : Value} {od21 an21 : Option Addr} {sl21 : Array (Option Value)}
    {f22 : Addr} {oc22 kV22 dc22 pm22 cd22 ct22 : Value} {od22 an22 : Option Addr} {sl22 : Array (Option Value)}
    {TW : Addr} {ocT : Value} {odT : Option Addr} {nT : Nat} {slT : Array (Option Value)} {t0 t1 : Tok}
    {t_MOST_WORD : Tok}
    {t_MOST_LETTERS : Tok}
    {t_LEAST_NODES : Tok}
    {t_MOST_NODES : Tok}
    {t_MOST_FIGURES : Tok}
    {t_MOST_LINES : Tok}
    {t_LETTERS : Tok}
    {t_FIGURES : Tok}
    {t_BETWEEN : Tok}
    {aD aK aM : Addr} {odD : Option Addr} {nD nK nM : Nat} {slD : Array (Option Value)} {tD1 tD2 : Tok} {esK esM : Array DictEntry}
    (a0 : PySem.W.nsIn K mainGlobals "is_whole" = some (some (.ref f0)))
    (l0 : K.lookup f0 = some ⟨oc0, od0, .func (PySem.W.fnOf "is_whole" "is_whole" (C8.fnArgs s_is_whole) (C8.fnBody s_is_whole) (C8.fnScope s_is_whole) (.ref TW) kV0 dc0 pm0 an0 cd0 ct0), sl0⟩)
    (c0 : PySem.W.codeIn K cd0 "is_whole" = true)
    (k0 : PySem.W.keepIn K (.ref f0) = true)
    (a1 : PySem.W.nsIn K mainGlobals "is_word" = some (some (.ref f1)))
    (l1 : K.lookup f1 = some ⟨oc1, od1, .func (PySem.W.fnOf "is_word" "is_word" (C8.fnArgs s_is_word) (C8.fnBody s_is_word) (C8.fnScope s_is_word) .none kV1 dc1 pm1 an1 cd1 ct1), sl1⟩)
    (c1 : PySem.W.codeIn K cd1 "is_word" = true)
    (k1 : PySem.W.keepIn K (.ref f1) = true)
    (a2 : PySem.W.nsIn K mainGlobals "is_name" = some (some (.ref f2)))
    (l2 : K.lookup f2 = some ⟨oc2, od2, .func (PySem.W.fnOf "is_name" "is_name" (C8.fnArgs s_is_name) (C8.fnBody s_is_name) (C8.fnScope s_is_name) .none kV2 dc2 pm2 an2 cd2 ct2), sl2⟩)
    (c2 : PySem.W.codeIn K cd2 "is_name" = true)
    (k2 : PySem.W.keepIn K (.ref f2) = true)
    (a3 : PySem.W.nsIn K mainGlobals "is_mark" = some (some (.ref f3)))
    (l3 : K.lookup f3 = some ⟨oc3, od3, .func (PySem.W.fnOf "is_mark" "is_mark" (C8.fnArgs s_is_mark) (C8.fnBody s_is_mark) (C8.fnScope s_is_mark) .none kV3 dc3 pm3 an3 cd3 ct3), sl3⟩)
    (c3 : PySem.W.codeIn K cd3 "is_mark" = true)
    (k3 : PySem.W.keepIn K (.ref f3) = true)
    (a4 : PySem.W.nsIn K mainGlobals "is_node" = some (some (.ref f4)))
    (l4 : K.lookup f4 = some ⟨oc4, od4, .func (PySem.W.fnOf "is_node" "is_node" (C8.fnArgs s_is_node) (C8.fnBody s_is_node) (C8.fnScope s_is_node) .none kV4 dc4 pm4 an4 cd4 ct4), sl4⟩)
    (c4 : PySem.W.codeIn K cd4 "is_node" = true)
    (k4 : PySem.W.keepIn K (.ref f4) = true)
    (a5 : PySem.W.nsIn K mainGlobals "all_kids" = some (some (.ref f5)))
    (l5 : K.lookup f5 = some ⟨oc5, od5, .func (PySem.W.fnOf "all_kids" "all_kids" (C8.fnArgs s_all_kids) (C8.fnBody s_all_kids) (C8.fnScope s_all_kids) .none kV5 dc5 pm5 an5 cd5 ct5), sl5⟩)
    (c5 : PySem.W.codeIn K cd5 "all_kids" = true)
    (k5 : PySem.W.keepIn K (.ref f5) = true)
    (a6 : PySem.W.nsIn K mainGlobals "is_web" = some (some (.ref f6)))
    (l6 : K.lookup f6 = some ⟨oc6, od6, .func (PySem.W.fnOf "is_web" "is_web" (C8.fnArgs s_is_web) (C8.fnBody s_is_web) (C8.fnScope s_is_web) .none kV6 dc6 pm6 an6 cd6 ct6), sl6⟩)
    (c6 : PySem.W.codeIn K cd6 "is_web" = true)
    (k6 : PySem.W.keepIn K (.ref f6) = true)
    (a7 : PySem.W.nsIn K mainGlobals "plain_number" = some (some (.ref f7)))
    (l7 : K.lookup f7 = some ⟨oc7, od7, .func (PySem.W.fnOf "plain_number" "plain_number" (C8.fnArgs s_plain_number) (C8.fnBody s_plain_number) (C8.fnScope s_plain_number) .none kV7 dc7 pm7 an7 cd7 ct7), sl7⟩)
    (c7 : PySem.W.codeIn K cd7 "plain_number" = true)
    (k7 : PySem.W.keepIn K (.ref f7) = true)
    (a8 : PySem.W.nsIn K mainGlobals "show_node" = some (some (.ref f8)))
    (l8 : K.lookup f8 = some ⟨oc8, od8, .func (PySem.W.fnOf "show_node" "show_node" (C8.fnArgs s_show_node) (C8.fnBody s_show_node) (C8.fnScope s_show_node) .none kV8 dc8 pm8 an8 cd8 ct8), sl8⟩)
    (c8 : PySem.W.codeIn K cd8 "show_node" = true)
    (k8 : PySem.W.keepIn K (.ref f8) = true)
    (a9 : PySem.W.nsIn K mainGlobals "show_web" = some (some (.ref f9)))
    (l9 : K.lookup f9 = some ⟨oc9, od9, .func (PySem.W.fnOf "show_web" "show_web" (C8.fnArgs s_show_web) (C8.fnBody s_show_web) (C8.fnScope s_show_web) .none kV9 dc9 pm9 an9 cd9 ct9), sl9⟩)
    (c9 : PySem.W.codeIn K cd9 "show_web" = true)
    (k9 : PySem.W.keepIn K (.ref f9) = true)
    (a10 : PySem.W.nsIn K mainGlobals "show_program" = some (some (.ref f10)))
    (l10 : K.lookup f10 = some ⟨oc10, od10, .func (PySem.W.fnOf "show_program" "show_program" (C8.fnArgs s_show_program) (C8.fnBody s_show_program) (C8.fnScope s_show_program) .none kV10 dc10 pm10 an10 cd10 ct10), sl10⟩)
    (c10 : PySem.W.codeIn K cd10 "show_program" = true)
    (k10 : PySem.W.keepIn K (.ref f10) = true)
    (a11 : PySem.W.nsIn K mainGlobals "read_mark" = some (some (.ref f11)))
    (l11 : K.lookup f11 = some ⟨oc11, od11, .func (PySem.W.fnOf "read_mark" "read_mark" (C8.fnArgs s_read_mark) (C8.fnBody s_read_mark) (C8.fnScope s_read_mark) .none kV11 dc11 pm11 an11 cd11 ct11), sl11⟩)
    (c11 : PySem.W.codeIn K cd11 "read_mark" = true)
    (k11 : PySem.W.keepIn K (.ref f11) = true)
    (a12 : PySem.W.nsIn K mainGlobals "read_node" = some (some (.ref f12)))
    (l12 : K.lookup f12 = some ⟨oc12, od12, .func (PySem.W.fnOf "read_node" "read_node" (C8.fnArgs s_read_node) (C8.fnBody s_read_node) (C8.fnScope s_read_node) .none kV12 dc12 pm12 an12 cd12 ct12), sl12⟩)
    (c12 : PySem.W.codeIn K cd12 "read_node" = true)
    (k12 : PySem.W.keepIn K (.ref f12) = true)
    (a13 : PySem.W.nsIn K mainGlobals "web_in" = some (some (.ref f13)))
    (l13 : K.lookup f13 = some ⟨oc13, od13, .func (PySem.W.fnOf "web_in" "web_in" (C8.fnArgs s_web_in) (C8.fnBody s_web_in) (C8.fnScope s_web_in) .none kV13 dc13 pm13 an13 cd13 ct13), sl13⟩)
    (c13 : PySem.W.codeIn K cd13 "web_in" = true)
    (k13 : PySem.W.keepIn K (.ref f13) = true)
    (a14 : PySem.W.nsIn K mainGlobals "read_web" = some (some (.ref f14)))
    (l14 : K.lookup f14 = some ⟨oc14, od14, .func (PySem.W.fnOf "read_web" "read_web" (C8.fnArgs s_read_web) (C8.fnBody s_read_web) (C8.fnScope s_read_web) .none kV14 dc14 pm14 an14 cd14 ct14), sl14⟩)
    (c14 : PySem.W.codeIn K cd14 "read_web" = true)
    (k14 : PySem.W.keepIn K (.ref f14) = true)
    (a15 : PySem.W.nsIn K mainGlobals "read_program" = some (some (.ref f15)))
    (l15 : K.lookup f15 = some ⟨oc15, od15, .func (PySem.W.fnOf "read_program" "read_program" (C8.fnArgs s_read_program) (C8.fnBody s_read_program) (C8.fnScope s_read_program) .none kV15 dc15 pm15 an15 cd15 ct15), sl15⟩)
    (c15 : PySem.W.codeIn K cd15 "read_program" = true)
    (k15 : PySem.W.keepIn K (.ref f15) = true)
    (a16 : PySem.W.nsIn K mainGlobals "_law_bag" = some (some (.ref f16)))
    (l16 : K.lookup f16 = some ⟨oc16, od16, .func (PySem.W.fnOf "_law_bag" "_law_bag" (C8.fnArgs s__law_bag) (C8.fnBody s__law_bag) (C8.fnScope s__law_bag) .none kV16 dc16 pm16 an16 cd16 ct16), sl16⟩)
    (c16 : PySem.W.codeIn K cd16 "_law_bag" = true)
    (k16 : PySem.W.keepIn K (.ref f16) = true)
    (a17 : PySem.W.nsIn K mainGlobals "_law_take" = some (some (.ref f17)))
    (l17 : K.lookup f17 = some ⟨oc17, od17, .func (PySem.W.fnOf "_law_take" "_law_take" (C8.fnArgs s__law_take) (C8.fnBody s__law_take) (C8.fnScope s__law_take) .none kV17 dc17 pm17 an17 cd17 ct17), sl17⟩)
    (c17 : PySem.W.codeIn K cd17 "_law_take" = true)
    (k17 : PySem.W.keepIn K (.ref f17) = true)
    (a18 : PySem.W.nsIn K mainGlobals "_law_leaf" = some (some (.ref f18)))
    (l18 : K.lookup f18 = some ⟨oc18, od18, .func (PySem.W.fnOf "_law_leaf" "_law_leaf" (C8.fnArgs s__law_leaf) (C8.fnBody s__law_leaf) (C8.fnScope s__law_leaf) .none kV18 dc18 pm18 an18 cd18 ct18), sl18⟩)
    (c18 : PySem.W.codeIn K cd18 "_law_leaf" = true)
    (k18 : PySem.W.keepIn K (.ref f18) = true)
    (a19 : PySem.W.nsIn K mainGlobals "_law_web" = some (some (.ref f19)))
    (l19 : K.lookup f19 = some ⟨oc19, od19, .func (PySem.W.fnOf "_law_web" "_law_web" (C8.fnArgs s__law_web) (C8.fnBody s__law_web) (C8.fnScope s__law_web) .none kV19 dc19 pm19 an19 cd19 ct19), sl19⟩)
    (c19 : PySem.W.codeIn K cd19 "_law_web" = true)
    (k19 : PySem.W.keepIn K (.ref f19) = true)
    (a20 : PySem.W.nsIn K mainGlobals "_law_node" = some (some (.ref f20)))
    (l20 : K.lookup f20 = some ⟨oc20, od20, .func (PySem.W.fnOf "_law_node" "_law_node" (C8.fnArgs s__law_node) (C8.fnBody s__law_node) (C8.fnScope s__law_node) .none kV20 dc20 pm20 an20 cd20 ct20), sl20⟩)
    (c20 : PySem.W.codeIn K cd20 "_law_node" = true)
    (k20 : PySem.W.keepIn K (.ref f20) = true)
    (a21 : PySem.W.nsIn K mainGlobals "_law_text" = some (some (.ref f21)))
    (l21 : K.lookup f21 = some ⟨oc21, od21, .func (PySem.W.fnOf "_law_text" "_law_text" (C8.fnArgs s__law_text) (C8.fnBody s__law_text) (C8.fnScope s__law_text) .none kV21 dc21 pm21 an21 cd21 ct21), sl21⟩)
    (c21 : PySem.W.codeIn K cd21 "_law_text" = true)
    (k21 : PySem.W.keepIn K (.ref f21) = true)
    (a22 : PySem.W.nsIn K mainGlobals "law" = some (some (.ref f22)))
    (l22 : K.lookup f22 = some ⟨oc22, od22, .func (PySem.W.fnOf "law" "law" (C8.fnArgs s_law) (C8.fnBody s_law) (C8.fnScope s_law) .none kV22 dc22 pm22 an22 cd22 ct22), sl22⟩)
    (c22 : PySem.W.codeIn K cd22 "law" = true)
    (k22 : PySem.W.keepIn K (.ref f22) = true)
    (lT : K.lookup TW = some ⟨ocT, odT, .seq #[.int 0 t0, .int 65535 t1] nT, slT⟩)
    (z_len : PySem.W.nsIn K mainGlobals "len" = some none)
    (z_all : PySem.W.nsIn K mainGlobals "all" = some none)
    (z_any : PySem.W.nsIn K mainGlobals "any" = some none)
    (z_abs : PySem.W.nsIn K mainGlobals "abs" = some none)
    (z_max : PySem.W.nsIn K mainGlobals "max" = some none)
    (z_min : PySem.W.nsIn K mainGlobals "min" = some none)
    (z_int : PySem.W.nsIn K mainGlobals "int" = some none)
    (z_str : PySem.W.nsIn K mainGlobals "str" = some none)
    (z_bool : PySem.W.nsIn K mainGlobals "bool" = some none)
    (z_list : PySem.W.nsIn K mainGlobals "list" = some none)
    (z_tuple : PySem.W.nsIn K mainGlobals "tuple" = some none)
    (z_set : PySem.W.nsIn K mainGlobals "set" = some none)
    (z_isinstance : PySem.W.nsIn K mainGlobals "isinstance" = some none)
    (z_range : PySem.W.nsIn K mainGlobals "range" = some none)
    (z_enumerate : PySem.W.nsIn K mainGlobals "enumerate" = some none)
    (g_MOST_WORD : PySem.W.nsIn K mainGlobals "MOST_WORD" = some (some (.int 65535 t_MOST_WORD)))
    (g_MOST_LETTERS : PySem.W.nsIn K mainGlobals "MOST_LETTERS" = some (some (.int 8 t_MOST_LETTERS)))
    (g_LEAST_NODES : PySem.W.nsIn K mainGlobals "LEAST_NODES" = some (some (.int 2 t_LEAST_NODES)))
    (g_MOST_NODES : PySem.W.nsIn K mainGlobals "MOST_NODES" = some (some (.int 40 t_MOST_NODES)))
    (g_MOST_FIGURES : PySem.W.nsIn K mainGlobals "MOST_FIGURES" = some (some (.int 5 t_MOST_FIGURES)))
    (g_MOST_LINES : PySem.W.nsIn K mainGlobals "MOST_LINES" = some (some (.int 20 t_MOST_LINES)))
    (g_LETTERS : PySem.W.nsIn K mainGlobals "LETTERS" = some (some (.str "abcdefghijklmnopqrstuvwxyz" t_LETTERS)))
    (g_FIGURES : PySem.W.nsIn K mainGlobals "FIGURES" = some (some (.str "0123456789" t_FIGURES)))
    (g_BETWEEN : PySem.W.nsIn K mainGlobals "BETWEEN" = some (some (.str "; " t_BETWEEN)))
    (g_DEEDS : PySem.W.nsIn K mainGlobals "DEEDS" = some (some (.ref aD)))
    (lD : K.lookup aD = some ⟨.type "tuple", odD, .seq #[.str "put" tD1, .str "set" tD2] nD, slD⟩)
    (g_KIDS : PySem.W.nsIn K mainGlobals "KIDS" = some (some (.ref aK)))
    (lK : K.lookup aK = some ⟨.type "dict", none, .dict esK nK, #[]⟩)
    (g_MARKS : PySem.W.nsIn K mainGlobals "MARKS" = some (some (.ref aM)))
    (lM : K.lookup aM = some ⟨.type "dict", none, .dict esM nM, #[]⟩)
    (wK : (aK == sysModules) = false)
    (wM : (aM == sysModules) = false)
    (litK : esK.toList.map He.keyOf = He.keysIn w.params (kvK.map (·.1)))
    (litM : esM.toList.map He.keyOf = He.keysIn w.params (kvM.map (·.1)))
    (kdK : KDs K esK.toList kvK)
    (kdM : KDs K esM.toList kvM)
    : ∃ fd : FuncData, (∀ (s : Shared) (v : Value), BindsTo s fd ⟨[v], []⟩ [("_law_script", v)]) ∧ ∀ base : Heap, K.In base → base.Ns mainGlobals mg → FnOk PW w K mg base L2.CX0 8 fa fd ["_law_script"] (DSp K sp_law) := by
  have hff : fa = f22 := Value.ref.inj (Option.some.inj (hfa.symm.trans (PySem.W.mg_of X G a22)))
  rw [hff]
  have F0 : C8.Fun K "is_whole" "is_whole" s_is_whole f0 (PySem.W.fnOf "is_whole" "is_whole" (C8.fnArgs s_is_whole) (C8.fnBody s_is_whole) (C8.fnScope s_is_whole) (.ref TW) kV0 dc0 pm0 an0 cd0 ct0) := ⟨⟨oc0, od0, _, kV0, dc0, pm0, an0, cd0, ct0, sl0, rfl, l0, c0⟩⟩
  have FD : FunD K "is_whole" "is_whole" (C8.fnArgs s_is_whole) (C8.fnBody s_is_whole) (C8.fnScope s_is_whole) [.int 0, .int 65535] [] f0 (PySem.W.fnOf "is_whole" "is_whole" (C8.fnArgs s_is_whole) (C8.fnBody s_is_whole) (C8.fnScope s_is_whole) (.ref TW) kV0 dc0 pm0 an0 cd0 ct0) := ⟨⟨oc0, od0, _, kV0, dc0, pm0, an0, cd0, ct0, sl0, rfl, l0, c0, .inr ⟨by simp, TW, _, [.int 0 t0, .int 65535 t1], nT, rfl, lT, rfl, .cons ⟨t0, rfl⟩ (.cons ⟨t1, rfl⟩ .nil)⟩, .inl rfl⟩, k0⟩
  have D0a : DefD K mg "is_whole" s_is_whole ["thing", "low", "high"] [.dat (.int 0), .dat (.int 65535)] f0 (PySem.W.fnOf "is_whole" "is_whole" (C8.fnArgs s_is_whole) (C8.fnBody s_is_whole) (C8.fnScope s_is_whole) (.ref TW) kV0 dc0 pm0 an0 cd0 ct0) := by
    obtain ⟨ds, hv, hb⟩ := FD.binds1 (ps := ["thing", "low", "high"]) 1 0 (by simp) (by decide) (fun _ _ _ _ _ _ _ us its hu hi => match us, its, hu, hi with | [_], [_, _], _, _ => ⟨_, rfl, rfl⟩)
    exact ⟨F0, PySem.W.mg_of X G a0, k0, ds, _, hb, hv, fun _ _ _ => .cons (s := .dat (.int 0)) (.int 0) (.cons (s := .dat (.int 65535)) (.int 65535) .nil)⟩
  have D0b : DefD K mg "is_whole" s_is_whole ["thing", "low", "high"] [] f0 (PySem.W.fnOf "is_whole" "is_whole" (C8.fnArgs s_is_whole) (C8.fnBody s_is_whole) (C8.fnScope s_is_whole) (.ref TW) kV0 dc0 pm0 an0 cd0 ct0) := by
    obtain ⟨ds, hv, hb⟩ := FD.binds1 (ps := ["thing", "low", "high"]) 3 2 (by simp) (by decide) (fun _ _ _ _ _ _ _ us its hu hi => match us, its, hu, hi with | [_, _, _], [_, _], _, _ => ⟨_, rfl, rfl⟩)
    cases hv
    exact ⟨F0, PySem.W.mg_of X G a0, k0, [], [], hb, .nil, dfl_nil⟩
  have F1 : C8.Fun K "is_word" "is_word" s_is_word f1 (PySem.W.fnOf "is_word" "is_word" (C8.fnArgs s_is_word) (C8.fnBody s_is_word) (C8.fnScope s_is_word) .none kV1 dc1 pm1 an1 cd1 ct1) := ⟨⟨oc1, od1, _, kV1, dc1, pm1, an1, cd1, ct1, sl1, rfl, l1, c1⟩⟩
  have D1 : DefD K mg "is_word" s_is_word ["thing"] [] f1 (PySem.W.fnOf "is_word" "is_word" (C8.fnArgs s_is_word) (C8.fnBody s_is_word) (C8.fnScope s_is_word) .none kV1 dc1 pm1 an1 cd1 ct1) := ⟨F1, PySem.W.mg_of X G a1, k1, [], [], F1.binds rfl (fun _ _ _ _ _ _ us hl => match us, hl with | [_], _ => rfl), .nil, dfl_nil⟩
  have F2 : C8.Fun K "is_name" "is_name" s_is_name f2 (PySem.W.fnOf "is_name" "is_name" (C8.fnArgs s_is_name) (C8.fnBody s_is_name) (C8.fnScope s_is_name) .none kV2 dc2 pm2 an2 cd2 ct2) := ⟨⟨oc2, od2, _, kV2, dc2, pm2, an2, cd2, ct2, sl2, rfl, l2, c2⟩⟩
  have D2 : DefD K mg "is_name" s_is_name ["thing"] [] f2 (PySem.W.fnOf "is_name" "is_name" (C8.fnArgs s_is_name) (C8.fnBody s_is_name) (C8.fnScope s_is_name) .none kV2 dc2 pm2 an2 cd2 ct2) := ⟨F2, PySem.W.mg_of X G a2, k2, [], [], F2.binds rfl (fun _ _ _ _ _ _ us hl => match us, hl with | [_], _ => rfl), .nil, dfl_nil⟩
  have F3 : C8.Fun K "is_mark" "is_mark" s_is_mark f3 (PySem.W.fnOf "is_mark" "is_mark" (C8.fnArgs s_is_mark) (C8.fnBody s_is_mark) (C8.fnScope s_is_mark) .none kV3 dc3 pm3 an3 cd3 ct3) := ⟨⟨oc3, od3, _, kV3, dc3, pm3, an3, cd3, ct3, sl3, rfl, l3, c3⟩⟩
  have D3 : DefD K mg "is_mark" s_is_mark ["op", "thing"] [] f3 (PySem.W.fnOf "is_mark" "is_mark" (C8.fnArgs s_is_mark) (C8.fnBody s_is_mark) (C8.fnScope s_is_mark) .none kV3 dc3 pm3 an3 cd3 ct3) := ⟨F3, PySem.W.mg_of X G a3, k3, [], [], F3.binds rfl (fun _ _ _ _ _ _ us hl => match us, hl with | [_, _], _ => rfl), .nil, dfl_nil⟩
  have F4 : C8.Fun K "is_node" "is_node" s_is_node f4 (PySem.W.fnOf "is_node" "is_node" (C8.fnArgs s_is_node) (C8.fnBody s_is_node) (C8.fnScope s_is_node) .none kV4 dc4 pm4 an4 cd4 ct4) := ⟨⟨oc4, od4, _, kV4, dc4, pm4, an4, cd4, ct4, sl4, rfl, l4, c4⟩⟩
  have D4 : DefD K mg "is_node" s_is_node ["thing", "at"] [] f4 (PySem.W.fnOf "is_node" "is_node" (C8.fnArgs s_is_node) (C8.fnBody s_is_node) (C8.fnScope s_is_node) .none kV4 dc4 pm4 an4 cd4 ct4) := ⟨F4, PySem.W.mg_of X G a4, k4, [], [], F4.binds rfl (fun _ _ _ _ _ _ us hl => match us, hl with | [_, _], _ => rfl), .nil, dfl_nil⟩
  have F5 : C8.Fun K "all_kids" "all_kids" s_all_kids f5 (PySem.W.fnOf "all_kids" "all_kids" (C8.fnArgs s_all_kids) (C8.fnBody s_all_kids) (C8.fnScope s_all_kids) .none kV5 dc5 pm5 an5 cd5 ct5) := ⟨⟨oc5, od5, _, kV5, dc5, pm5, an5, cd5, ct5, sl5, rfl, l5, c5⟩⟩
  have D5 : DefD K mg "all_kids" s_all_kids ["web"] [] f5 (PySem.W.fnOf "all_kids" "all_kids" (C8.fnArgs s_all_kids) (C8.fnBody s_all_kids) (C8.fnScope s_all_kids) .none kV5 dc5 pm5 an5 cd5 ct5) := ⟨F5, PySem.W.mg_of X G a5, k5, [], [], F5.binds rfl (fun _ _ _ _ _ _ us hl => match us, hl with | [_], _ => rfl), .nil, dfl_nil⟩
  have F6 : C8.Fun K "is_web" "is_web" s_is_web f6 (PySem.W.fnOf "is_web" "is_web" (C8.fnArgs s_is_web) (C8.fnBody s_is_web) (C8.fnScope s_is_web) .none kV6 dc6 pm6 an6 cd6 ct6) := ⟨⟨oc6, od6, _, kV6, dc6, pm6, an6, cd6, ct6, sl6, rfl, l6, c6⟩⟩
  have D6 : DefD K mg "is_web" s_is_web ["thing"] [] f6 (PySem.W.fnOf "is_web" "is_web" (C8.fnArgs s_is_web) (C8.fnBody s_is_web) (C8.fnScope s_is_web) .none kV6 dc6 pm6 an6 cd6 ct6) := ⟨F6, PySem.W.mg_of X G a6, k6, [], [], F6.binds rfl (fun _ _ _ _ _ _ us hl => match us, hl with | [_], _ => rfl), .nil, dfl_nil⟩
  have F7 : C8.Fun K "plain_number" "plain_number" s_plain_number f7 (PySem.W.fnOf "plain_number" "plain_number" (C8.fnArgs s_plain_number) (C8.fnBody s_plain_number) (C8.fnScope s_plain_number) .none kV7 dc7 pm7 an7 cd7 ct7) := ⟨⟨oc7, od7, _, kV7, dc7, pm7, an7, cd7, ct7, sl7, rfl, l7, c7⟩⟩
  have D7 : DefD K mg "plain_number" s_plain_number ["word"] [] f7 (PySem.W.fnOf "plain_number" "plain_number" (C8.fnArgs s_plain_number) (C8.fnBody s_plain_number) (C8.fnScope s_plain_number) .none kV7 dc7 pm7 an7 cd7 ct7) := ⟨F7, PySem.W.mg_of X G a7, k7, [], [], F7.binds rfl (fun _ _ _ _ _ _ us hl => match us, hl with | [_], _ => rfl), .nil, dfl_nil⟩
  have F8 : C8.Fun K "show_node" "show_node" s_show_node f8 (PySem.W.fnOf "show_node" "show_node" (C8.fnArgs s_show_node) (C8.fnBody s_show_node) (C8.fnScope s_show_node) .none kV8 dc8 pm8 an8 cd8 ct8) := ⟨⟨oc8, od8, _, kV8, dc8, pm8, an8, cd8, ct8, sl8, rfl, l8, c8⟩⟩
  have D8 : DefD K mg "show_node" s_show_node ["node"] [] f8 (PySem.W.fnOf "show_node" "show_node" (C8.fnArgs s_show_node) (C8.fnBody s_show_node) (C8.fnScope s_show_node) .none kV8 dc8 pm8 an8 cd8 ct8) := ⟨F8, PySem.W.mg_of X G a8, k8, [], [], F8.binds rfl (fun _ _ _ _ _ _ us hl => match us, hl with | [_], _ => rfl), .nil, dfl_nil⟩
  have F9 : C8.Fun K "show_web" "show_web" s_show_web f9 (PySem.W.fnOf "show_web" "show_web" (C8.fnArgs s_show_web) (C8.fnBody s_show_web) (C8.fnScope s_show_web) .none kV9 dc9 pm9 an9 cd9 ct9) := ⟨⟨oc9, od9, _, kV9, dc9, pm9, an9, cd9, ct9, sl9, rfl, l9, c9⟩⟩
  have D9 : DefD K mg "show_web" s_show_web ["web"] [] f9 (PySem.W.fnOf "show_web" "show_web" (C8.fnArgs s_show_web) (C8.fnBody s_show_web) (C8.fnScope s_show_web) .none kV9 dc9 pm9 an9 cd9 ct9) := ⟨F9, PySem.W.mg_of X G a9, k9, [], [], F9.binds rfl (fun _ _ _ _ _ _ us hl => match us, hl with | [_], _ => rfl), .nil, dfl_nil⟩
  have F10 : C8.Fun K "show_program" "show_program" s_show_program f10 (PySem.W.fnOf "show_program" "show_program" (C8.fnArgs s_show_program) (C8.fnBody s_show_program) (C8.fnScope s_show_program) .none kV10 dc10 pm10 an10 cd10 ct10) := ⟨⟨oc10, od10, _, kV10, dc10, pm10, an10, cd10, ct10, sl10, rfl, l10, c10⟩⟩
  have D10 : DefD K mg "show_program" s_show_program ["program"] [] f10 (PySem.W.fnOf "show_program" "show_program" (C8.fnArgs s_show_program) (C8.fnBody s_show_program) (C8.fnScope s_show_program) .none kV10 dc10 pm10 an10 cd10 ct10) := ⟨F10, PySem.W.mg_of X G a10, k10, [], [], F10.binds rfl (fun _ _ _ _ _ _ us hl => match us, hl with | [_], _ => rfl), .nil, dfl_nil⟩
  have F11 : C8.Fun K "read_mark" "read_mark" s_read_mark f11 (PySem.W.fnOf "read_mark" "read_mark" (C8.fnArgs s_read_mark) (C8.fnBody s_read_mark) (C8.fnScope s_read_mark) .none kV11 dc11 pm11 an11 cd11 ct11) := ⟨⟨oc11, od11, _, kV11, dc11, pm11, an11, cd11, ct11, sl11, rfl, l11, c11⟩⟩
  have D11 : DefD K mg "read_mark" s_read_mark ["op", "word"] [] f11 (PySem.W.fnOf "read_mark" "read_mark" (C8.fnArgs s_read_mark) (C8.fnBody s_read_mark) (C8.fnScope s_read_mark) .none kV11 dc11 pm11 an11 cd11 ct11) := ⟨F11, PySem.W.mg_of X G a11, k11, [], [], F11.binds rfl (fun _ _ _ _ _ _ us hl => match us, hl with | [_, _], _ => rfl), .nil, dfl_nil⟩
  have F12 : C8.Fun K "read_node" "read_node" s_read_node f12 (PySem.W.fnOf "read_node" "read_node" (C8.fnArgs s_read_node) (C8.fnBody s_read_node) (C8.fnScope s_read_node) .none kV12 dc12 pm12 an12 cd12 ct12) := ⟨⟨oc12, od12, _, kV12, dc12, pm12, an12, cd12, ct12, sl12, rfl, l12, c12⟩⟩
  have D12 : DefD K mg "read_node" s_read_node ["text"] [] f12 (PySem.W.fnOf "read_node" "read_node" (C8.fnArgs s_read_node) (C8.fnBody s_read_node) (C8.fnScope s_read_node) .none kV12 dc12 pm12 an12 cd12 ct12) := ⟨F12, PySem.W.mg_of X G a12, k12, [], [], F12.binds rfl (fun _ _ _ _ _ _ us hl => match us, hl with | [_], _ => rfl), .nil, dfl_nil⟩
  have F13 : C8.Fun K "web_in" "web_in" s_web_in f13 (PySem.W.fnOf "web_in" "web_in" (C8.fnArgs s_web_in) (C8.fnBody s_web_in) (C8.fnScope s_web_in) .none kV13 dc13 pm13 an13 cd13 ct13) := ⟨⟨oc13, od13, _, kV13, dc13, pm13, an13, cd13, ct13, sl13, rfl, l13, c13⟩⟩
  have D13 : DefD K mg "web_in" s_web_in ["line"] [] f13 (PySem.W.fnOf "web_in" "web_in" (C8.fnArgs s_web_in) (C8.fnBody s_web_in) (C8.fnScope s_web_in) .none kV13 dc13 pm13 an13 cd13 ct13) := ⟨F13, PySem.W.mg_of X G a13, k13, [], [], F13.binds rfl (fun _ _ _ _ _ _ us hl => match us, hl with | [_], _ => rfl), .nil, dfl_nil⟩
  have F14 : C8.Fun K "read_web" "read_web" s_read_web f14 (PySem.W.fnOf "read_web" "read_web" (C8.fnArgs s_read_web) (C8.fnBody s_read_web) (C8.fnScope s_read_web) .none kV14 dc14 pm14 an14 cd14 ct14) := ⟨⟨oc14, od14, _, kV14, dc14, pm14, an14, cd14, ct14, sl14, rfl, l14, c14⟩⟩
  have D14 : DefD K mg "read_web" s_read_web ["text"] [] f14 (PySem.W.fnOf "read_web" "read_web" (C8.fnArgs s_read_web) (C8.fnBody s_read_web) (C8.fnScope s_read_web) .none kV14 dc14 pm14 an14 cd14 ct14) := ⟨F14, PySem.W.mg_of X G a14, k14, [], [], F14.binds rfl (fun _ _ _ _ _ _ us hl => match us, hl with | [_], _ => rfl), .nil, dfl_nil⟩
  have F15 : C8.Fun K "read_program" "read_program" s_read_program f15 (PySem.W.fnOf "read_program" "read_program" (C8.fnArgs s_read_program) (C8.fnBody s_read_program) (C8.fnScope s_read_program) .none kV15 dc15 pm15 an15 cd15 ct15) := ⟨⟨oc15, od15, _, kV15, dc15, pm15, an15, cd15, ct15, sl15, rfl, l15, c15⟩⟩
  have D15 : DefD K mg "read_program" s_read_program ["text"] [] f15 (PySem.W.fnOf "read_program" "read_program" (C8.fnArgs s_read_program) (C8.fnBody s_read_program) (C8.fnScope s_read_program) .none kV15 dc15 pm15 an15 cd15 ct15) := ⟨F15, PySem.W.mg_of X G a15, k15, [], [], F15.binds rfl (fun _ _ _ _ _ _ us hl => match us, hl with | [_], _ => rfl), .nil, dfl_nil⟩
  have F16 : C8.Fun K "_law_bag" "_law_bag" s__law_bag f16 (PySem.W.fnOf "_law_bag" "_law_bag" (C8.fnArgs s__law_bag) (C8.fnBody s__law_bag) (C8.fnScope s__law_bag) .none kV16 dc16 pm16 an16 cd16 ct16) := ⟨⟨oc16, od16, _, kV16, dc16, pm16, an16, cd16, ct16, sl16, rfl, l16, c16⟩⟩
  have D16 : DefD K mg "_law_bag" s__law_bag ["_law_script", "_law_at"] [] f16 (PySem.W.fnOf "_law_bag" "_law_bag" (C8.fnArgs s__law_bag) (C8.fnBody s__law_bag) (C8.fnScope s__law_bag) .none kV16 dc16 pm16 an16 cd16 ct16) := ⟨F16, PySem.W.mg_of X G a16, k16, [], [], F16.binds rfl (fun _ _ _ _ _ _ us hl => match us, hl with | [_, _], _ => rfl), .nil, dfl_nil⟩
  have F17 : C8.Fun K "_law_take" "_law_take" s__law_take f17 (PySem.W.fnOf "_law_take" "_law_take" (C8.fnArgs s__law_take) (C8.fnBody s__law_take) (C8.fnScope s__law_take) .none kV17 dc17 pm17 an17 cd17 ct17) := ⟨⟨oc17, od17, _, kV17, dc17, pm17, an17, cd17, ct17, sl17, rfl, l17, c17⟩⟩
  have D17 : DefD K mg "_law_take" s__law_take ["_law_bag_here", "_law_many"] [] f17 (PySem.W.fnOf "_law_take" "_law_take" (C8.fnArgs s__law_take) (C8.fnBody s__law_take) (C8.fnScope s__law_take) .none kV17 dc17 pm17 an17 cd17 ct17) := ⟨F17, PySem.W.mg_of X G a17, k17, [], [], F17.binds rfl (fun _ _ _ _ _ _ us hl => match us, hl with | [_, _], _ => rfl), .nil, dfl_nil⟩
  have F18 : C8.Fun K "_law_leaf" "_law_leaf" s__law_leaf f18 (PySem.W.fnOf "_law_leaf" "_law_leaf" (C8.fnArgs s__law_leaf) (C8.fnBody s__law_leaf) (C8.fnScope s__law_leaf) .none kV18 dc18 pm18 an18 cd18 ct18) := ⟨⟨oc18, od18, _, kV18, dc18, pm18, an18, cd18, ct18, sl18, rfl, l18, c18⟩⟩
  have D18 : DefD K mg "_law_leaf" s__law_leaf ["_law_bag_here"] [] f18 (PySem.W.fnOf "_law_leaf" "_law_leaf" (C8.fnArgs s__law_leaf) (C8.fnBody s__law_leaf) (C8.fnScope s__law_leaf) .none kV18 dc18 pm18 an18 cd18 ct18) := ⟨F18, PySem.W.mg_of X G a18, k18, [], [], F18.binds rfl (fun _ _ _ _ _ _ us hl => match us, hl with | [_], _ => rfl), .nil, dfl_nil⟩
  have F19 : C8.Fun K "_law_web" "_law_web" s__law_web f19 (PySem.W.fnOf "_law_web" "_law_web" (C8.fnArgs s__law_web) (C8.fnBody s__law_web) (C8.fnScope s__law_web) .none kV19 dc19 pm19 an19 cd19 ct19) := ⟨⟨oc19, od19, _, kV19, dc19, pm19, an19, cd19, ct19, sl19, rfl, l19, c19⟩⟩
  have D19 : DefD K mg "_law_web" s__law_web ["_law_bag_here", "_law_many", "_law_shared"] [] f19 (PySem.W.fnOf "_law_web" "_law_web" (C8.fnArgs s__law_web) (C8.fnBody s__law_web) (C8.fnScope s__law_web) .none kV19 dc19 pm19 an19 cd19 ct19) := ⟨F19, PySem.W.mg_of X G a19, k19, [], [], F19.binds rfl (fun _ _ _ _ _ _ us hl => match us, hl with | [_, _, _], _ => rfl), .nil, dfl_nil⟩
  have F20 : C8.Fun K "_law_node" "_law_node" s__law_node f20 (PySem.W.fnOf "_law_node" "_law_node" (C8.fnArgs s__law_node) (C8.fnBody s__law_node) (C8.fnScope s__law_node) .none kV20 dc20 pm20 an20 cd20 ct20) := ⟨⟨oc20, od20, _, kV20, dc20, pm20, an20, cd20, ct20, sl20, rfl, l20, c20⟩⟩
  have D20 : DefD K mg "_law_node" s__law_node ["_law_node_here"] [] f20 (PySem.W.fnOf "_law_node" "_law_node" (C8.fnArgs s__law_node) (C8.fnBody s__law_node) (C8.fnScope s__law_node) .none kV20 dc20 pm20 an20 cd20 ct20) := ⟨F20, PySem.W.mg_of X G a20, k20, [], [], F20.binds rfl (fun _ _ _ _ _ _ us hl => match us, hl with | [_], _ => rfl), .nil, dfl_nil⟩
  have F21 : C8.Fun K "_law_text" "_law_text" s__law_text f21 (PySem.W.fnOf "_law_text" "_law_text" (C8.fnArgs s__law_text) (C8.fnBody s__law_text) (C8.fnScope s__law_text) .none kV21 dc21 pm21 an21 cd21 ct21) := ⟨⟨oc21, od21, _, kV21, dc21, pm21, an21, cd21, ct21, sl21, rfl, l21, c21⟩⟩
  have D21 : DefD K mg "_law_text" s__law_text ["_law_web_here"] [] f21 (PySem.W.fnOf "_law_text" "_law_text" (C8.fnArgs s__law_text) (C8.fnBody s__law_text) (C8.fnScope s__law_text) .none kV21 dc21 pm21 an21 cd21 ct21) := ⟨F21, PySem.W.mg_of X G a21, k21, [], [], F21.binds rfl (fun _ _ _ _ _ _ us hl => match us, hl with | [_], _ => rfl), .nil, dfl_nil⟩
  have F22 : C8.Fun K "law" "law" s_law f22 (PySem.W.fnOf "law" "law" (C8.fnArgs s_law) (C8.fnBody s_law) (C8.fnScope s_law) .none kV22 dc22 pm22 an22 cd22 ct22) := ⟨⟨oc22, od22, _, kV22, dc22, pm22, an22, cd22, ct22, sl22, rfl, l22, c22⟩⟩
  have T : Txt w K mg := {
    z_len := PySem.W.mg_none_of X G z_len
    z_all := PySem.W.mg_none_of X G z_all
    z_any := PySem.W.mg_none_of X G z_any
    z_abs := PySem.W.mg_none_of X G z_abs
    z_max := PySem.W.mg_none_of X G z_max
    z_min := PySem.W.mg_none_of X G z_min
    z_int := PySem.W.mg_none_of X G z_int
    z_str := PySem.W.mg_none_of X G z_str
    z_bool := PySem.W.mg_none_of X G z_bool
    z_list := PySem.W.mg_none_of X G z_list
    z_tuple := PySem.W.mg_none_of X G z_tuple
    z_set := PySem.W.mg_none_of X G z_set
    z_isinstance := PySem.W.mg_none_of X G z_isinstance
    z_range := PySem.W.mg_none_of X G z_range
    z_enumerate := PySem.W.mg_none_of X G z_enumerate
    g_MOST_WORD := ⟨_, PySem.W.mg_of X G g_MOST_WORD⟩
    g_MOST_LETTERS := ⟨_, PySem.W.mg_of X G g_MOST_LETTERS⟩
    g_LEAST_NODES := ⟨_, PySem.W.mg_of X G g_LEAST_NODES⟩
    g_MOST_NODES := ⟨_, PySem.W.mg_of X G g_MOST_NODES⟩
    g_MOST_FIGURES := ⟨_, PySem.W.mg_of X G g_MOST_FIGURES⟩
    g_MOST_LINES := ⟨_, PySem.W.mg_of X G g_MOST_LINES⟩
    g_LETTERS := ⟨_, PySem.W.mg_of X G g_LETTERS⟩
    g_FIGURES := ⟨_, PySem.W.mg_of X G g_FIGURES⟩
    g_BETWEEN := ⟨_, PySem.W.mg_of X G g_BETWEEN⟩
    g_DEEDS := ⟨_, PySem.W.mg_of X G g_DEEDS, ktup_strs (xs := ["put", "set"]) lD rfl rfl (Nat.le_of_ble_eq_true rfl) (.cons ⟨tD1, rfl⟩ (.cons ⟨tD2, rfl⟩ .nil))⟩
    g_KIDS := ⟨_, PySem.W.mg_of X G g_KIDS, kd_of lK litK wK kdK⟩
    g_MARKS := ⟨_, PySem.W.mg_of X G g_MARKS, kd_of lM litM wM kdM⟩
  }
  refine ⟨(PySem.W.fnOf "law" "law" (C8.fnArgs s_law) (C8.fnBody s_law) (C8.fnScope s_law) .none kV22 dc22 pm22 an22 cd22 ct22), fun s v => .of_eq rfl, fun base _ _ => ?_⟩
  have C_is_whole_1 := cal_is_whole (base := base) T D0a
  have C_is_whole_3 := cal_is_whole (base := base) T D0b
  have C_is_word := cal_is_word (base := base) T C_is_whole_1 D1
  have C_is_name := cal_is_name (base := base) T  D2
  have C_is_mark := cal_is_mark (base := base) T C_is_word C_is_name D3
  have C_is_node := cal_is_node (base := base) T C_is_whole_3 C_is_mark D4
  have C_all_kids := cal_all_kids (base := base) T  D5
  have C_is_web := cal_is_web (base := base) T C_is_node C_all_kids D6
  have C_plain_number := cal_plain_number (base := base) T  D7
  have C_show_node := cal_show_node (base := base) T  D8
  have C_show_web := cal_show_web (base := base) T C_show_node D9
  have C_show_program := cal_show_program (base := base) T C_show_web D10
  have C_read_mark := cal_read_mark (base := base) T C_plain_number D11
  have C_read_node := cal_read_node (base := base) T C_plain_number C_read_mark D12
  have C_web_in := cal_web_in (base := base) T C_read_node C_is_web D13
  have C_read_web := cal_read_web (base := base) T C_web_in D14
  have C_read_program := cal_read_program (base := base) T C_web_in D15
  have C__law_bag := cal__law_bag (base := base) T  D16
  have C__law_take := cal__law_take (base := base) T  D17
  have C__law_leaf := cal__law_leaf (base := base) T C__law_take D18
  have C__law_web := cal__law_web (base := base) T C__law_take C__law_leaf D19
  have C__law_node := cal__law_node (base := base) T  D20
  have C__law_text := cal__law_text (base := base) T C__law_node D21
  exact fn_law (base := base) T C_show_web C_show_program C_read_web C_read_program C__law_bag C__law_take C__law_web C__law_text F22
end
end K71
open PySem PySem.W PyProof.Rows
set_option maxRecDepth 100000 in
set_option maxHeartbeats 0 in
theorem PySem.Challenge.cw_coverrows_k71_webs_written_holds : PySem.Challenge.rw_coverrows_k71_webs_written.Holds := by
  w_on; o_law; k_head; (case hw => w_witness2)
  k_fill
  refine L2.walk_of (l := PySem.Challenge.rw_coverrows_k71_webs_written) (n := 63) (k := 8) (x := "_law_script") (CX := fun _ => L2.CX0) (sp := fun w => Dv.DSp _ K71.sp_law) rfl (by decide) rfl ⟨rfl, by decide, by decide⟩ (fun w h Y => PySem.W.kIn_of Y) ?F (fun _ _ a ns hl _ hS => Dv.sp_begin hS ⟨ns, rfl, hl, rfl, rfl⟩) (fun _ _ _ _ _ h => h)
  case F =>
    intro w mg fa h KX G hmg
    refine' K71.all_mk KX G hmg ?a0 ?l0 ?c0 ?k0 ?a1 ?l1 ?c1 ?k1 ?a2 ?l2 ?c2 ?k2 ?a3 ?l3 ?c3 ?k3 ?a4 ?l4 ?c4 ?k4 ?a5 ?l5 ?c5 ?k5 ?a6 ?l6 ?c6 ?k6 ?a7 ?l7 ?c7 ?k7 ?a8 ?l8 ?c8 ?k8 ?a9 ?l9 ?c9 ?k9 ?a10 ?l10 ?c10 ?k10 ?a11 ?l11 ?c11 ?k11 ?a12 ?l12 ?c12 ?k12 ?a13 ?l13 ?c13 ?k13 ?a14 ?l14 ?c14 ?k14 ?a15 ?l15 ?c15 ?k15 ?a16 ?l16 ?c16 ?k16 ?a17 ?l17 ?c17 ?k17 ?a18 ?l18 ?c18 ?k18 ?a19 ?l19 ?c19 ?k19 ?a20 ?l20 ?c20 ?k20 ?a21 ?l21 ?c21 ?k21 ?a22 ?l22 ?c22 ?k22 ?lT ?z_len ?z_all ?z_any ?z_abs ?z_max ?z_min ?z_int ?z_str ?z_bool ?z_list ?z_tuple ?z_set ?z_isinstance ?z_range ?z_enumerate ?g_MOST_WORD ?g_MOST_LETTERS ?g_LEAST_NODES ?g_MOST_NODES ?g_MOST_FIGURES ?g_MOST_LINES ?g_LETTERS ?g_FIGURES ?g_BETWEEN ?g_DEEDS ?lD ?g_KIDS ?lK ?g_MARKS ?lM ?wK ?wM ?litK ?litM ?kdK ?kdM
    (case a0 => k_is)
    (case l0 => k_is)
    (case c0 => k_is)
    (case k0 => k_is)
    (case a1 => k_is)
    (case l1 => k_is)
    (case c1 => k_is)
    (case k1 => k_is)
    (case a2 => k_is)
    (case l2 => k_is)
    (case c2 => k_is)
    (case k2 => k_is)
    (case a3 => k_is)
    (case l3 => k_is)
    (case c3 => k_is)
    (case k3 => k_is)
    (case a4 => k_is)
    (case l4 => k_is)
    (case c4 => k_is)
    (case k4 => k_is)
    (case a5 => k_is)
    (case l5 => k_is)
    (case c5 => k_is)
    (case k5 => k_is)
    (case a6 => k_is)
    (case l6 => k_is)
    (case c6 => k_is)
    (case k6 => k_is)
    (case a7 => k_is)
    (case l7 => k_is)
    (case c7 => k_is)
    (case k7 => k_is)
    (case a8 => k_is)
    (case l8 => k_is)
    (case c8 => k_is)
    (case k8 => k_is)
    (case a9 => k_is)
    (case l9 => k_is)
    (case c9 => k_is)
    (case k9 => k_is)
    (case a10 => k_is)
    (case l10 => k_is)
    (case c10 => k_is)
    (case k10 => k_is)
    (case a11 => k_is)
    (case l11 => k_is)
    (case c11 => k_is)
    (case k11 => k_is)
    (case a12 => k_is)
    (case l12 => k_is)
    (case c12 => k_is)
    (case k12 => k_is)
    (case a13 => k_is)
    (case l13 => k_is)
    (case c13 => k_is)
    (case k13 => k_is)
    (case a14 => k_is)
    (case l14 => k_is)
    (case c14 => k_is)
    (case k14 => k_is)
    (case a15 => k_is)
    (case l15 => k_is)
    (case c15 => k_is)
    (case k15 => k_is)
    (case a16 => k_is)
    (case l16 => k_is)
    (case c16 => k_is)
    (case k16 => k_is)
    (case a17 => k_is)
    (case l17 => k_is)
    (case c17 => k_is)
    (case k17 => k_is)
    (case a18 => k_is)
    (case l18 => k_is)
    (case c18 => k_is)
    (case k18 => k_is)
    (case a19 => k_is)
    (case l19 => k_is)
    (case c19 => k_is)
    (case k19 => k_is)
    (case a20 => k_is)
    (case l20 => k_is)
    (case c20 => k_is)
    (case k20 => k_is)
    (case a21 => k_is)
    (case l21 => k_is)
    (case c21 => k_is)
    (case k21 => k_is)
    (case a22 => k_is)
    (case l22 => k_is)
    (case c22 => k_is)
    (case k22 => k_is)
    (case lT => k_is)
    (case z_len => k_is)
    (case z_all => k_is)
    (case z_any => k_is)
    (case z_abs => k_is)
    (case z_max => k_is)
    (case z_min => k_is)
    (case z_int => k_is)
    (case z_str => k_is)
    (case z_bool => k_is)
    (case z_list => k_is)
    (case z_tuple => k_is)
    (case z_set => k_is)
    (case z_isinstance => k_is)
    (case z_range => k_is)
    (case z_enumerate => k_is)
    (case g_MOST_WORD => k_is)
    (case g_MOST_LETTERS => k_is)
    (case g_LEAST_NODES => k_is)
    (case g_MOST_NODES => k_is)
    (case g_MOST_FIGURES => k_is)
    (case g_MOST_LINES => k_is)
    (case g_LETTERS => k_is)
    (case g_FIGURES => k_is)
    (case g_BETWEEN => k_is)
    (case g_DEEDS => k_is)
    (case lD => k_is)
    (case g_KIDS => k_is)
    (case lK => k_is)
    (case g_MARKS => k_is)
    (case lM => k_is)
    (case wK => first | rfl | decide | k_is)
    (case wM => first | rfl | decide | k_is)
    (case litK => first | rfl | decide | k_is)
    (case litM => first | rfl | decide | k_is)
    (case kdK => repeat (first | exact Dv.KDs.nil | refine Dv.KDs.cons (v := .int _) rfl ⟨_, rfl⟩ (fun _ _ => .int _) rfl ?_ | refine Dv.KDs.cons (v := .str _) rfl ⟨_, rfl⟩ (fun _ _ => .str _) rfl ?_))
    (case kdM => repeat (first | exact Dv.KDs.nil | refine Dv.KDs.cons (v := .int _) rfl ⟨_, rfl⟩ (fun _ _ => .int _) rfl ?_ | refine Dv.KDs.cons (v := .str _) rfl ⟨_, rfl⟩ (fun _ _ => .str _) rfl ?_))

